import PyProof.Rows.All
import Wide.All
import OpenK.AllK
import Wide.FinOn
import HandS.ForMost
import HandS.Exc
import HandS.ExcOwn
import HandS.CallSlots
import HandS.WordsExc
import HandS.Flow
import HandS.TupAny
import HandS.Deep
import HandS.IsInst
import HandS.StrMore
import HandS.Codes
import HandS.Iter
import HandS.Zip
import HandS.Walk
import HandS.Rev
import HandS.TupMul
import PyProof.StrOps2
import HandS.Zip0
import PyProof.StrLawsTight
import PyProof.StrLawsChain
import PySem.Challenge.RW_votesaswritten_k01_names_words_lines
set_option Elab.async false
set_option linter.all false
set_option maxRecDepth 100000
namespace Mir
open PySem L2

/-! ## values, objects, results -/
inductive D where
  | non | bl (b : Bool) | int (i : Int) | str (s : Str) | tup (xs : List D) | fl (xs : List D) | ref (n : Nat)
inductive O where
  | lst (xs : List D)
  | dct (kvs : List (D × D))
  | st (xs : List D)
  | ins (C : Addr) (fs : List (Str × D))
abbrev Exn := Addr × List (Str × D)
abbrev Env := List (Option D)
abbrev MH := List O
inductive R (α : Type) where
  | ok (a : α) | exc (e : Exn) (Γ : Env) (h : MH) | stuck
def R.bind {α β : Type} : R α → (α → R β) → R β
  | .ok a, f => f a
  | .exc e Γ h, _ => .exc e Γ h
  | .stuck, _ => .stuck
def R.ofO {α : Type} : Option α → R α
  | some a => .ok a
  | none => .stuck
@[simp] theorem R.bind_ok {α β : Type} {a : α} {f : α → R β} : (R.ok a).bind f = f a := rfl
@[simp] theorem R.bind_exc {α β : Type} {e Γ h} {f : α → R β} : (R.exc e Γ h : R α).bind f = .exc e Γ h := rfl
@[simp] theorem R.bind_stuck {α β : Type} {f : α → R β} : (R.stuck : R α).bind f = .stuck := rfl
@[simp] theorem R.ofO_some {α : Type} {a : α} : R.ofO (some a) = .ok a := rfl
@[simp] theorem R.ofO_none {α : Type} : R.ofO (none : Option α) = .stuck := rfl
inductive Ctl where
  | nx | rt (d : D) | bk | ct

/-! ## what stands for what -/
def StT (K : PySem.W.Frag) (ι : List Addr) (H : Hp) (p : Addr) (vs : List V) : Prop := (p ∉ ι ∧ Rd H p (.tup vs)) ∨ ∀ H', SqT K H' p vs
def StL (K : PySem.W.Frag) (ι : List Addr) (H : Hp) (p : Addr) (vs : List V) : Prop := (p ∉ ι ∧ Rd H p (.lst vs)) ∨ ∀ H', SqL K H' p vs
mutual
def VR (K : PySem.W.Frag) (ι : List Addr) (H : Hp) : D → V → Prop
  | .non, v => v = .non
  | .bl b, v => v = .bl b
  | .int i, v => v = .int i
  | .str s, v => v = .str s
  | .tup ds, v => ∃ p vs, v = .ref p ∧ StT K ι H p vs ∧ VRs K ι H ds vs
  | .fl ds, v => ∃ p vs, v = .ref p ∧ StL K ι H p vs ∧ VRs K ι H ds vs
  | .ref n, v => ∃ p, v = .ref p ∧ ι[n]? = some p
def VRs (K : PySem.W.Frag) (ι : List Addr) (H : Hp) : List D → List V → Prop
  | [], vs => vs = []
  | d :: ds, vs => ∃ v r, vs = v :: r ∧ VR K ι H d v ∧ VRs K ι H ds r
end
def FRs (K : PySem.W.Frag) (ι : List Addr) (H : Hp) : List (Str × D) → List (Str × V) → Prop
  | [], vs => vs = []
  | d :: ds, vs => ∃ v r, vs = (d.1, v) :: r ∧ VR K ι H d.2 v ∧ FRs K ι H ds r
/-- an object of the mirror heap -/
def OR (K : PySem.W.Frag) (ι : List Addr) (H : Hp) (p : Addr) : O → Prop
  | .lst ds => ∃ vs, H p = some (.lst vs) ∧ VRs K ι H ds vs
  | .dct _ => False
  | .st _ => False
  | .ins C fs => ∃ dx vs, H p = some (.ins C dx vs) ∧ FRs K ι H fs vs
structure Ext (ι : List Addr) (H : Hp) (ι' : List Addr) (H' : Hp) : Prop where
  pre : ∃ new, ι' = ι ++ new ∧ ∀ p ∈ new, H p = none
  keep : ∀ b o, H b = some o → b ∉ ι → H' b = some o
  dom : ∀ b, H' b = none → H b = none
structure HR (K : PySem.W.Frag) (ι : List Addr) (H : Hp) (h : MH) : Prop where
  nd : ι.Nodup
  len : ι.length = h.length
  obj : ∀ (n : Nat) (o : O), h[n]? = some o → ∃ p, ι[n]? = some p ∧ OR K ι H p o
def ER (K : PySem.W.Frag) (ι : List Addr) (H : Hp) (Γ : Env) (σ : St) : Prop := Γ.length = σ.length ∧ ∀ (i : Nat) (d : D), Γ[i]? = some (some d) → ∃ v, σ[i]? = some (some v) ∧ VR K ι H d v
structure SR (K : PySem.W.Frag) (ι : List Addr) (H : Hp) (h : MH) (Γ : Env) (σ : St) : Prop where
  hr : HR K ι H h
  er : ER K ι H Γ σ
/-- an exception: its class, its dict -/
def XR (K : PySem.W.Frag) (ι : List Addr) (H : Hp) (e : Exn) (cls : Value) (d : Option Addr) : Prop :=
  cls = .ref e.1 ∧ ((d = none ∧ e.2 = []) ∨ ∃ a vs, d = some a ∧ H a = some (.xd vs) ∧ FRs K ι H e.2 vs)

section
variable {K : PySem.W.Frag} {ι ι' ι'' : List Addr} {H H' H'' : Hp} {h h' : MH} {Γ : Env} {σ : St}
theorem Ext.refl : Ext ι H ι H := ⟨⟨[], by simp, by simp⟩, fun _ _ h _ => h, fun _ h => h⟩
theorem Ext.trans (a : Ext ι H ι' H') (b : Ext ι' H' ι'' H'') : Ext ι H ι'' H'' := by
  obtain ⟨⟨n1, e1, f1⟩, k1, d1⟩ := a
  obtain ⟨⟨n2, e2, f2⟩, k2, d2⟩ := b
  subst e1; subst e2
  refine ⟨⟨n1 ++ n2, by rw [List.append_assoc], fun p hp => ?_⟩, fun c o hc hn => ?_, fun c hc => d1 c (d2 c hc)⟩
  · rcases List.mem_append.mp hp with hp | hp
    · exact f1 p hp
    · exact d1 p (f2 p hp)
  · refine k2 c o (k1 c o hc hn) fun hm => ?_
    rcases List.mem_append.mp hm with hm | hm
    · exact hn hm
    · rw [f1 c hm] at hc; cases hc
theorem Ext.get (e : Ext ι H ι' H') {n : Nat} {p : Addr} (g : ι[n]? = some p) : ι'[n]? = some p := by
  obtain ⟨⟨n1, e1, f1⟩, k1, d1⟩ := e
  subst e1
  obtain ⟨hn, _⟩ := List.getElem?_eq_some_iff.mp g
  rw [List.getElem?_append_left hn]
  exact g
theorem Ext.nin (e : Ext ι H ι' H') {p : Addr} {o : HO} (g : H p = some o) (hn : p ∉ ι) : p ∉ ι' := by
  obtain ⟨⟨n1, e1, f1⟩, k1, d1⟩ := e
  subst e1
  intro hm
  rcases List.mem_append.mp hm with hm | hm
  · exact hn hm
  · rw [f1 p hm] at g; cases g
theorem Ext.rd (e : Ext ι H ι' H') {p : Addr} {u : HO} (hn : p ∉ ι) (g : Rd H p u) : p ∉ ι' ∧ Rd H' p u := by
  rcases g with g | ⟨o, g⟩
  · exact ⟨e.nin g hn, .inl (e.keep _ _ g hn)⟩
  · exact ⟨e.nin g hn, .inr ⟨o, e.keep _ _ g hn⟩⟩
theorem StT.mono {p : Addr} {vs : List V} (e : Ext ι H ι' H') (g : StT K ι H p vs) : StT K ι' H' p vs := by
  rcases g with ⟨hn, g⟩ | g
  · exact .inl (e.rd hn g)
  · exact .inr g
theorem StL.mono {p : Addr} {vs : List V} (e : Ext ι H ι' H') (g : StL K ι H p vs) : StL K ι' H' p vs := by
  rcases g with ⟨hn, g⟩ | g
  · exact .inl (e.rd hn g)
  · exact .inr g
theorem StT.sq {p : Addr} {vs : List V} (g : StT K ι H p vs) : SqT K H p vs := by
  rcases g with ⟨_, g⟩ | g
  · exact .inl g
  · exact g H
theorem StL.sq {p : Addr} {vs : List V} (g : StL K ι H p vs) : SqL K H p vs := by
  rcases g with ⟨_, g⟩ | g
  · exact .inl g
  · exact g H
mutual
theorem VR.mono (e : Ext ι H ι' H') : ∀ (d : D) (v : V), VR K ι H d v → VR K ι' H' d v
  | .non, v, g => by unfold VR at *; exact g
  | .bl b, v, g => by unfold VR at *; exact g
  | .int i, v, g => by unfold VR at *; exact g
  | .str s, v, g => by unfold VR at *; exact g
  | .tup ds, v, g => by
    unfold VR at *
    obtain ⟨p, vs, h1, h2, h3⟩ := g
    exact ⟨p, vs, h1, h2.mono e, VRs.mono e ds vs h3⟩
  | .fl ds, v, g => by
    unfold VR at *
    obtain ⟨p, vs, h1, h2, h3⟩ := g
    exact ⟨p, vs, h1, h2.mono e, VRs.mono e ds vs h3⟩
  | .ref n, v, g => by
    unfold VR at *
    obtain ⟨p, h1, h2⟩ := g
    exact ⟨p, h1, e.get h2⟩
theorem VRs.mono (e : Ext ι H ι' H') : ∀ (ds : List D) (vs : List V), VRs K ι H ds vs → VRs K ι' H' ds vs
  | [], vs, g => by unfold VRs at *; exact g
  | d :: ds, vs, g => by
    unfold VRs at *
    obtain ⟨v, r, h1, h2, h3⟩ := g
    exact ⟨v, r, h1, VR.mono e d v h2, VRs.mono e ds r h3⟩
end
theorem FRs.mono (e : Ext ι H ι' H') : ∀ (ds : List (Str × D)) (vs : List (Str × V)), FRs K ι H ds vs → FRs K ι' H' ds vs
  | [], vs, g => g
  | d :: ds, vs, g => by
    obtain ⟨v, r, h1, h2, h3⟩ := g
    exact ⟨v, r, h1, VR.mono e _ _ h2, FRs.mono e ds r h3⟩
theorem ER.mono (e : Ext ι H ι' H') (g : ER K ι H Γ σ) : ER K ι' H' Γ σ := ⟨g.1, fun i d hd => let ⟨v, h1, h2⟩ := g.2 i d hd; ⟨v, h1, VR.mono e _ _ h2⟩⟩
theorem SR.to (g : SR K ι H h Γ σ) (e : Ext ι H ι' H') (hr : HR K ι' H' h') : SR K ι' H' h' Γ σ := ⟨hr, g.er.mono e⟩
theorem VRs.length : ∀ {ds : List D} {vs : List V}, VRs K ι H ds vs → ds.length = vs.length
  | [], vs, g => by unfold VRs at g; subst g; rfl
  | d :: ds, vs, g => by
    unfold VRs at g
    obtain ⟨v, r, h1, h2, h3⟩ := g
    subst h1
    simp [VRs.length h3]
theorem VRs.get : ∀ {ds : List D} {vs : List V} {i : Nat} {d : D}, VRs K ι H ds vs → ds[i]? = some d → ∃ v, vs[i]? = some v ∧ VR K ι H d v
  | [], vs, i, d, g, e => by simp at e
  | c :: ds, vs, i, d, g, e => by
    unfold VRs at g
    obtain ⟨v, r, h1, h2, h3⟩ := g
    subst h1
    cases i with
    | zero => simp at e; subst e; exact ⟨v, rfl, h2⟩
    | succ i =>
      obtain ⟨v', h4, h5⟩ := VRs.get (i := i) h3 (by simpa using e)
      exact ⟨v', by simpa using h4, h5⟩
theorem VRs.get' : ∀ {ds : List D} {vs : List V} {i : Nat} {v : V}, VRs K ι H ds vs → vs[i]? = some v → ∃ d, ds[i]? = some d ∧ VR K ι H d v
  | [], vs, i, v, g, e => by unfold VRs at g; subst g; simp at e
  | c :: ds, vs, i, v, g, e => by
    unfold VRs at g
    obtain ⟨v', r, h1, h2, h3⟩ := g
    subst h1
    cases i with
    | zero => simp at e; subst e; exact ⟨c, rfl, h2⟩
    | succ i =>
      obtain ⟨v', h4, h5⟩ := VRs.get' (i := i) h3 (by simpa using e)
      exact ⟨v', by simpa using h4, h5⟩
theorem VRs.append : ∀ {ds es : List D} {vs us : List V}, VRs K ι H ds vs → VRs K ι H es us → VRs K ι H (ds ++ es) (vs ++ us)
  | [], es, vs, us, g, g' => by unfold VRs at g; subst g; exact g'
  | d :: ds, es, vs, us, g, g' => by
    unfold VRs at g
    obtain ⟨v, r, h1, h2, h3⟩ := g
    subst h1
    show VRs K ι H (d :: (ds ++ es)) (v :: (r ++ us))
    unfold VRs
    exact ⟨v, _, rfl, h2, VRs.append h3 g'⟩
theorem VRs.take : ∀ {ds : List D} {vs : List V} (n : Nat), VRs K ι H ds vs → VRs K ι H (ds.take n) (vs.take n)
  | _, _, 0, _ => by simp [VRs]
  | [], vs, n + 1, g => by unfold VRs at g; subst g; simp [VRs]
  | d :: ds, vs, n + 1, g => by
    unfold VRs at g
    obtain ⟨v, r, h1, h2, h3⟩ := g
    subst h1
    simp only [List.take_succ_cons, VRs]
    exact ⟨v, _, rfl, h2, VRs.take n h3⟩
theorem VRs.drop : ∀ {ds : List D} {vs : List V} (n : Nat), VRs K ι H ds vs → VRs K ι H (ds.drop n) (vs.drop n)
  | _, _, 0, g => by simpa using g
  | [], vs, n + 1, g => by unfold VRs at g; subst g; simp [VRs]
  | d :: ds, vs, n + 1, g => by
    unfold VRs at g
    obtain ⟨v, r, h1, h2, h3⟩ := g
    subst h1
    simp only [List.drop_succ_cons]
    exact VRs.drop n h3
theorem VRs.set : ∀ {ds : List D} {vs : List V} {d : D} {v : V} (n : Nat), VRs K ι H ds vs → VR K ι H d v → VRs K ι H (ds.set n d) (vs.set n v)
  | [], vs, _, _, n, g, _ => by unfold VRs at g; subst g; simp [VRs]
  | d :: ds, vs, d', v', n, g, g' => by
    unfold VRs at g
    obtain ⟨v, r, h1, h2, h3⟩ := g
    subst h1
    cases n with
    | zero => simp only [List.set_cons_zero, VRs]; exact ⟨v', _, rfl, g', h3⟩
    | succ n => simp only [List.set_cons_succ, VRs]; exact ⟨v, _, rfl, h2, VRs.set n h3 g'⟩
theorem VRs.single {d : D} {v : V} (g : VR K ι H d v) : VRs K ι H [d] [v] := by
  unfold VRs; exact ⟨v, [], rfl, g, by unfold VRs; rfl⟩
theorem VRs.nil : VRs K ι H [] [] := by unfold VRs; rfl
theorem VRs.cons {d : D} {ds : List D} {v : V} {vs : List V} (g : VR K ι H d v) (g' : VRs K ι H ds vs) : VRs K ι H (d :: ds) (v :: vs) := by
  unfold VRs; exact ⟨v, vs, rfl, g, g'⟩
theorem VRs.reverse : ∀ {ds : List D} {vs : List V}, VRs K ι H ds vs → VRs K ι H ds.reverse vs.reverse
  | [], vs, g => by unfold VRs at g; subst g; exact .nil
  | d :: ds, vs, g => by
    unfold VRs at g
    obtain ⟨v, r, h1, h2, h3⟩ := g
    subst h1
    rw [List.reverse_cons, List.reverse_cons]
    exact (VRs.reverse h3).append (.single h2)
theorem OR.mono {p : Addr} {o : O} (e : Ext ι H ι' H') (hp : H' p = H p) (g : OR K ι H p o) : OR K ι' H' p o := by
  cases o with
  | lst ds => obtain ⟨vs, h1, h2⟩ := g; exact ⟨vs, hp.trans h1, VRs.mono e _ _ h2⟩
  | dct kvs => exact g
  | st xs => exact g
  | ins C fs => obtain ⟨dx, vs, h1, h2⟩ := g; exact ⟨dx, vs, hp.trans h1, FRs.mono e _ _ h2⟩
theorem OR.there {p : Addr} {o : O} (g : OR K ι H p o) : H p ≠ none := by
  cases o with
  | lst ds => obtain ⟨vs, h1, h2⟩ := g; rw [h1]; exact fun z => nomatch z
  | dct kvs => exact g.elim
  | st xs => exact g.elim
  | ins C fs => obtain ⟨dx, vs, h1, h2⟩ := g; rw [h1]; exact fun z => nomatch z
theorem HR.there (g : HR K ι H h) {p : Addr} (hp : p ∈ ι) : H p ≠ none := by
  obtain ⟨n, hn, e⟩ := List.getElem_of_mem hp
  have hl : n < h.length := by rw [← g.len]; exact hn
  obtain ⟨q, h1, h2⟩ := g.obj n h[n] (List.getElem?_eq_getElem hl)
  rw [List.getElem?_eq_getElem hn, e] at h1
  cases h1
  exact h2.there
theorem HR.notup (g : HR K ι H h) {p : Addr} {vs : List V} (hp : p ∈ ι) : ¬ Rd H p (.tup vs) := by
  intro hr
  obtain ⟨n, hn, e⟩ := List.getElem_of_mem hp
  have hl : n < h.length := by rw [← g.len]; exact hn
  obtain ⟨q, h1, h2⟩ := g.obj n h[n] (List.getElem?_eq_getElem hl)
  rw [List.getElem?_eq_getElem hn, e] at h1
  cases h1
  generalize h[n] = o at h2
  cases o with
  | lst ds => obtain ⟨us, h3, _⟩ := h2; rcases hr with hr | ⟨_, hr⟩ <;> · rw [hr] at h3; cases h3
  | dct kvs => exact h2
  | st xs => exact h2
  | ins C fs => obtain ⟨dx, us, h3, _⟩ := h2; rcases hr with hr | ⟨_, hr⟩ <;> · rw [hr] at h3; cases h3
/-- a new untracked address is laid -/
theorem Ext.laid {p : Addr} {o : HO} (hp : H p = none) : Ext ι H ι (upd H p o) := by
  refine ⟨⟨[], by simp, by simp⟩, fun b u hb _ => ?_, fun b hb => ?_⟩
  · rw [upd_ne (ne_of_none hb hp)]; exact hb
  · by_cases e : b = p
    · subst e; rw [upd_same] at hb; cases hb
    · rw [upd_ne e] at hb; exact hb
theorem HR.laid (g : HR K ι H h) {p : Addr} {o : HO} (hp : H p = none) : HR K ι (upd H p o) h := by
  refine ⟨g.nd, g.len, fun n u hu => ?_⟩
  obtain ⟨q, h1, h2⟩ := g.obj n u hu
  refine ⟨q, h1, h2.mono (.laid hp) (upd_ne fun e => ?_)⟩
  subst e
  exact h2.there hp
theorem HR.nin (g : HR K ι H h) {p : Addr} (hp : H p = none) : p ∉ ι := fun hm => g.there hm hp
/-- a new object of the mirror heap -/
theorem Ext.alloc {p : Addr} {o : HO} (hp : H p = none) : Ext ι H (ι ++ [p]) (upd H p o) := by
  refine ⟨⟨[p], rfl, by simp [hp]⟩, fun b u hb _ => ?_, fun b hb => ?_⟩
  · rw [upd_ne (ne_of_none hb hp)]; exact hb
  · by_cases e : b = p
    · subst e; rw [upd_same] at hb; cases hb
    · rw [upd_ne e] at hb; exact hb
theorem HR.alloc (g : HR K ι H h) {p : Addr} {o : HO} {u : O} (hp : H p = none) (hu : OR K (ι ++ [p]) (upd H p o) p u) : HR K (ι ++ [p]) (upd H p o) (h ++ [u]) := by
  refine ⟨?_, by simp [g.len], fun n w hw => ?_⟩
  · rw [List.nodup_append]
    refine ⟨g.nd, by simp, fun a ha b hb => ?_⟩
    have : b = p := by simpa using hb
    subst this
    rintro rfl
    exact g.nin hp ha
  · by_cases hn : n < h.length
    · rw [List.getElem?_append_left hn] at hw
      obtain ⟨q, h1, h2⟩ := g.obj n w hw
      refine ⟨q, ?_, h2.mono (.alloc hp) (upd_ne fun e => ?_)⟩
      · rw [List.getElem?_append_left (by rw [g.len]; exact hn)]; exact h1
      · subst e; exact h2.there hp
    · have hl : n < (h ++ [u]).length := (List.getElem?_eq_some_iff.mp hw).1
      have en : n = h.length := by simp at hl; omega
      subst en
      have : w = u := by
        rw [List.getElem?_append_right (Nat.le_refl _)] at hw
        simpa using hw.symm
      subst this
      refine ⟨p, ?_, hu⟩
      rw [← g.len, List.getElem?_append_right (Nat.le_refl _)]
      simp
/-- an object of the mirror heap is changed -/
theorem Ext.write {n : Nat} {p : Addr} {o : HO} (hp : ι[n]? = some p) : Ext ι H ι (upd H p o) := by
  have hm : p ∈ ι := List.mem_of_getElem? hp
  refine ⟨⟨[], by simp, by simp⟩, fun b u hb hn => ?_, fun b hb => ?_⟩
  · rw [upd_ne (by rintro rfl; exact hn hm)]; exact hb
  · by_cases e : b = p
    · subst e; rw [upd_same] at hb; cases hb
    · rw [upd_ne e] at hb; exact hb
theorem HR.write (g : HR K ι H h) {n : Nat} {p : Addr} {o : HO} {u : O} (hp : ι[n]? = some p) (hu : OR K ι (upd H p o) p u) : HR K ι (upd H p o) (h.set n u) := by
  refine ⟨g.nd, by simp [g.len], fun m w hw => ?_⟩
  by_cases hm : m = n
  · subst hm
    have hl : m < h.length := by
      have := (List.getElem?_eq_some_iff.mp hp).1
      rw [g.len] at this; exact this
    rw [List.getElem?_set_self hl] at hw
    cases hw
    exact ⟨p, hp, hu⟩
  · rw [List.getElem?_set_ne (Ne.symm hm)] at hw
    obtain ⟨q, h1, h2⟩ := g.obj m w hw
    refine ⟨q, h1, h2.mono (.write hp) (upd_ne fun e => ?_)⟩
    subst e
    exact hm ((List.getElem?_inj (List.getElem?_eq_some_iff.mp h1).1 g.nd).mp (h1.trans hp.symm))
end
end Mir
namespace Mir
open PySem L2

/-! ## readings by a mirror -/
/-- what follows a part whose mirror ends with r -/
def Out {α β : Type} (rel : List Addr → Hp → α → β → Prop) (K : PySem.W.Frag) (W : WX) (ι : List Addr) (H : Hp) (σ : St) (r : R (α × MH)) (Q : β → Hp → Prop) : Prop :=
  match r with
  | .ok (a, h') => ∀ b ι' H', HR K ι' H' h' → rel ι' H' a b → Ext ι H ι' H' → Q b H'
  | .exc e Γ' h' => ∀ ι' H' cls dd, SR K ι' H' h' Γ' σ → XR K ι' H' e cls dd → Ext ι H ι' H' → W cls dd σ H'
  | .stuck => False
def tX {α β : Type} (rel : List Addr → Hp → α → β → Prop) (K : PySem.W.Frag) (W : WX) (m : Env → MH → R (α × MH)) : St → Hp → (β → Hp → Prop) → Prop :=
  fun σ H Q => ∃ ι Γ h, SR K ι H h Γ σ ∧ Out rel K W ι H σ (m Γ h) Q
abbrev EM := Env → MH → R (D × MH)
abbrev TM := Env → MH → R (Bool × MH)
abbrev AM := Env → MH → R (List D × MH)
abbrev SM := Env → MH → R (Ctl × Env × MH)
abbrev tM (K : PySem.W.Frag) (W : WX) (m : EM) : TE := tX (VR K) K W m
abbrev tMt (K : PySem.W.Frag) (W : WX) (m : TM) : TT := tX (fun _ _ (a b : Bool) => a = b) K W m
abbrev tMa (K : PySem.W.Frag) (W : WX) (m : AM) : TA := tX (VRs K) K W m
/-- a new list, made last: its items; it is read (frozen), or laid to the mirror heap -/
def OutF (K : PySem.W.Frag) (W : WX) (ι : List Addr) (H : Hp) (σ : St) (r : R (List D × MH)) (Q : VK) : Prop :=
  Out (VRs K) K W ι H σ r fun vs H' => ∀ p, H' p = none → Q (.ref p) (upd H' p (.lst vs))
def tMf (K : PySem.W.Frag) (W : WX) (m : AM) : TE := fun σ H Q => tX (VRs K) K W m σ H fun vs H' => ∀ p, H' p = none → Q (.ref p) (upd H' p (.lst vs))
def OutS (K : PySem.W.Frag) (W : WX) (ι : List Addr) (H : Hp) (r : R (Ctl × Env × MH)) (Dn : Ends) : Prop :=
  match r with
  | .ok (.nx, Γ', h') => ∀ σ' ι' H', SR K ι' H' h' Γ' σ' → Ext ι H ι' H' → Dn.nx σ' H'
  | .ok (.rt d, _, h') => ∀ v ι' H', HR K ι' H' h' → VR K ι' H' d v → Ext ι H ι' H' → Dn.rt v H'
  | .ok (.bk, Γ', h') => ∀ σ' ι' H', SR K ι' H' h' Γ' σ' → Ext ι H ι' H' → Dn.bk σ' H'
  | .ok (.ct, Γ', h') => ∀ σ' ι' H', SR K ι' H' h' Γ' σ' → Ext ι H ι' H' → Dn.ct σ' H'
  | .exc e Γ' h' => ∀ σ' ι' H' cls dd, SR K ι' H' h' Γ' σ' → XR K ι' H' e cls dd → Ext ι H ι' H' → W cls dd σ' H'
  | .stuck => False
def tS (K : PySem.W.Frag) (W : WX) (m : SM) : TS := fun Dn σ H => ∃ ι Γ h, SR K ι H h Γ σ ∧ OutS K W ι H (m Γ h) Dn

section
variable {K : PySem.W.Frag} {W : WX} {ι ι' : List Addr} {H H' : Hp} {h h' : MH} {Γ : Env} {σ : St} {α β γ δ : Type}
theorem Out.mono {rel : List Addr → Hp → α → β → Prop} {r : R (α × MH)} {Q : β → Hp → Prop} (e : Ext ι H ι' H') (o : Out rel K W ι H σ r Q) : Out rel K W ι' H' σ r Q := by
  cases r with
  | ok p => exact fun b ι2 H2 h1 h2 h3 => o b ι2 H2 h1 h2 (e.trans h3)
  | exc x Γ h => exact fun ι2 H2 cls dd h1 h2 h3 => o ι2 H2 cls dd h1 h2 (e.trans h3)
  | stuck => exact o
theorem OutS.mono {r : R (Ctl × Env × MH)} {Dn : Ends} (e : Ext ι H ι' H') (o : OutS K W ι H r Dn) : OutS K W ι' H' r Dn := by
  cases r with
  | ok p =>
    obtain ⟨c, Γ, h⟩ := p
    cases c with
    | nx => exact fun σ2 ι2 H2 h1 h3 => o σ2 ι2 H2 h1 (e.trans h3)
    | rt d => exact fun v ι2 H2 h1 h2 h3 => o v ι2 H2 h1 h2 (e.trans h3)
    | bk => exact fun σ2 ι2 H2 h1 h3 => o σ2 ι2 H2 h1 (e.trans h3)
    | ct => exact fun σ2 ι2 H2 h1 h3 => o σ2 ι2 H2 h1 (e.trans h3)
  | exc x Γ h => exact fun σ2 ι2 H2 cls dd h1 h2 h3 => o σ2 ι2 H2 cls dd h1 h2 (e.trans h3)
  | stuck => exact o
/-- a part, then what follows -/
theorem Out.bind {rel : List Addr → Hp → α → β → Prop} {rel' : List Addr → Hp → γ → δ → Prop} {r : R (α × MH)} {f : α × MH → R (γ × MH)} {Q : δ → Hp → Prop} {Q1 : β → Hp → Prop}
    (o : Out rel' K W ι H σ (r.bind f) Q)
    (k : ∀ a h1 b ι1 H1, HR K ι1 H1 h1 → rel ι1 H1 a b → Ext ι H ι1 H1 → Out rel' K W ι1 H1 σ (f (a, h1)) Q → Q1 b H1) : Out rel K W ι H σ r Q1 := by
  cases r with
  | ok p =>
    obtain ⟨a, h1⟩ := p
    exact fun b ι1 H1 q1 q2 q3 => k a h1 b ι1 H1 q1 q2 q3 (Out.mono q3 o)
  | exc x Γ h => exact o
  | stuck => exact o
theorem Out.bindS {rel : List Addr → Hp → α → β → Prop} {r : R (α × MH)} {f : α × MH → R (Ctl × Env × MH)} {Dn : Ends} {Q1 : β → Hp → Prop}
    (o : OutS K W ι H (r.bind f) Dn) 
    (k : ∀ a h1 b ι1 H1, HR K ι1 H1 h1 → rel ι1 H1 a b → Ext ι H ι1 H1 → OutS K W ι1 H1 (f (a, h1)) Dn → Q1 b H1) : Out rel K W ι H σ r Q1 := by
  cases r with
  | ok p =>
    obtain ⟨a, h1⟩ := p
    exact fun b ι1 H1 q1 q2 q3 => k a h1 b ι1 H1 q1 q2 q3 (OutS.mono q3 o)
  | exc x Γ h => exact fun ι1 H1 cls dd q1 q2 q3 => o σ ι1 H1 cls dd q1 q2 q3
  | stuck => exact o
/-- the end of an expression whose rule adds nothing that can raise -/
theorem Out.fin {rel : List Addr → Hp → α → β → Prop} {o : Option (α × MH)} {Q : β → Hp → Prop} (q : Out rel K W ι H σ (R.ofO o) Q) :
    ∃ a h', o = some (a, h') ∧ ∀ b ι' H', HR K ι' H' h' → rel ι' H' a b → Ext ι H ι' H' → Q b H' := by
  cases o with
  | none => exact q.elim
  | some p => obtain ⟨a, h'⟩ := p; exact ⟨a, h', rfl, q⟩
end

/-! ## consequence -/
section
variable {X : Cx}
theorem _root_.L2.PE.imp {e : Expr} {t t' : TE} (g : PE X e t) (k : ∀ σ H Q, t' σ H Q → t σ H Q) : PE X e t' := ⟨fun pins s σ H Q I h => g.run pins s σ H Q I (k σ H Q h)⟩
theorem _root_.L2.PT.imp {e : Expr} {t t' : TT} (g : PT X e t) (k : ∀ σ H Q, t' σ H Q → t σ H Q) : PT X e t' := ⟨fun pins s σ H Q I h => g.run pins s σ H Q I (k σ H Q h)⟩
theorem _root_.L2.PA.imp {e : List Expr} {t t' : TA} (g : PA X e t) (k : ∀ σ H Q, t' σ H Q → t σ H Q) : PA X e t' := ⟨fun pos pins s σ H Q I h => g.run pos pins s σ H Q I (k σ H Q h)⟩
theorem _root_.L2.PS.imp {e : Stmt} {t t' : TS} (g : PS X e t) (k : ∀ Dn σ H, t' Dn σ H → t Dn σ H) : PS X e t' := ⟨fun pins s σ H Dn I h => g.run pins s σ H Dn I (k Dn σ H h)⟩
theorem _root_.L2.PSs.imp {e : List Stmt} {t t' : TS} (g : PSs X e t) (k : ∀ Dn σ H, t' Dn σ H → t Dn σ H) : PSs X e t' := ⟨fun pins s σ H Dn I h => g.run pins s σ H Dn I (k Dn σ H h)⟩
end

/-! ## expressions -/
def mVar (i : Nat) : EM := fun Γ h => match Γ[i]? with
  | some (some d) => .ok (d, h)
  | _ => .stuck
def mC (d : D) : EM := fun _ h => .ok (d, h)
def mBin (f : D → D → MH → Option (D × MH)) (a b : EM) : EM := fun Γ h => (a Γ h).bind fun p => (b Γ p.2).bind fun q => R.ofO (f p.1 q.1 q.2)
def mUn (f : D → MH → Option (D × MH)) (a : EM) : EM := fun Γ h => (a Γ h).bind fun p => R.ofO (f p.1 p.2)
def mIf (c : TM) (a b : EM) : EM := fun Γ h => (c Γ h).bind fun p => if p.1 = true then a Γ p.2 else b Γ p.2
def mNil : AM := fun _ h => .ok ([], h)
def mCons (a : EM) (r : AM) : AM := fun Γ h => (a Γ h).bind fun p => (r Γ p.2).bind fun q => .ok (p.1 :: q.1, q.2)
def mTup (r : AM) : EM := fun Γ h => (r Γ h).bind fun p => R.ofO (if p.1.length ≤ 1000000 then some (.tup p.1, p.2) else none)
/-- a new list as it is read: frozen -/
def mFz (r : AM) : EM := fun Γ h => (r Γ h).bind fun p => .ok (.fl p.1, p.2)
/-- a new list laid to the mirror heap -/
def mNew (r : AM) : EM := fun Γ h => (r Γ h).bind fun p => .ok (.ref p.2.length, p.2 ++ [.lst p.1])
def mLst (r : AM) : AM := fun Γ h => (r Γ h).bind fun p => R.ofO (if p.1.length ≤ 1000000 then some (p.1, p.2) else none)
theorem sz6 {n : Nat} (h : n ≤ 1000000) : n ≤ sizeLine := Nat.le_trans h (by decide)

section
variable {X : Cx} {W : WX} {a b c e : Expr} {ma mb mc : EM} {pos : Pos} {es : List Expr} {mr : AM} {mt : TM}
/-- operations by values -/
def OpM (X : Cx) (f : Value → Value → Sem Value) (g : D → D → MH → Option (D × MH)) : Prop :=
  ∃ t : R2, OpR X f t ∧ ∀ (ι : List Addr) (H : Hp) (h : MH) (x y : V) (dx dy d : D) (h' : MH) (Q : VK), HR X.K ι H h → VR X.K ι H dx x → VR X.K ι H dy y → g dx dy h = some (d, h') →
    (∀ v ι' H', HR X.K ι' H' h' → VR X.K ι' H' d v → Ext ι H ι' H' → Q v H') → t x y H Q
def UnM (X : Cx) (f : Value → Sem Value) (g : D → MH → Option (D × MH)) : Prop :=
  ∃ t : V → Hp → VK → Prop, UnR X f t ∧ ∀ (ι : List Addr) (H : Hp) (h : MH) (x : V) (dx d : D) (h' : MH) (Q : VK), HR X.K ι H h → VR X.K ι H dx x → g dx h = some (d, h') →
    (∀ v ι' H', HR X.K ι' H' h' → VR X.K ι' H' d v → Ext ι H ι' H' → Q v H') → t x H Q
theorem OpM.or {f : Value → Value → Sem Value} {g g' : D → D → MH → Option (D × MH)} (k : OpM X f g) (k' : OpM X f g') : OpM X f fun x y h => (g x y h).or (g' x y h) := by
  obtain ⟨t, o, q⟩ := k
  obtain ⟨t', o', q'⟩ := k'
  refine ⟨_, o.or o', fun ι H h x y dx dy d h' Q r1 r2 r3 e r4 => ?_⟩
  have e2 : (g dx dy h).or (g' dx dy h) = some (d, h') := e
  cases z : g dx dy h with
  | some p =>
    rw [z] at e2
    exact .inl (q ι H h x y dx dy d h' Q r1 r2 r3 (z.trans e2) r4)
  | none =>
    rw [z] at e2
    exact .inr (q' ι H h x y dx dy d h' Q r1 r2 r3 e2 r4)

theorem SR.var {K : PySem.W.Frag} {ι : List Addr} {H : Hp} {h : MH} {Γ : Env} {σ : St} (g : SR K ι H h Γ σ) {i : Nat} {d : D} (e : Γ[i]? = some (some d)) : ∃ v, σ[i]? = some (some v) ∧ VR K ι H d v := g.er.2 i d e
theorem pm_var (i : Nat) (p : PE X e (tVar i)) : PE X e (tM X.K W (mVar i)) := by
  refine p.imp fun σ H Q ⟨ι, Γ, h, g, o⟩ => ?_
  unfold mVar at o
  split at o
  · rename_i d hd
    obtain ⟨v, h1, h2⟩ := g.var hd
    exact ⟨v, h1, o v ι H g.hr h2 .refl⟩
  · exact o.elim
theorem pm_c {v : V} {d : D} (p : PE X e (tC v)) (r : ∀ ι H, VR X.K ι H d v) : PE X e (tM X.K W (mC d)) :=
  p.imp fun σ H Q ⟨ι, Γ, h, g, o⟩ => o v ι H g.hr (r ι H) .refl
theorem vr_int {K ι H i} : VR K ι H (.int i) (.int i) := by unfold VR; rfl
theorem vr_bl {K ι H i} : VR K ι H (.bl i) (.bl i) := by unfold VR; rfl
theorem vr_str {K ι H i} : VR K ι H (.str i) (.str i) := by unfold VR; rfl
theorem vr_non {K ι H} : VR K ι H .non .non := by unfold VR; rfl
theorem pm_int {i j} : PE X (.Constant (.int i) j pos) (tM X.K W (mC (.int i))) := pm_c pe_int fun _ _ => vr_int
theorem pm_bl {i j} : PE X (.Constant (.bool i) j pos) (tM X.K W (mC (.bl i))) := pm_c pe_bl fun _ _ => vr_bl
theorem pm_str {i j} : PE X (.Constant (.str i) j pos) (tM X.K W (mC (.str i))) := pm_c pe_str fun _ _ => vr_str
theorem pm_non {j} : PE X (.Constant .none j pos) (tM X.K W (mC .non)) := pm_c pe_non fun _ _ => vr_non
/-- two in a row -/
theorem two {t : R2} {f : D → D → MH → Option (D × MH)} (q : ∀ (ι : List Addr) (H : Hp) (h : MH) (x y : V) (dx dy d : D) (h' : MH) (Q : VK), HR X.K ι H h → VR X.K ι H dx x → VR X.K ι H dy y → f dx dy h = some (d, h') →
    (∀ v ι' H', HR X.K ι' H' h' → VR X.K ι' H' d v → Ext ι H ι' H' → Q v H') → t x y H Q) {σ : St} {H : Hp} {Q : VK} (o : tM X.K W (mBin f ma mb) σ H Q) : tOp t (tM X.K W ma) (tM X.K W mb) σ H Q := by
  obtain ⟨ι, Γ, h, g, o⟩ := o
  refine ⟨ι, Γ, h, g, Out.bind o fun d1 h1 v1 ι1 H1 r1 x1 e1 o1 => ?_⟩
  refine ⟨ι1, Γ, h1, g.to e1 r1, Out.bind o1 fun d2 h2 v2 ι2 H2 r2 x2 e2 o2 => ?_⟩
  obtain ⟨d, h', ef, k⟩ := o2.fin
  exact q ι2 H2 h2 v1 v2 d1 d2 d h' Q r2 (VR.mono e2 _ _ x1) x2 ef k
theorem pm_bin {op : Operator} {f : D → D → MH → Option (D × MH)} (ho : OpM X (binaryOp op) f) (ha : PE X a (tM X.K W ma)) (hb : PE X b (tM X.K W mb)) : PE X (.BinOp a op b pos) (tM X.K W (mBin f ma mb)) := by
  obtain ⟨t, o, q⟩ := ho
  exact (pe_op o ha hb).imp fun σ H Q z => two q z
theorem pm_cmp {op : CmpOp} {f : D → D → MH → Option (D × MH)} (ho : OpM X (compareOp op) f) (ha : PE X a (tM X.K W ma)) (hb : PE X b (tM X.K W mb)) (hm : behindInMarks op b = false) : PE X (.Compare a [op] [b] pos) (tM X.K W (mBin f ma mb)) := by
  obtain ⟨t, o, q⟩ := ho
  exact (pe_cmpR o ha hb hm).imp fun σ H Q z => two q z
theorem pm_un {op : UnaryOp} {f : D → MH → Option (D × MH)} (ho : UnM X (unaryOp op) f) (ha : PE X a (tM X.K W ma)) : PE X (.UnaryOp op a pos) (tM X.K W (mUn f ma)) := by
  obtain ⟨t, o, q⟩ := ho
  refine (pe_un o ha).imp fun σ H Q ⟨ι, Γ, h, g, o⟩ => ?_
  refine ⟨ι, Γ, h, g, Out.bind o fun d1 h1 v1 ι1 H1 r1 x1 e1 o1 => ?_⟩
  obtain ⟨d, h', ef, k⟩ := o1.fin
  exact q ι1 H1 h1 v1 d1 d h' Q r1 x1 ef k
theorem pm_if (hc : PT X c (tMt X.K W mt)) (ha : PE X a (tM X.K W ma)) (hb : PE X b (tM X.K W mb)) : PE X (.IfExp c a b pos) (tM X.K W (mIf mt ma mb)) := by
  refine (pe_ifExp hc ha hb).imp fun σ H Q ⟨ι, Γ, h, g, o⟩ => ?_
  refine ⟨ι, Γ, h, g, Out.bind o fun d1 h1 v1 ι1 H1 r1 x1 e1 o1 => ?_⟩
  subst x1
  cases d1 with
  | true => exact ⟨ι1, Γ, h1, g.to e1 r1, o1⟩
  | false => exact ⟨ι1, Γ, h1, g.to e1 r1, o1⟩
theorem am_nil : PA X [] (tMa X.K W mNil) := pa_nil.imp fun σ H Q ⟨ι, Γ, h, g, o⟩ => o [] ι H g.hr .nil .refl
theorem am_cons (ha : PE X a (tM X.K W ma)) (hr : PA X es (tMa X.K W mr)) (hs : starEach (a :: es) X.env = (false, eval a X.env) :: starEach es X.env := by rfl) : PA X (a :: es) (tMa X.K W (mCons ma mr)) := by
  refine (pa_cons ha hr hs).imp fun σ H Q ⟨ι, Γ, h, g, o⟩ => ?_
  refine ⟨ι, Γ, h, g, Out.bind o fun d1 h1 v1 ι1 H1 r1 x1 e1 o1 => ?_⟩
  refine ⟨ι1, Γ, h1, g.to e1 r1, Out.bind o1 fun d2 h2 v2 ι2 H2 r2 x2 e2 o2 => ?_⟩
  exact o2 (v1 :: v2) ι2 H2 r2 (.cons (VR.mono e2 _ _ x1) x2) .refl
/-- a rule for fewer cases -/
theorem OpM.imp {f : Value → Value → Sem Value} {g g' : D → D → MH → Option (D × MH)} (k : OpM X f g) (i : ∀ x y h p, g' x y h = some p → g x y h = some p) : OpM X f g' := by
  obtain ⟨t, o, q⟩ := k
  exact ⟨t, o, fun ι H h x y dx dy d h' Q r1 r2 r3 e r4 => q ι H h x y dx dy d h' Q r1 r2 r3 (i _ _ _ _ e) r4⟩
/-! ### displays -/
theorem pm_tup {k} (hr : PA X es (tMa X.K W mr)) : PE X (.Tuple es k pos) (tM X.K W (mTup mr)) := by
  refine (pe_tup hr).imp fun σ H Q ⟨ι, Γ, h, g, o⟩ => ?_
  refine ⟨ι, Γ, h, g, Out.bind o fun ds h1 vs ι1 H1 r1 x1 e1 o1 => ?_⟩
  obtain ⟨d, h', ef, k⟩ := o1.fin
  split at ef
  · rename_i hl
    cases ef
    refine ⟨sz6 (by rw [← x1.length]; exact hl), fun p np => k _ ι1 _ (r1.laid np) ?_ (.laid np)⟩
    unfold VR
    exact ⟨p, vs, rfl, .inl ⟨r1.nin np, .inl upd_same⟩, VRs.mono (.laid np) _ _ x1⟩
  · cases ef
theorem fm_lst (hr : PA X es (tMa X.K W mr)) : PE X (.List es pos) (tMf X.K W (mLst mr)) := by
  refine (pe_lst hr).imp fun σ H Q ⟨ι, Γ, h, g, o⟩ => ?_
  refine ⟨ι, Γ, h, g, Out.bind o fun ds h1 vs ι1 H1 r1 x1 e1 o1 => ?_⟩
  obtain ⟨d, h', ef, k⟩ := o1.fin
  split at ef
  · rename_i hl
    cases ef
    exact ⟨sz6 (by rw [← x1.length]; exact hl), fun p np => k vs ι1 _ r1 x1 .refl p np⟩
  · cases ef
/-- a new list is handed on with what may be made of it -/
theorem tMf.fin {m : AM} {γ : Type} {f : List D × MH → R (γ × MH)} {rel : List Addr → Hp → γ → V → Prop} {K : PySem.W.Frag} {σ : St} {H : Hp} {Q : VK} (o : tX rel K W (fun Γ h => (m Γ h).bind f) σ H Q)
    (k : ∀ ds h1 vs ι1 H1 p, HR K ι1 H1 h1 → VRs K ι1 H1 ds vs → H1 p = none → Out rel K W ι1 H1 σ (f (ds, h1)) Q → Q (.ref p) (upd H1 p (.lst vs))) : tMf K W m σ H Q := by
  obtain ⟨ι, Γ, h, g, o⟩ := o
  exact ⟨ι, Γ, h, g, Out.bind o fun ds h1 vs ι1 H1 r1 x1 e1 o1 p np => k ds h1 vs ι1 H1 p r1 x1 np o1⟩
theorem pm_fz (hf : PE X e (tMf X.K W mr)) : PE X e (tM X.K W (mFz mr)) :=
  hf.imp fun σ H Q o => tMf.fin o fun ds h1 vs ι1 H1 p r1 x1 np o1 => by
    refine o1 (.ref p) ι1 _ (r1.laid np) ?_ (.laid np)
    unfold VR
    exact ⟨p, vs, rfl, .inl ⟨r1.nin np, .inl upd_same⟩, VRs.mono (.laid np) _ _ x1⟩
theorem pm_new (hf : PE X e (tMf X.K W mr)) : PE X e (tM X.K W (mNew mr)) :=
  hf.imp fun σ H Q o => tMf.fin o fun ds h1 vs ι1 H1 p r1 x1 np o1 => by
    refine o1 (.ref p) (ι1 ++ [p]) _ (r1.alloc np ⟨vs, upd_same, VRs.mono (.alloc np) _ _ x1⟩) ?_ (.alloc np)
    unfold VR
    refine ⟨p, rfl, ?_⟩
    rw [← r1.len, List.getElem?_append_right (Nat.le_refl _)]
    simp
end
end Mir
namespace Mir
open PySem L2
open Classical

/-! ## tests -/
def truthD (h : MH) : D → Option Bool
  | .non => some false
  | .bl b => some b
  | .int i => some (i != 0)
  | .str s => if s.length ≤ 1000000 then some ((s.length : Int) != 0) else none
  | .tup xs => some !xs.isEmpty
  | .fl xs => some !xs.isEmpty
  | .ref n => match h[n]? with
    | some (.lst xs) => some !xs.isEmpty
    | _ => none
def mTr (a : EM) : TM := fun Γ h => (a Γ h).bind fun p => R.ofO ((truthD p.2 p.1).map fun b => (b, p.2))
def asBl : D → Option Bool
  | .bl b => some b
  | _ => none
def mTB (a : EM) : TM := fun Γ h => (a Γ h).bind fun p => R.ofO ((asBl p.1).map fun b => (b, p.2))
def tAndM (a b : TM) : TM := fun Γ h => (a Γ h).bind fun p => if p.1 = true then b Γ p.2 else .ok (false, p.2)
def tOrM (a b : TM) : TM := fun Γ h => (a Γ h).bind fun p => if p.1 = true then .ok (true, p.2) else b Γ p.2
def tNotM (a : TM) : TM := fun Γ h => (a Γ h).bind fun p => .ok (!p.1, p.2)
def mAnd (a b : EM) : EM := fun Γ h => (a Γ h).bind fun p => (R.ofO (truthD p.2 p.1)).bind fun k => if k = true then b Γ p.2 else .ok p
def mOr (a b : EM) : EM := fun Γ h => (a Γ h).bind fun p => (R.ofO (truthD p.2 p.1)).bind fun k => if k = true then .ok p else b Γ p.2
def mNot (a : EM) : EM := fun Γ h => (a Γ h).bind fun p => (R.ofO (truthD p.2 p.1)).bind fun k => .ok (.bl !k, p.2)
theorem VRs.isEmpty {K : PySem.W.Frag} {ι : List Addr} {H : Hp} {ds : List D} {vs : List V} (g : VRs K ι H ds vs) : ds.isEmpty = vs.isEmpty := by
  cases ds with
  | nil => unfold VRs at g; subst g; rfl
  | cons d r => unfold VRs at g; obtain ⟨v, us, e, _⟩ := g; subst e; rfl
theorem HR.lst {K : PySem.W.Frag} {ι : List Addr} {H : Hp} {h : MH} (g : HR K ι H h) {n : Nat} {xs : List D} (e : h[n]? = some (.lst xs)) : ∃ p vs, ι[n]? = some p ∧ H p = some (.lst vs) ∧ VRs K ι H xs vs := by
  obtain ⟨p, h1, vs, h2, h3⟩ := g.obj n _ e
  exact ⟨p, vs, h1, h2, h3⟩
theorem truth_ok {K : PySem.W.Frag} {ι : List Addr} {H : Hp} {h : MH} {d : D} {v : V} {b : Bool} (g : HR K ι H h) (r : VR K ι H d v) (e : truthD h d = some b) : TruV K v H b := by
  cases d with
  | non => unfold VR at r; subst r; cases e; rfl
  | bl c => unfold VR at r; subst r; cases e; rfl
  | int i => unfold VR at r; subst r; cases e; rfl
  | str s =>
    unfold VR at r; subst r
    simp only [truthD] at e
    split at e
    · rename_i hl
      cases e
      exact ⟨sz6 hl, rfl⟩
    · cases e
  | tup xs =>
    unfold VR at r
    obtain ⟨p, vs, rfl, h1, h2⟩ := r
    cases e
    exact .inr (.inl ⟨vs, h1.sq, by rw [h2.isEmpty]⟩)
  | fl xs =>
    unfold VR at r
    obtain ⟨p, vs, rfl, h1, h2⟩ := r
    cases e
    exact .inl ⟨vs, h1.sq, by rw [h2.isEmpty]⟩
  | ref n =>
    unfold VR at r
    obtain ⟨p, rfl, h1⟩ := r
    simp only [truthD] at e
    cases z : h[n]? with
    | none => rw [z] at e; cases e
    | some o =>
      rw [z] at e
      cases o with
      | lst xs =>
        cases e
        obtain ⟨p', vs, h2, h3, h4⟩ := g.lst z
        rw [h1] at h2; cases h2
        exact .inl ⟨vs, SqL.of h3, by rw [h4.isEmpty]⟩
      | dct _ => cases e
      | st _ => cases e
      | ins _ _ => cases e
section
variable {X : Cx} {W : WX} {a b c e : Expr} {ma mb mc : EM} {pos : Pos} {es rest : List Expr} {mr : AM} {mt ta tb : TM}
/-- two parts of any kind -/
theorem tX.bind {α β γ δ : Type} {rel : List Addr → Hp → α → β → Prop} {rel' : List Addr → Hp → γ → δ → Prop} {K : PySem.W.Frag} {m : Env → MH → R (α × MH)} {f : Env → α × MH → R (γ × MH)} {σ : St} {H : Hp} {Q : δ → Hp → Prop} {Q1 : β → Hp → Prop}
    (o : tX rel' K W (fun Γ h => (m Γ h).bind (f Γ)) σ H Q)
    (k : ∀ Γ a h1 b ι1 H1, SR K ι1 H1 h1 Γ σ → rel ι1 H1 a b → Out rel' K W ι1 H1 σ (f Γ (a, h1)) Q → Q1 b H1) : tX rel K W m σ H Q1 := by
  obtain ⟨ι, Γ, h, g, o⟩ := o
  exact ⟨ι, Γ, h, g, Out.bind o fun d1 h1 v1 ι1 H1 r1 x1 e1 o1 => k Γ d1 h1 v1 ι1 H1 (g.to e1 r1) x1 o1⟩
theorem tX.of {α β : Type} {rel : List Addr → Hp → α → β → Prop} {K : PySem.W.Frag} {m : Env → MH → R (α × MH)} {σ : St} {H : Hp} {Q : β → Hp → Prop} {ι : List Addr} {Γ : Env} {h : MH}
    (g : SR K ι H h Γ σ) (o : Out rel K W ι H σ (m Γ h) Q) : tX rel K W m σ H Q := ⟨ι, Γ, h, g, o⟩
theorem tm_tr (ha : PE X a (tM X.K W ma)) (he : ∀ whole, isTrue a X.env whole = (do let v ← whole; standAt a.pos; holding [v] (truthy v)) := by intro _; rfl) : PT X a (tMt X.K W (mTr ma)) :=
  (pt_truth ha he).imp fun σ H Q o => tX.bind o fun Γ d h1 v ι1 H1 g1 x1 o1 => by
    obtain ⟨b', h', ef, k⟩ := o1.fin
    cases z : truthD h1 d with
    | none => simp [z] at ef
    | some b2 =>
      simp [z] at ef
      obtain ⟨rfl, rfl⟩ := ef
      exact ⟨b2, truth_ok g1.hr x1 z, k b2 ι1 H1 g1.hr rfl .refl⟩
theorem mTB_out {K : PySem.W.Frag} {ι : List Addr} {H : Hp} {σ : St} {d : D} {h : MH} {v : V} {Q : Bool → Hp → Prop} (g : HR K ι H h) (x : VR K ι H d v)
    (o : Out (fun _ _ (a b : Bool) => a = b) K W ι H σ (R.ofO ((asBl d).map fun b => (b, h))) Q) : ∃ c, v = .bl c ∧ Q c H := by
  cases d with
  | bl b => unfold VR at x; subst x; exact ⟨b, rfl, o b ι H g rfl .refl⟩
  | _ => exact o.elim
theorem tm_val (ha : PE X a (tM X.K W ma)) (he : ∀ whole, isTrue a X.env whole = (do let v ← whole; standAt a.pos; holding [v] (truthy v)) := by intro _; rfl) : PT X a (tMt X.K W (mTB ma)) :=
  (pt_val ha he).imp fun σ H Q o => tX.bind o fun Γ d h1 v ι1 H1 g1 x1 o1 => mTB_out g1.hr x1 o1
theorem tm_cmp {op : CmpOp} {f : D → D → MH → Option (D × MH)} (ho : OpM X (compareOp op) f) (ha : PE X a (tM X.K W ma)) (hb : PE X b (tM X.K W mb)) (hm : behindInMarks op b = false) : PT X (.Compare a [op] [b] pos) (tMt X.K W (mTB (mBin f ma mb))) := by
  obtain ⟨t, o, q⟩ := ho
  refine (pt_cmpR o ha hb hm).imp fun σ H Q z => ?_
  refine two q (tX.bind z fun Γ d h1 v ι1 H1 g1 x1 o1 => ?_)
  exact mTB_out g1.hr x1 o1
/-- and, or as tests: PW; a test of any form -/
theorem wm_and1 (ha : PT X a (tMt X.K W ta)) : PW X (.BoolOp .And [a] pos) (tMt X.K W ta) := pw_and1 ha
theorem wm_or1 (ha : PT X a (tMt X.K W ta)) : PW X (.BoolOp .Or [a] pos) (tMt X.K W ta) := pw_or1 ha
theorem _root_.L2.PW.imp {e : Expr} {t t' : TT} (g : PW X e t) (k : ∀ σ H Q, t' σ H Q → t σ H Q) : PW X e t' := ⟨fun wh pins s σ H Q I h => g.run wh pins s σ H Q I (k σ H Q h)⟩
theorem wm_and (ha : PT X a (tMt X.K W ta)) (hb : PW X (.BoolOp .And (b :: rest) pos) (tMt X.K W tb)) : PW X (.BoolOp .And (a :: b :: rest) pos) (tMt X.K W (tAndM ta tb)) :=
  (pw_and ha hb).imp fun σ H Q o => tX.bind o fun Γ d h1 v ι1 H1 g1 x1 o1 => by
    subst x1
    cases d with
    | true => exact tX.of g1 o1
    | false => exact o1 false ι1 H1 g1.hr rfl .refl
theorem wm_or (ha : PT X a (tMt X.K W ta)) (hb : PW X (.BoolOp .Or (b :: rest) pos) (tMt X.K W tb)) : PW X (.BoolOp .Or (a :: b :: rest) pos) (tMt X.K W (tOrM ta tb)) :=
  (pw_or ha hb).imp fun σ H Q o => tX.bind o fun Γ d h1 v ι1 H1 g1 x1 o1 => by
    subst x1
    cases d with
    | true => exact o1 true ι1 H1 g1.hr rfl .refl
    | false => exact tX.of g1 o1
theorem tm_not (ha : PT X a (tMt X.K W ta)) : PT X (.UnaryOp .Not a pos) (tMt X.K W (tNotM ta)) :=
  (pt_not ha).imp fun σ H Q o => tX.bind o fun Γ d h1 v ι1 H1 g1 x1 o1 => by
    subst x1
    exact o1 (!d) ι1 H1 g1.hr rfl .refl
/-- as values -/
theorem pm_and (ha : PE X a (tM X.K W ma)) (hb : PE X (.BoolOp .And (b :: rest) pos) (tM X.K W mb)) : PE X (.BoolOp .And (a :: b :: rest) pos) (tM X.K W (mAnd ma mb)) :=
  (pe_andT ha hb).imp fun σ H Q o => tX.bind o fun Γ d h1 v ι1 H1 g1 x1 o1 => by
    cases z : truthD h1 d with
    | none => simp [z] at o1; exact o1.elim
    | some k =>
      simp [z] at o1
      refine ⟨k, truth_ok g1.hr x1 z, ?_⟩
      cases k with
      | true => exact tX.of g1 o1
      | false => exact o1 v ι1 H1 g1.hr x1 .refl
theorem pm_or (ha : PE X a (tM X.K W ma)) (hb : PE X (.BoolOp .Or (b :: rest) pos) (tM X.K W mb)) : PE X (.BoolOp .Or (a :: b :: rest) pos) (tM X.K W (mOr ma mb)) :=
  (pe_orT ha hb).imp fun σ H Q o => tX.bind o fun Γ d h1 v ι1 H1 g1 x1 o1 => by
    cases z : truthD h1 d with
    | none => simp [z] at o1; exact o1.elim
    | some k =>
      simp [z] at o1
      refine ⟨k, truth_ok g1.hr x1 z, ?_⟩
      cases k with
      | true => exact o1 v ι1 H1 g1.hr x1 .refl
      | false => exact tX.of g1 o1
theorem pm_one {op} (ha : PE X a (tM X.K W ma)) : PE X (.BoolOp op [a] pos) (tM X.K W ma) := pe_one ha
theorem pm_not (ha : PE X a (tM X.K W ma)) : PE X (.UnaryOp .Not a pos) (tM X.K W (mNot ma)) :=
  (pe_notT ha).imp fun σ H Q o => tX.bind o fun Γ d h1 v ι1 H1 g1 x1 o1 => by
    cases z : truthD h1 d with
    | none => simp [z] at o1; exact o1.elim
    | some k =>
      simp [z] at o1
      exact ⟨k, truth_ok g1.hr x1 z, o1 _ ι1 H1 g1.hr vr_bl .refl⟩
end

/-! ## statements -/
def sNil : SM := fun Γ h => .ok (.nx, Γ, h)
def sSeq (a b : SM) : SM := fun Γ h => (a Γ h).bind fun p => match p.1 with
  | .nx => b p.2.1 p.2.2
  | c => .ok (c, p.2)
def sSet (i : Nat) (a : EM) : SM := fun Γ h => (a Γ h).bind fun p => .ok (.nx, Γ.set i (some p.1), p.2)
def sExpr (a : EM) : SM := fun Γ h => (a Γ h).bind fun p => .ok (.nx, Γ, p.2)
def sRet (a : EM) : SM := fun Γ h => (a Γ h).bind fun p => .ok (.rt p.1, Γ, p.2)
def sRetN : SM := fun Γ h => .ok (.rt .non, Γ, h)
def sIf (t : TM) (a b : SM) : SM := fun Γ h => (t Γ h).bind fun p => if p.1 = true then a Γ p.2 else b Γ p.2
def sBreak : SM := fun Γ h => .ok (.bk, Γ, h)
def sCont : SM := fun Γ h => .ok (.ct, Γ, h)
/-- the slots vs are forgotten -/
def wipeΓ (Γ : Env) : List Nat → Env
  | [] => Γ
  | v :: vs => (wipeΓ Γ vs).set v none
section
variable {X : Cx} {W : WX} {a b c e : Expr} {ma mb mc : EM} {pos : Pos} {es rest : List Expr} {mr : AM} {mt ta tb : TM} {st : Stmt} {sts : List Stmt} {m1 m2 : SM}
theorem tS.of {K : PySem.W.Frag} {m : SM} {σ : St} {H : Hp} {Dn : Ends} {ι : List Addr} {Γ : Env} {h : MH} (g : SR K ι H h Γ σ) (o : OutS K W ι H (m Γ h) Dn) : tS K W m Dn σ H := ⟨ι, Γ, h, g, o⟩
/-- an expression, then the rest of a statement -/
theorem tS.bind {α β : Type} {rel : List Addr → Hp → α → β → Prop} {K : PySem.W.Frag} {m : Env → MH → R (α × MH)} {f : Env → α × MH → R (Ctl × Env × MH)} {σ : St} {H : Hp} {Dn : Ends} {Q1 : β → Hp → Prop}
    (o : tS K W (fun Γ h => (m Γ h).bind (f Γ)) Dn σ H)
    (k : ∀ Γ a h1 b ι1 H1, SR K ι1 H1 h1 Γ σ → rel ι1 H1 a b → OutS K W ι1 H1 (f Γ (a, h1)) Dn → Q1 b H1) : tX rel K W m σ H Q1 := by
  obtain ⟨ι, Γ, h, g, o⟩ := o
  exact ⟨ι, Γ, h, g, Out.bindS o fun d1 h1 v1 ι1 H1 r1 x1 e1 o1 => k Γ d1 h1 v1 ι1 H1 (g.to e1 r1) x1 o1⟩
theorem SR.set {K : PySem.W.Frag} {ι : List Addr} {H : Hp} {h : MH} {Γ : Env} {σ : St} (g : SR K ι H h Γ σ) {d : D} {v : V} (x : VR K ι H d v) (i : Nat) : SR K ι H h (Γ.set i (some d)) (σ.set i (some v)) := by
  refine ⟨g.hr, by simp [g.er.1], fun j d' hj => ?_⟩
  by_cases e : j = i
  · subst e
    by_cases hl : j < Γ.length
    · rw [List.getElem?_set_self hl] at hj
      cases hj
      exact ⟨v, by rw [List.getElem?_set_self (by rw [← g.er.1]; exact hl)], x⟩
    · rw [List.getElem?_eq_none (by simpa using hl)] at hj; cases hj
  · rw [List.getElem?_set_ne (Ne.symm e)] at hj
    obtain ⟨v', h1, h2⟩ := g.er.2 j d' hj
    exact ⟨v', by rw [List.getElem?_set_ne (Ne.symm e)]; exact h1, h2⟩
theorem SR.forget {K : PySem.W.Frag} {ι : List Addr} {H : Hp} {h : MH} {Γ : Env} {σ : St} (g : SR K ι H h Γ σ) (i : Nat) : SR K ι H h (Γ.set i none) σ := by
  refine ⟨g.hr, by simp [g.er.1], fun j d' hj => ?_⟩
  by_cases e : j = i
  · subst e
    by_cases hl : j < Γ.length
    · rw [List.getElem?_set_self hl] at hj; cases hj
    · rw [List.getElem?_eq_none (by simpa using hl)] at hj; cases hj
  · rw [List.getElem?_set_ne (Ne.symm e)] at hj
    exact g.er.2 j d' hj
theorem SR.wipe {K : PySem.W.Frag} {ι : List Addr} {H : Hp} {h : MH} {Γ : Env} {σ : St} (g : SR K ι H h Γ σ) : ∀ vs : List Nat, SR K ι H h (wipeΓ Γ vs) σ
  | [] => g
  | v :: vs => (SR.wipe g vs).forget v
theorem SR.wipe2 {K : PySem.W.Frag} {ι : List Addr} {H : Hp} {h : MH} {Γ : Env} {σ : St} (g : SR K ι H h Γ σ) : ∀ vs : List Nat, SR K ι H h (wipeΓ Γ vs) (L2.wipe σ vs)
  | [] => g
  | v :: vs => by
    have g2 := SR.wipe2 g vs
    refine ⟨g.hr, by simp [wipeΓ, L2.wipe, g2.er.1], fun j d' hj => ?_⟩
    unfold wipeΓ at hj
    unfold L2.wipe
    by_cases e : j = v
    · subst e
      by_cases hl : j < (wipeΓ Γ vs).length
      · rw [List.getElem?_set_self hl] at hj; cases hj
      · rw [List.getElem?_eq_none (by simpa using hl)] at hj; cases hj
    · rw [List.getElem?_set_ne (Ne.symm e)] at hj
      obtain ⟨v', h1, h2⟩ := g2.er.2 j d' hj
      exact ⟨v', by rw [List.getElem?_set_ne (Ne.symm e)]; exact h1, h2⟩
theorem sm_nil : PSs X [] (tS X.K W sNil) := pss_nil.imp fun Dn σ H ⟨ι, Γ, h, g, o⟩ => o σ ι H g .refl
/-- behind a statement -/
theorem OutS.cases {K : PySem.W.Frag} {ι : List Addr} {H : Hp} {r : R (Ctl × Env × MH)} {f : Env → MH → R (Ctl × Env × MH)} {Dn Dn' : Ends}
    (o : OutS K W ι H (r.bind fun p => match p.1 with | .nx => f p.2.1 p.2.2 | c => .ok (c, p.2)) Dn) 
    (hn : ∀ Γ' h' σ' ι' H', SR K ι' H' h' Γ' σ' → Ext ι H ι' H' → OutS K W ι' H' (f Γ' h') Dn → Dn'.nx σ' H') (hr : Dn'.rt = Dn.rt) (hb : Dn'.bk = Dn.bk) (hc : Dn'.ct = Dn.ct) : OutS K W ι H r Dn' := by
  cases r with
  | ok p =>
    obtain ⟨c, Γ', h'⟩ := p
    cases c with
    | nx => exact fun σ' ι' H' g e => hn Γ' h' σ' ι' H' g e (OutS.mono e o)
    | rt d => intro v ι' H' a b c; rw [hr]; exact o v ι' H' a b c
    | bk => intro σ' ι' H' a c; rw [hb]; exact o σ' ι' H' a c
    | ct => intro σ' ι' H' a c; rw [hc]; exact o σ' ι' H' a c
  | exc x Γ h => exact o
  | stuck => exact o
theorem sm_cons (h1 : PS X st (tS X.K W m1)) (h2 : PSs X sts (tS X.K W m2)) : PSs X (st :: sts) (tS X.K W (sSeq m1 m2)) :=
  (pss_cons h1 h2).imp fun Dn σ H ⟨ι, Γ, h, g, o⟩ => ⟨ι, Γ, h, g, OutS.cases o (fun Γ' h' σ' ι' H' g' e' o' => ⟨ι', Γ', h', g', o'⟩) rfl rfl rfl⟩
theorem sm_one (h1 : PS X st (tS X.K W m1)) : PSs X [st] (tS X.K W m1) := pss_one h1
theorem sm_set {i : Nat} {x : Str} {pos' : Pos} (hN : X.N.Nodup) (hi : X.N[i]? = some x) (hx : Loc X.env.scope x) (he : PE X e (tM X.K W ma)) (hs : swapsWith e (some (.Name x pos')) pos.line X.env = pure false := by rfl)
    (hf : X.fn x = true ∨ X.env.scope.names.lookup x = some .local := by first | exact .inl rfl | exact .inr rfl | assumption) : PS X (.Assign [.Name x pos'] e pos) (tS X.K W (sSet i ma)) :=
  (ps_set hN hi hx he hs hf).imp fun Dn σ H o => tS.bind o fun Γ d h1 v ι1 H1 g1 x1 o1 => o1 _ ι1 H1 (g1.set x1 i) .refl
theorem sm_expr (he : PE X e (tM X.K W ma)) (hs : swapsWith e none pos.line X.env = pure false := by rfl) : PS X (.Expr e pos) (tS X.K W (sExpr ma)) :=
  (ps_expr he hs).imp fun Dn σ H o => tS.bind o fun Γ d h1 v ι1 H1 g1 x1 o1 => o1 σ ι1 H1 g1 .refl
theorem sm_ret (he : PE X e (tM X.K W ma)) : PS X (.Return (some e) pos) (tS X.K W (sRet ma)) :=
  (ps_ret he).imp fun Dn σ H o => tS.bind o fun Γ d h1 v ι1 H1 g1 x1 o1 => o1 v ι1 H1 g1.hr x1 .refl
theorem sm_retN : PS X (.Return none pos) (tS X.K W sRetN) := ps_retN.imp fun Dn σ H ⟨ι, Γ, h, g, o⟩ => o .non ι H g.hr vr_non .refl
theorem sm_if {xs ys : List Stmt} (hc : PT X c (tMt X.K W mt)) (ha : PSs X xs (tS X.K W m1)) (hb : PSs X ys (tS X.K W m2)) : PS X (.If c xs ys pos) (tS X.K W (sIf mt m1 m2)) :=
  (ps_if hc ha hb).imp fun Dn σ H o => tS.bind o fun Γ d h1 v ι1 H1 g1 x1 o1 => by
    subst x1
    cases d with
    | true => exact tS.of g1 o1
    | false => exact tS.of g1 o1
theorem sm_break : PS X (.Break pos) (tS X.K W sBreak) := ps_break.imp fun Dn σ H ⟨ι, Γ, h, g, o⟩ => o σ ι H g .refl
theorem sm_cont : PS X (.Continue pos) (tS X.K W sCont) := ps_continue.imp fun Dn σ H ⟨ι, Γ, h, g, o⟩ => o σ ι H g .refl
theorem sm_pass : PS X (.Pass pos) (tS X.K W sNil) := ps_pass.imp fun Dn σ H ⟨ι, Γ, h, g, o⟩ => o σ ι H g .refl
/-- a block whose names vs are forgotten behind it -/
def sForget (vs : List Nat) (m : SM) : SM := fun Γ h => (m Γ h).bind fun p => .ok (p.1, wipeΓ p.2.1 vs, p.2.2)
theorem OutS.forget {K : PySem.W.Frag} {ι : List Addr} {H : Hp} {r : R (Ctl × Env × MH)} {Dn : Ends} {vs : List Nat}
    (o : OutS K W ι H (r.bind fun p => .ok (p.1, wipeΓ p.2.1 vs, p.2.2)) Dn) : OutS K W ι H r Dn := by
  cases r with
  | ok p =>
    obtain ⟨c, Γ', h'⟩ := p
    cases c with
    | nx => exact fun σ' ι' H' g e => o σ' ι' H' (g.wipe vs) e
    | rt d => exact o
    | bk => exact fun σ' ι' H' g e => o σ' ι' H' (g.wipe vs) e
    | ct => exact fun σ' ι' H' g e => o σ' ι' H' (g.wipe vs) e
  | exc x Γ h => exact o
  | stuck => exact o
theorem sm_forget (vs : List Nat) (h1 : PSs X sts (tS X.K W m1)) : PSs X sts (tS X.K W (sForget vs m1)) :=
  h1.imp fun Dn σ H ⟨ι, Γ, h, g, o⟩ => ⟨ι, Γ, h, g, OutS.forget o⟩
theorem sm_forgetS (vs : List Nat) (h1 : PS X st (tS X.K W m1)) : PS X st (tS X.K W (sForget vs m1)) :=
  h1.imp fun Dn σ H ⟨ι, Γ, h, g, o⟩ => ⟨ι, Γ, h, g, OutS.forget o⟩
end

/-! ## loops -/
abbrev Live := Option (Nat × List D)
def liveOk (l : Live) (h : MH) : Prop := match l with
  | none => True
  | some (n, xs) => h[n]? = some (.lst xs)
@[simp] theorem liveOk_none {h : MH} : liveOk none h = True := rfl
structure ItR (K : PySem.W.Frag) (ι : List Addr) (H : Hp) (J : It) (items : List D) (l : Live) : Prop where
  go : ∀ (ι' : List Addr) (H' : Hp) (h' : MH) (i : Nat) (d : D), HR K ι' H' h' → Ext ι H ι' H' → liveOk l h' → items[i]? = some d → J.go i H' ∧ ∀ x H'', J.yld i H' x H'' → HR K ι' H'' h' ∧ VR K ι' H'' d x ∧ Ext ι' H' ι' H''
  stop : ∀ (ι' : List Addr) (H' : Hp) (h' : MH), HR K ι' H' h' → Ext ι H ι' H' → liveOk l h' → J.stop items.length H'
abbrev IM := Env → MH → R ((List D × Live) × MH)
abbrev tMi (K : PySem.W.Frag) (W : WX) (m : IM) : TI := tX (fun ι H (a : List D × Live) J => ItR K ι H J a.1 a.2) K W m
abbrev GM := D → Env → MH → Option Env
/-- a target: sl the slots that it may change -/
def tMg (K : PySem.W.Frag) (sl : List Nat) (g : GM) : TG := fun v σ H Q => ∃ ι Γ h d Γ', SR K ι H h Γ σ ∧ VR K ι H d v ∧ g d Γ h = some Γ' ∧ ∀ σ', SR K ι H h Γ' σ' → σ'.length = σ.length → (∀ i, i ∉ sl → σ'[i]? = σ[i]?) → Q σ' H
abbrev GsM := List D → Env → MH → Option Env
def tMgs (K : PySem.W.Frag) (sl : List Nat) (g : GsM) : TGs := fun vs σ H Q => ∃ ι Γ h ds Γ', SR K ι H h Γ σ ∧ VRs K ι H ds vs ∧ g ds Γ h = some Γ' ∧ ∀ σ', SR K ι H h Γ' σ' → σ'.length = σ.length → (∀ i, i ∉ sl → σ'[i]? = σ[i]?) → Q σ' H
def gNm (i : Nat) : GM := fun d Γ _ => some (Γ.set i (some d))
def gsNil : GsM := fun ds Γ _ => match ds with
  | [] => some Γ
  | _ => none
def gsCons (g : GM) (gs : GsM) : GsM := fun ds Γ h => match ds with
  | d :: r => (g d Γ h).bind fun Γ1 => gs r Γ1 h
  | [] => none
def gTp (n : Nat) (gs : GsM) : GM := fun d Γ h => match d with
  | .tup ds => if ds.length = n then gs ds Γ h else none
  | _ => none
noncomputable def loop (l : Live) (step : D → Env → MH → R (Ctl × Env × MH)) : List D → Env → MH → R (Ctl × Env × MH)
  | [], Γ, h => if liveOk l h then .ok (.nx, Γ, h) else .stuck
  | d :: ds, Γ, h => if liveOk l h then (step d Γ h).bind fun p => match p.1 with
      | .nx => loop l step ds p.2.1 p.2.2
      | .ct => loop l step ds p.2.1 p.2.2
      | .bk => .ok (.nx, p.2)
      | .rt x => .ok (.rt x, p.2)
    else .stuck
def stepOf (g : GM) (body : SM) : D → Env → MH → R (Ctl × Env × MH) := fun d Γ h => match g d Γ h with
  | some Γ1 => body Γ1 h
  | none => .stuck
noncomputable def sFor (im : IM) (g : GM) (body : SM) : SM := fun Γ h => (im Γ h).bind fun p => loop p.1.2 (stepOf g body) p.1.1 Γ p.2
section
variable {X : Cx} {W : WX} {pos : Pos} {tg iter : Expr} {body : List Stmt} {im : IM} {g : GM} {gs : GsM} {mb : SM} {sl sl' : List Nat}
theorem _root_.L2.PG.imp {e : Expr} {t t' : TG} (g : PG X e t) (k : ∀ v σ H Q, t' v σ H Q → t v σ H Q) : PG X e t' := ⟨fun pins s σ H v u Q I r h => g.run pins s σ H v u Q I r (k v σ H Q h)⟩
theorem _root_.L2.PGs.imp {e : List Expr} {t t' : TGs} (g : PGs X e t) (k : ∀ v σ H Q, t' v σ H Q → t v σ H Q) : PGs X e t' := ⟨fun pins s σ H v u Q I r h => g.run pins s σ H v u Q I r (k v σ H Q h)⟩
theorem gm_name (i : Nat) {x : Str} (hN : X.N.Nodup) (hi : X.N[i]? = some x) (hx : Loc X.env.scope x) (hf : X.fn x = true ∨ X.env.scope.names.lookup x = some .local := by first | exact .inl rfl | exact .inr rfl | assumption) : PG X (.Name x pos) (tMg X.K [i] (gNm i)) :=
  (pg_name hN hi hx hf).imp fun v σ H Q ⟨ι, Γ, h, d, Γ', q1, q2, q3, q4⟩ => by
    cases q3
    refine q4 _ (q1.set q2 i) (by simp) fun j hj => ?_
    rw [List.getElem?_set_ne]
    intro e
    exact hj (by simp [e])
theorem gms_nil : PGs X [] (tMgs X.K [] gsNil) :=
  pgs_nil.imp fun v σ H Q ⟨ι, Γ, h, ds, Γ', q1, q2, q3, q4⟩ => by
    cases ds with
    | nil =>
      cases q3
      unfold VRs at q2
      exact ⟨q2, q4 σ q1 rfl fun _ _ => rfl⟩
    | cons _ _ => cases q3
theorem gms_cons {e : Expr} {es : List Expr} (h1 : PG X e (tMg X.K sl g)) (h2 : PGs X es (tMgs X.K sl' gs))
    (hs : (assignEach (e :: es) X.env).map (·.2) = assign e X.env :: (assignEach es X.env).map (·.2) := by rfl) : PGs X (e :: es) (tMgs X.K (sl ++ sl') (gsCons g gs)) :=
  (pgs_cons h1 h2 hs).imp fun v σ H Q ⟨ι, Γ, h, ds, Γ', q1, q2, q3, q4⟩ => by
    cases ds with
    | nil => cases q3
    | cons d r =>
      unfold VRs at q2
      obtain ⟨x, xs, e1, q5, q6⟩ := q2
      simp only [gsCons] at q3
      cases z : g d Γ h with
      | none => rw [z] at q3; cases q3
      | some Γ1 =>
        rw [z] at q3
        refine ⟨x, xs, e1, ι, Γ, h, d, Γ1, q1, q5, z, fun σ1 g1 l1 k1 => ⟨ι, Γ1, h, r, Γ', g1, q6, q3, fun σ2 g2 l2 k2 => q4 σ2 g2 (l2.trans l1) fun i hi => ?_⟩⟩
        rw [k2 i fun m => hi (List.mem_append_right _ m), k1 i fun m => hi (List.mem_append_left _ m)]
theorem gm_tup {es : List Expr} {k n : Nat} (hc : X.calm = true) (h : PGs X es (tMgs X.K sl gs)) (hn : (assignEach es X.env).length = n := by rfl) (hst : (assignEach es X.env).findIdx? (·.1) = none := by rfl) : PG X (.Tuple es k pos) (tMg X.K sl (gTp n gs)) :=
  (pg_tup hc h hn hst).imp fun v σ H Q ⟨ι, Γ, h, d, Γ', q1, q2, q3, q4⟩ => by
    cases d with
    | tup ds =>
      simp only [gTp] at q3
      split at q3
      · rename_i hl
        unfold VR at q2
        obtain ⟨p, vs, e1, q5, q6⟩ := q2
        exact ⟨p, vs, e1, q5.sq, by rw [← q6.length]; exact hl, ι, Γ, h, ds, Γ', q1, q6, q3, q4⟩
      · cases q3
    | _ => cases q3
theorem sm_for (hp : PassesOwn (model X.prog X.w) X.A X.env X.xe) (hc : X.calm = true) (hi : PI X tg iter (tMi X.K W im)) (hg : PG X tg (tMg X.K sl g)) (hb : PSs X body (tS X.K W mb))
    (hs : ∀ x, foldedSetIterable iter X.env x = pure x := by intro _; rfl) : PS X (.For tg iter body [] pos) (tS X.K W (sFor im g mb)) := by
  refine (ps_for hp hc hi hg hb hs).imp fun Dn σ0 H0 o => tS.bind o fun Γ0 a h0 J ι0 H1 g0 x0 o0 => ?_
  obtain ⟨items, l⟩ := a
  refine ⟨fun i m σ H => ∃ ι Γ h, SR X.K ι H h Γ σ ∧ Ext ι0 H1 ι H ∧ m = items.length - i ∧ i ≤ items.length ∧ OutS X.K W ι H (loop l (stepOf g mb) (items.drop i) Γ h) Dn,
    ⟨_, ι0, Γ0, h0, g0, .refl, rfl, Nat.zero_le _, by simpa using o0⟩, fun i m σ H hW => ?_⟩
  obtain ⟨ι, Γ, h, gr, ex, em, hle, oS⟩ := hW
  have hlive : liveOk l h := by
    by_cases z : liveOk l h
    · exact z
    · exfalso
      cases hd : items.drop i with
      | nil => rw [hd] at oS; simp only [loop, if_neg z] at oS; exact oS
      | cons d ds => rw [hd] at oS; simp only [loop, if_neg z] at oS; exact oS
  by_cases hlt : i < items.length
  · have hd : items.drop i = items[i] :: items.drop (i + 1) := List.drop_eq_getElem_cons hlt
    rw [hd] at oS
    simp only [loop, if_pos hlive] at oS
    obtain ⟨hgo, hyl⟩ := x0.go ι H h i items[i] gr.hr ex hlive (List.getElem?_eq_getElem hlt)
    refine .inr ⟨hgo, fun σ' H' => ∃ ι' Γ' h', SR X.K ι' H' h' Γ' σ' ∧ Ext ι0 H1 ι' H' ∧ OutS X.K W ι' H' (loop l (stepOf g mb) (items.drop (i + 1)) Γ' h') Dn, fun σ' H' ⟨ι', Γ', h', q1, q2, q3⟩ => ⟨items.length - (i + 1), by omega, ι', Γ', h', q1, q2, rfl, hlt, q3⟩, fun x H'' hy => ?_⟩
    obtain ⟨r2, v2, e2⟩ := hyl x H'' hy
    unfold stepOf at oS
    cases zg : g items[i] Γ h with
    | none => rw [zg] at oS; exact oS.elim
    | some Γ1 =>
      simp only [zg] at oS
      refine ⟨ι, Γ, h, items[i], Γ1, gr.to e2 r2, v2, zg, fun σ' gs _ _ => ⟨ι, Γ1, h, gs, ?_⟩⟩
      have oS2 := OutS.mono e2 oS
      generalize mb Γ1 h = r at oS2
      cases r with
      | ok p =>
        obtain ⟨c, Γ', h'⟩ := p
        cases c with
        | nx => exact fun σ2 ι2 H2 q1 q2 => ⟨ι2, Γ', h', q1, ex.trans (e2.trans q2), OutS.mono q2 oS2⟩
        | ct => exact fun σ2 ι2 H2 q1 q2 => ⟨ι2, Γ', h', q1, ex.trans (e2.trans q2), OutS.mono q2 oS2⟩
        | rt d => exact oS2
        | bk => exact oS2
      | exc x Γ h => exact oS2
      | stuck => exact oS2
  · have ei : i = items.length := by omega
    subst ei
    rw [List.drop_length] at oS
    simp only [loop, if_pos hlive] at oS
    exact .inl ⟨x0.stop ι H h gr.hr ex hlive, oS σ ι H gr .refl⟩
end
end Mir
namespace Mir
open PySem L2
open Classical

/-! ## while -/
def whileL (t : TM) (b : SM) : Nat → Env → MH → R (Ctl × Env × MH)
  | 0, _, _ => .stuck
  | n + 1, Γ, h => (t Γ h).bind fun p => if p.1 = true then (b Γ p.2).bind fun q => match q.1 with
      | .nx => whileL t b n q.2.1 q.2.2
      | .ct => whileL t b n q.2.1 q.2.2
      | .bk => .ok (.nx, q.2)
      | .rt x => .ok (.rt x, q.2)
    else .ok (.nx, Γ, p.2)
noncomputable def sWhile (t : TM) (b : SM) : SM := fun Γ h => if z : ∃ n, whileL t b n Γ h ≠ .stuck then whileL t b (choose z) Γ h else .stuck
theorem sWhile_const {t : TM} {b : SM} {Γ : Env} {h : MH} {r : R (Ctl × Env × MH)} (e : ∀ n, whileL t b (n + 1) Γ h = r) : sWhile t b Γ h = r := by
  unfold sWhile
  split
  · rename_i z
    have s := choose_spec z
    generalize choose z = k at s ⊢
    cases k with
    | zero => exact absurd rfl s
    | succ k => exact e k
  · rename_i z
    have := e 0
    by_cases q : r = .stuck
    · exact q.symm
    · exact absurd ⟨1, by rw [this]; exact q⟩ z
theorem whileL_mono {t : TM} {b : SM} : ∀ (n : Nat) (Γ : Env) (h : MH), whileL t b n Γ h ≠ .stuck → ∀ m, n ≤ m → whileL t b m Γ h = whileL t b n Γ h
  | 0, _, _, z, _, _ => absurd rfl z
  | n + 1, Γ, h, z, 0, l => absurd l (by omega)
  | n + 1, Γ, h, z, m + 1, l => by
    simp only [whileL] at z ⊢
    cases e : t Γ h with
    | stuck => rfl
    | exc _ _ _ => rfl
    | ok p =>
      simp only [e, R.bind_ok] at z ⊢
      split
      · rename_i hp
        rw [if_pos hp] at z
        cases e2 : b Γ p.2 with
        | stuck => rfl
        | exc _ _ _ => rfl
        | ok q =>
          obtain ⟨c, Γ2, h2⟩ := q
          simp only [e2, R.bind_ok] at z ⊢
          cases c with
          | nx => exact whileL_mono n _ _ z m (by omega)
          | ct => exact whileL_mono n _ _ z m (by omega)
          | bk => rfl
          | rt x => rfl
      · rfl
theorem sWhile_at {t : TM} {b : SM} {Γ : Env} {h : MH} {n : Nat} (z : whileL t b n Γ h ≠ .stuck) : sWhile t b Γ h = whileL t b n Γ h := by
  have w : ∃ n, whileL t b n Γ h ≠ .stuck := ⟨n, z⟩
  unfold sWhile
  rw [dif_pos w]
  have s := choose_spec w
  generalize choose w = k at s ⊢
  rcases Nat.le_total n k with l | l
  · exact whileL_mono n Γ h z k l
  · exact (whileL_mono k Γ h s n l).symm
theorem sWhile_step {t : TM} {b : SM} {Γ Γ' : Env} {h h' : MH} (e : ∀ n, whileL t b (n + 1) Γ h = whileL t b n Γ' h') : sWhile t b Γ h = sWhile t b Γ' h' := by
  by_cases w : ∃ n, whileL t b n Γ' h' ≠ .stuck
  · obtain ⟨n, z⟩ := w
    rw [sWhile_at z, sWhile_at (n := n + 1) (by rw [e]; exact z), e]
  · have w2 : ¬ ∃ n, whileL t b n Γ h ≠ .stuck := fun ⟨n, z⟩ => by
      cases n with
      | zero => exact z rfl
      | succ n => exact w ⟨n, by rw [← e]; exact z⟩
    unfold sWhile
    rw [dif_neg w, dif_neg w2]
/-- one turn -/
theorem sWhile_eq (t : TM) (b : SM) (Γ : Env) (h : MH) : sWhile t b Γ h = (t Γ h).bind fun p => if p.1 = true then (b Γ p.2).bind fun q => match q.1 with
      | .nx => sWhile t b q.2.1 q.2.2
      | .ct => sWhile t b q.2.1 q.2.2
      | .bk => .ok (.nx, q.2)
      | .rt x => .ok (.rt x, q.2)
    else .ok (.nx, Γ, p.2) := by
  cases e : t Γ h with
  | stuck => exact sWhile_const fun n => by simp only [whileL, e]; rfl
  | exc _ _ _ => exact sWhile_const fun n => by simp only [whileL, e]; rfl
  | ok p =>
    simp only [R.bind_ok]
    by_cases hp : p.1 = true
    · rw [if_pos hp]
      cases e2 : b Γ p.2 with
      | stuck => exact sWhile_const fun n => by simp only [whileL, e, R.bind_ok, if_pos hp, e2]; rfl
      | exc _ _ _ => exact sWhile_const fun n => by simp only [whileL, e, R.bind_ok, if_pos hp, e2]; rfl
      | ok q =>
        obtain ⟨c, Γ2, h2⟩ := q
        simp only [R.bind_ok]
        cases c with
        | nx => exact sWhile_step fun n => by simp only [whileL, e, R.bind_ok, if_pos hp, e2]
        | ct => exact sWhile_step fun n => by simp only [whileL, e, R.bind_ok, if_pos hp, e2]
        | bk => exact sWhile_const fun n => by simp only [whileL, e, R.bind_ok, if_pos hp, e2]
        | rt x => exact sWhile_const fun n => by simp only [whileL, e, R.bind_ok, if_pos hp, e2]
    · rw [if_neg hp]
      exact sWhile_const fun n => by simp only [whileL, e, R.bind_ok, if_neg hp]
section
variable {X : Cx} {W : WX} {pos : Pos} {c : Expr} {body : List Stmt} {mt : TM} {mb : SM}
theorem sm_while (hp : PassesOwn (model X.prog X.w) X.A X.env X.xe) (hc : PT X c (tMt X.K W mt)) (hb : PSs X body (tS X.K W mb)) : PS X (.While c body [] pos) (tS X.K W (sWhile mt mb)) := by
  refine (ps_while hp hc hb).imp fun Dn σ H ⟨ι, Γ, h, g, o⟩ => ?_
  by_cases z : ∃ n, whileL mt mb n Γ h ≠ .stuck
  · obtain ⟨n, z⟩ := z
    rw [sWhile_at z] at o
    refine ⟨fun m σ H => ∃ ι Γ h, SR X.K ι H h Γ σ ∧ OutS X.K W ι H (whileL mt mb m Γ h) Dn, ⟨n, ι, Γ, h, g, o⟩, fun m σ H ⟨ι, Γ, h, g, o⟩ => ?_⟩
    cases m with
    | zero => exact o.elim
    | succ m =>
      refine tS.bind (m := mt) (f := fun Γ p => if p.1 = true then (mb Γ p.2).bind fun q => match q.1 with
        | .nx => whileL mt mb m q.2.1 q.2.2
        | .ct => whileL mt mb m q.2.1 q.2.2
        | .bk => .ok (.nx, q.2)
        | .rt x => .ok (.rt x, q.2)
        else .ok (.nx, Γ, p.2)) ⟨ι, Γ, h, g, o⟩ fun Γ a h1 b ι1 H1 g1 x1 o1 => ?_
      subst x1
      cases a with
      | false => exact o1 σ ι1 H1 g1 .refl
      | true =>
        refine ⟨fun σ' H' => ∃ ι Γ h, SR X.K ι H' h Γ σ' ∧ OutS X.K W ι H' (whileL mt mb m Γ h) Dn, fun σ' H' q => ⟨m, Nat.lt_succ_self m, q⟩, ⟨ι1, Γ, h1, g1, ?_⟩⟩
        simp only [if_true] at o1
        generalize mb Γ h1 = r at o1
        cases r with
        | ok p =>
          obtain ⟨c, Γ', h'⟩ := p
          cases c with
          | nx => exact fun σ2 ι2 H2 q1 q2 => ⟨ι2, Γ', h', q1, OutS.mono q2 o1⟩
          | ct => exact fun σ2 ι2 H2 q1 q2 => ⟨ι2, Γ', h', q1, OutS.mono q2 o1⟩
          | rt d => exact o1
          | bk => exact o1
        | exc x Γ h => exact o1
        | stuck => exact o1
  · unfold sWhile at o
    rw [dif_neg z] at o
    exact o.elim
end

/-! ## dropping what nothing refers to -/
mutual
def closedD (n : Nat) : D → Prop
  | .tup xs => closedDs n xs
  | .fl xs => closedDs n xs
  | .ref k => k < n
  | _ => True
def closedDs (n : Nat) : List D → Prop
  | [] => True
  | x :: xs => closedD n x ∧ closedDs n xs
end
def closedO (n : Nat) : O → Prop
  | .lst xs => closedDs n xs
  | .dct kvs => closedDs n (kvs.map (·.1)) ∧ closedDs n (kvs.map (·.2))
  | .st xs => closedDs n xs
  | .ins _ fs => closedDs n (fs.map (·.2))
def closedΓ (n : Nat) (Γ : Env) : Prop := ∀ (i : Nat) (d : D), Γ[i]? = some (some d) → closedD n d
section
variable {K : PySem.W.Frag} {ι ι' ι0 : List Addr} {H H' : Hp} {h h' : MH} {Γ : Env} {σ : St} {n : Nat}
mutual
theorem VR.closed : ∀ (d : D) (v : V), VR K ι H d v → closedD ι.length d
  | .non, v, g => by unfold closedD; trivial
  | .bl b, v, g => by unfold closedD; trivial
  | .int i, v, g => by unfold closedD; trivial
  | .str s, v, g => by unfold closedD; trivial
  | .tup ds, v, g => by
    unfold VR at g
    obtain ⟨p, vs, _, _, h3⟩ := g
    unfold closedD
    exact VRs.closed ds vs h3
  | .fl ds, v, g => by
    unfold VR at g
    obtain ⟨p, vs, _, _, h3⟩ := g
    unfold closedD
    exact VRs.closed ds vs h3
  | .ref n, v, g => by
    unfold VR at g
    obtain ⟨p, _, h2⟩ := g
    unfold closedD
    exact (List.getElem?_eq_some_iff.mp h2).1
theorem VRs.closed : ∀ (ds : List D) (vs : List V), VRs K ι H ds vs → closedDs ι.length ds
  | [], vs, g => by unfold closedDs; trivial
  | d :: ds, vs, g => by
    unfold VRs at g
    obtain ⟨v, r, _, h2, h3⟩ := g
    unfold closedDs
    exact ⟨VR.closed d v h2, VRs.closed ds r h3⟩
end
theorem StT.cut {p : Addr} {vs : List V} (e : ∀ q ∈ ι0, q ∈ ι) (g : StT K ι H p vs) : StT K ι0 H p vs := by
  rcases g with ⟨hn, g⟩ | g
  · exact .inl ⟨fun z => hn (e p z), g⟩
  · exact .inr g
theorem StL.cut {p : Addr} {vs : List V} (e : ∀ q ∈ ι0, q ∈ ι) (g : StL K ι H p vs) : StL K ι0 H p vs := by
  rcases g with ⟨hn, g⟩ | g
  · exact .inl ⟨fun z => hn (e p z), g⟩
  · exact .inr g
mutual
/-- the addresses behind ι0 are no more looked at -/
theorem VR.cut {new : List Addr} (e : ι = ι0 ++ new) : ∀ (d : D) (v : V), closedD ι0.length d → VR K ι H d v → VR K ι0 H d v
  | .non, v, _, g => by unfold VR at *; exact g
  | .bl b, v, _, g => by unfold VR at *; exact g
  | .int i, v, _, g => by unfold VR at *; exact g
  | .str s, v, _, g => by unfold VR at *; exact g
  | .tup ds, v, c, g => by
    unfold VR at *
    unfold closedD at c
    obtain ⟨p, vs, h1, h2, h3⟩ := g
    exact ⟨p, vs, h1, h2.cut (fun q hq => by rw [e]; exact List.mem_append_left _ hq), VRs.cut e ds vs c h3⟩
  | .fl ds, v, c, g => by
    unfold VR at *
    unfold closedD at c
    obtain ⟨p, vs, h1, h2, h3⟩ := g
    exact ⟨p, vs, h1, h2.cut (fun q hq => by rw [e]; exact List.mem_append_left _ hq), VRs.cut e ds vs c h3⟩
  | .ref n, v, c, g => by
    unfold VR at *
    unfold closedD at c
    obtain ⟨p, h1, h2⟩ := g
    refine ⟨p, h1, ?_⟩
    rw [e, List.getElem?_append_left c] at h2
    exact h2
theorem VRs.cut {new : List Addr} (e : ι = ι0 ++ new) : ∀ (ds : List D) (vs : List V), closedDs ι0.length ds → VRs K ι H ds vs → VRs K ι0 H ds vs
  | [], vs, _, g => by unfold VRs at *; exact g
  | d :: ds, vs, c, g => by
    unfold VRs at *
    unfold closedDs at c
    obtain ⟨v, r, h1, h2, h3⟩ := g
    exact ⟨v, r, h1, VR.cut e d v c.1 h2, VRs.cut e ds r c.2 h3⟩
end
theorem FRs.cut {new : List Addr} (e : ι = ι0 ++ new) : ∀ (ds : List (Str × D)) (vs : List (Str × V)), closedDs ι0.length (ds.map (·.2)) → FRs K ι H ds vs → FRs K ι0 H ds vs
  | [], vs, _, g => g
  | d :: ds, vs, c, g => by
    simp only [List.map_cons, closedDs] at c
    obtain ⟨v, r, h1, h2, h3⟩ := g
    exact ⟨v, r, h1, VR.cut e _ v c.1 h2, FRs.cut e ds r c.2 h3⟩
theorem FRs.closed : ∀ (ds : List (Str × D)) (vs : List (Str × V)), FRs K ι H ds vs → closedDs ι.length (ds.map (·.2))
  | [], vs, g => by simp [closedDs]
  | d :: ds, vs, g => by
    obtain ⟨v, r, _, h2, h3⟩ := g
    simp only [List.map_cons, closedDs]
    exact ⟨VR.closed _ v h2, FRs.closed ds r h3⟩
theorem OR.cut {new : List Addr} {p : Addr} {o : O} (e : ι = ι0 ++ new) (c : closedO ι0.length o) (g : OR K ι H p o) : OR K ι0 H p o := by
  cases o with
  | lst ds => obtain ⟨vs, h1, h2⟩ := g; exact ⟨vs, h1, VRs.cut e _ _ c h2⟩
  | dct kvs => exact g
  | st xs => exact g
  | ins C fs => obtain ⟨dx, vs, h1, h2⟩ := g; exact ⟨dx, vs, h1, FRs.cut e _ _ c h2⟩
theorem OR.closed {p : Addr} {o : O} (g : OR K ι H p o) : closedO ι.length o := by
  cases o with
  | lst ds => obtain ⟨vs, h1, h2⟩ := g; exact VRs.closed _ _ h2
  | dct kvs => exact g.elim
  | st xs => exact g.elim
  | ins C fs => obtain ⟨dx, vs, h1, h2⟩ := g; exact FRs.closed _ _ h2
/-- the objects of h' below n are as in h, or refer to nothing from n on -/
def OldOk (h h' : MH) (n : Nat) : Prop := ∀ (k : Nat) (o : O), k < n → h'[k]? = some o → h[k]? = some o ∨ closedO n o
theorem HR.cut (g : HR K ι H h) (g' : HR K ι' H' h') (e : Ext ι H ι' H') (hn : h.length ≤ n) (hn' : n ≤ h'.length) (old : OldOk h h' n) : HR K (ι'.take n) H' (h'.take n) := by
  have e2 : ι' = ι'.take n ++ ι'.drop n := (List.take_append_drop n ι').symm
  have ln : (ι'.take n).length = n := by rw [List.length_take, g'.len]; omega
  refine ⟨(List.take_sublist n ι').nodup g'.nd, by rw [ln, List.length_take]; omega, fun k o hk => ?_⟩
  have hkn : k < n := by
    have := (List.getElem?_eq_some_iff.mp hk).1
    rw [List.length_take] at this; omega
  rw [List.getElem?_take_of_lt hkn] at hk
  obtain ⟨p, h1, h2⟩ := g'.obj k o hk
  refine ⟨p, by rw [List.getElem?_take_of_lt hkn]; exact h1, OR.cut e2 ?_ h2⟩
  rw [ln]
  rcases old k o hkn hk with z | z
  · obtain ⟨q, _, h4⟩ := g.obj k o z
    have c := h4.closed
    rw [g.len] at c
    exact closedO_mono hn c
  · exact z
where
  closedD_mono {a b : Nat} (l : a ≤ b) : ∀ (d : D), closedD a d → closedD b d
  | .non, _ => by unfold closedD; trivial
  | .bl _, _ => by unfold closedD; trivial
  | .int _, _ => by unfold closedD; trivial
  | .str _, _ => by unfold closedD; trivial
  | .tup xs, c => by unfold closedD at *; exact closedDs_mono l xs c
  | .fl xs, c => by unfold closedD at *; exact closedDs_mono l xs c
  | .ref k, c => by unfold closedD at *; omega
  closedDs_mono {a b : Nat} (l : a ≤ b) : ∀ (xs : List D), closedDs a xs → closedDs b xs
  | [], _ => by unfold closedDs; trivial
  | x :: xs, c => by unfold closedDs at *; exact ⟨closedD_mono l x c.1, closedDs_mono l xs c.2⟩
  closedO_mono {a b : Nat} (l : a ≤ b) {o : O} (c : closedO a o) : closedO b o := by
    cases o with
    | lst xs => exact closedDs_mono l xs c
    | dct kvs => exact ⟨closedDs_mono l _ c.1, closedDs_mono l _ c.2⟩
    | st xs => exact closedDs_mono l xs c
    | ins C fs => exact closedDs_mono l _ c
theorem Ext.cut (e : Ext ι H ι' H') (hn : ι.length ≤ n) : Ext ι H (ι'.take n) H' := by
  obtain ⟨⟨new, e1, f1⟩, k1, d1⟩ := e
  refine ⟨⟨new.take (n - ι.length), ?_, fun p hp => f1 p (List.mem_of_mem_take hp)⟩, k1, d1⟩
  rw [e1, List.take_append, List.take_of_length_le hn]
end
end Mir
namespace Mir
open PySem L2
open Classical

/-! ## scopes -/
/-- what m has laid is dropped where nothing that stays refers to it -/
noncomputable def mScope (m : EM) : EM := fun Γ h => match m Γ h with
  | .ok (d, h') => if h.length ≤ h'.length ∧ OldOk h h' h.length ∧ closedD h.length d then .ok (d, h'.take h.length) else .stuck
  | .exc e Γ' h' => .exc e Γ' h'
  | .stuck => .stuck
/-- a new list that m hands back is frozen -/
noncomputable def mFrz (m : EM) : EM := fun Γ h => match m Γ h with
  | .ok (.ref k, h') => match h'[k]? with
    | some (.lst xs) => if h.length ≤ k ∧ OldOk h h' h.length ∧ closedDs h.length xs then .ok (.fl xs, h'.take h.length) else .stuck
    | _ => .stuck
  | .ok _ => .stuck
  | .exc e Γ' h' => .exc e Γ' h'
  | .stuck => .stuck
noncomputable def sScope (m : SM) : SM := fun Γ h => match m Γ h with
  | .ok (c, Γ', h') => if h.length ≤ h'.length ∧ OldOk h h' h.length ∧ closedΓ h.length Γ' ∧ (∀ d, c = .rt d → closedD h.length d) then .ok (c, Γ', h'.take h.length) else .stuck
  | .exc e Γ' h' => .exc e Γ' h'
  | .stuck => .stuck
section
variable {X : Cx} {W : WX} {e : Expr} {m : EM} {sm : SM} {sts : List Stmt} {st : Stmt} {K : PySem.W.Frag} {ι ι' : List Addr} {H H' : Hp} {h h' : MH} {Γ Γ' : Env} {σ σ' : St}
theorem take_len {ι ι' : List Addr} {H H' : Hp} (e : Ext ι H ι' H') : (ι'.take ι.length).length = ι.length := by
  obtain ⟨⟨new, e1, _⟩, _, _⟩ := e
  rw [e1]; simp
theorem VR.cut' {n : Nat} {d : D} {v : V} (hn : n ≤ ι.length) (c : closedD n d) (g : VR K ι H d v) : VR K (ι.take n) H d v :=
  VR.cut (List.take_append_drop n ι).symm d v (by rw [List.length_take]; rw [Nat.min_eq_left hn]; exact c) g
theorem VRs.cut' {n : Nat} {d : List D} {v : List V} (hn : n ≤ ι.length) (c : closedDs n d) (g : VRs K ι H d v) : VRs K (ι.take n) H d v :=
  VRs.cut (List.take_append_drop n ι).symm d v (by rw [List.length_take]; rw [Nat.min_eq_left hn]; exact c) g
theorem FRs.cut' {n : Nat} {d : List (Str × D)} {v : List (Str × V)} (hn : n ≤ ι.length) (c : closedDs n (d.map (·.2))) (g : FRs K ι H d v) : FRs K (ι.take n) H d v :=
  FRs.cut (List.take_append_drop n ι).symm d v (by rw [List.length_take]; rw [Nat.min_eq_left hn]; exact c) g
theorem SR.cut {n : Nat} (g : HR K ι H h) (g' : SR K ι' H' h' Γ' σ') (x : Ext ι H ι' H') (hn : h.length ≤ n) (hn' : n ≤ h'.length) (old : OldOk h h' n) (c : closedΓ n Γ') : SR K (ι'.take n) H' (h'.take n) Γ' σ' :=
  ⟨g.cut g'.hr x hn hn' old, g'.er.1, fun i d hd => let ⟨v, h1, h2⟩ := g'.er.2 i d hd; ⟨v, h1, h2.cut' (by rw [g'.hr.len]; exact hn') (c i d hd)⟩⟩
theorem pm_scope (p : PE X e (tM X.K W m)) : PE X e (tM X.K W (mScope m)) := by
  refine p.imp fun σ H Q ⟨ι, Γ, h, g, o⟩ => ⟨ι, Γ, h, g, ?_⟩
  unfold mScope at o
  cases r : m Γ h with
  | ok q =>
    obtain ⟨d, h'⟩ := q
    rw [r] at o
    simp only at o
    split at o
    · rename_i c
      obtain ⟨c1, c2, c3⟩ := c
      intro v ι' H' q1 q2 q3
      exact o v (ι'.take h.length) H' (g.hr.cut q1 q3 (Nat.le_refl _) c1 c2) (q2.cut' (by rw [q1.len]; exact c1) c3) (q3.cut (by rw [g.hr.len]; exact Nat.le_refl _))
    · exact o.elim
  | exc x Γ h => rw [r] at o; exact o
  | stuck => rw [r] at o; exact o
theorem frz_go {Q : VK} (o : tM K W (mFrz m) σ H Q) : tM K W m σ H Q := by
  obtain ⟨ι, Γ, h, g, o⟩ := o
  refine ⟨ι, Γ, h, g, ?_⟩
  unfold mFrz at o
  cases r : m Γ h with
  | ok q =>
    obtain ⟨d, h'⟩ := q
    rw [r] at o
    cases d with
    | ref k =>
      simp only at o
      cases z : h'[k]? with
      | none => rw [z] at o; exact o.elim
      | some ob =>
        rw [z] at o
        cases ob with
        | lst xs =>
          simp only at o
          split at o
          · rename_i c
            obtain ⟨c1, c2, c3⟩ := c
            intro v ι' H' q1 q2 q3
            have hk : k < h'.length := (List.getElem?_eq_some_iff.mp z).1
            have hl : h.length ≤ h'.length := by omega
            refine o v (ι'.take h.length) H' (g.hr.cut q1 q3 (Nat.le_refl _) hl c2) ?_ (q3.cut (by rw [g.hr.len]; exact Nat.le_refl _))
            unfold VR at q2
            obtain ⟨p, rfl, h1⟩ := q2
            obtain ⟨p', vs, h2, h3, h4⟩ := q1.lst z
            rw [h1] at h2; cases h2
            unfold VR
            refine ⟨p, vs, rfl, .inl ⟨fun hm => ?_, .inl h3⟩, h4.cut' (by rw [q1.len]; exact hl) c3⟩
            obtain ⟨j, hj, ej⟩ := List.getElem_of_mem hm
            rw [List.length_take] at hj
            rw [List.getElem_take] at ej
            have : j = k := (List.getElem?_inj (by omega) q1.nd).mp ((List.getElem?_eq_getElem (by omega)).trans ((congrArg some ej).trans h1.symm))
            omega
          · exact o.elim
        | _ => exact o.elim
    | _ => exact o.elim
  | exc x Γ h => rw [r] at o; exact o
  | stuck => rw [r] at o; exact o
theorem pm_frz (p : PE X e (tM X.K W m)) : PE X e (tM X.K W (mFrz m)) := p.imp fun _ _ _ => frz_go
theorem OutS.scope {Dn : Ends} (g : SR K ι H h Γ σ) (o : OutS K W ι H (sScope sm Γ h) Dn) : OutS K W ι H (sm Γ h) Dn := by
  unfold sScope at o
  cases r : sm Γ h with
  | ok q =>
    obtain ⟨c, Γ', h'⟩ := q
    rw [r] at o
    simp only at o
    split at o
    · rename_i z
      obtain ⟨c1, c2, c3, c4⟩ := z
      have k : ∀ {ι' H' σ'}, SR K ι' H' h' Γ' σ' → Ext ι H ι' H' → SR K (ι'.take h.length) H' (h'.take h.length) Γ' σ' ∧ Ext ι H (ι'.take h.length) H' := fun {ι' H' σ'} q1 q2 =>
        ⟨SR.cut g.hr q1 q2 (Nat.le_refl _) c1 c2 c3, q2.cut (by rw [g.hr.len]; exact Nat.le_refl _)⟩
      cases c with
      | nx => exact fun σ' ι' H' q1 q2 => o σ' _ H' (k q1 q2).1 (k q1 q2).2
      | bk => exact fun σ' ι' H' q1 q2 => o σ' _ H' (k q1 q2).1 (k q1 q2).2
      | ct => exact fun σ' ι' H' q1 q2 => o σ' _ H' (k q1 q2).1 (k q1 q2).2
      | rt d => exact fun v ι' H' q1 q2 q3 => o v (ι'.take h.length) H' (g.hr.cut q1 q3 (Nat.le_refl _) c1 c2) (q2.cut' (by rw [q1.len]; exact c1) (c4 d rfl)) (q3.cut (by rw [g.hr.len]; exact Nat.le_refl _))
    · exact o.elim
  | exc x Γ h => rw [r] at o; exact o
  | stuck => rw [r] at o; exact o
theorem sm_scope (p : PSs X sts (tS X.K W sm)) : PSs X sts (tS X.K W (sScope sm)) := p.imp fun Dn σ H ⟨ι, Γ, h, g, o⟩ => ⟨ι, Γ, h, g, OutS.scope g o⟩
theorem sm_scopeS (p : PS X st (tS X.K W sm)) : PS X st (tS X.K W (sScope sm)) := p.imp fun Dn σ H ⟨ι, Γ, h, g, o⟩ => ⟨ι, Γ, h, g, OutS.scope g o⟩
end

/-! ## comprehensions -/
/-- no exception: it is stuck there -/
def R.nox {α : Type} : R α → R α
  | .ok a => .ok a
  | _ => .stuck
@[simp] theorem R.nox_ok {α : Type} {a : α} : (R.ok a).nox = .ok a := rfl
@[simp] theorem R.nox_exc {α : Type} {e Γ h} : (R.exc e Γ h : R α).nox = .stuck := rfl
@[simp] theorem R.nox_stuck {α : Type} : (R.stuck : R α).nox = .stuck := rfl
noncomputable def compL (l : Live) (g : GM) (t : TM) (e : EM) (n : Nat) (Γ : Env) : List D → MH → R (Unit × MH)
  | [], h => if liveOk l h then .ok ((), h) else .stuck
  | d :: ds, h => if liveOk l h then match g d Γ h with
      | none => .stuck
      | some Γ1 => (t Γ1 h).nox.bind fun p => if p.1 = true then (e Γ1 p.2).nox.bind fun q => match q.2[n]? with
          | some (.lst acc) => if acc.length < 1000000 then compL l g t e n Γ ds (q.2.set n (.lst (acc ++ [q.1]))) else .stuck
          | _ => .stuck
        else compL l g t e n Γ ds p.2
    else .stuck
noncomputable def mCompN (im : IM) (g : GM) (t : TM) (e : EM) (vs : List Nat) : EM := fun Γ h => (im Γ h).bind fun p => (compL p.1.2 g t e p.2.length (wipeΓ Γ vs) p.1.1 (p.2 ++ [.lst []])).bind fun q => .ok (.ref p.2.length, q.2)
def tTrue : TM := fun _ h => .ok (true, h)
theorem wipe_get (σ : St) : ∀ (vs : List Nat) (i : Nat), (wipe σ vs)[i]? = if i ∈ vs then (if i < σ.length then some none else none) else σ[i]?
  | [], i => by simp [wipe]
  | v :: vs, i => by
    unfold wipe
    by_cases e : i = v
    · subst e
      simp only [List.mem_cons, true_or, if_true]
      by_cases l : i < σ.length
      · rw [List.getElem?_set_self (by rw [wipe_length]; exact l), if_pos l]
      · rw [List.getElem?_eq_none (by rw [List.length_set, wipe_length]; omega), if_neg l]
    · rw [List.getElem?_set_ne (Ne.symm e), wipe_get σ vs i]
      simp [e]
theorem wipe_eq {σ σ2 : St} {vs : List Nat} (hl : σ2.length = (wipe σ vs).length) (k : ∀ i, i ∉ vs → σ2[i]? = (wipe σ vs)[i]?) : wipe σ2 vs = wipe σ vs := by
  apply List.ext_getElem?
  intro i
  rw [wipe_get σ2]
  by_cases m : i ∈ vs
  · rw [if_pos m, wipe_get σ, if_pos m, hl, wipe_length]
  · rw [if_neg m, k i m]
section
variable {X : Cx} {W : WX} {pos : Pos} {tg iter elt : Expr} {ifs : List Expr} {scope : Scope} {own : List (Str × Nat)} {im : IM} {g : GM} {mt : TM} {me : EM} {sl : List Nat}
theorem tX.wish {α β : Type} {rel : List Addr → Hp → α → β → Prop} {K : PySem.W.Frag} {W W' : WX} {m : Env → MH → R (α × MH)} {σ : St} {H : Hp} {Q : β → Hp → Prop} (i : ∀ c d H, W c d σ H → W' c d σ H) (o : tX rel K W m σ H Q) : tX rel K W' m σ H Q := by
  obtain ⟨ι, Γ, h, g, o⟩ := o
  refine ⟨ι, Γ, h, g, ?_⟩
  generalize m Γ h = r at o ⊢
  cases r with
  | ok p => exact o
  | exc e Γ h => exact fun ι' H' cls dd q1 q2 q3 => i _ _ _ (o ι' H' cls dd q1 q2 q3)
  | stuck => exact o
/-- what a comprehension asks: no exception leaves it -/
def W0 : WX := fun _ _ _ _ => False
theorem lc_go {K : PySem.W.Frag} {σ : St} {H : Hp} {Q : VK} (hsl : ∀ i ∈ sl, i ∈ own.map (·.2)) (o : tM K W (mCompN im g mt me (own.map (·.2))) σ H Q) :
    tLc (tMi K W im) (tMg K sl g) (tMt K W0 mt) (tM K W0 me) (own.map (·.2)) σ H Q := by
  unfold tLc
  refine tX.bind o fun Γ a h0 J ι1 H1 g1 x1 o1 D nD => ?_
  obtain ⟨items, l⟩ := a
  generalize own.map (·.2) = vs at *
  have hN0 : (ι1 ++ [D])[h0.length]? = some D := by rw [← g1.hr.len, List.getElem?_append_right (Nat.le_refl _)]; simp
  have x2 := Ext.alloc (ι := ι1) (o := .lst []) nD
  refine ⟨fun i m H => ∃ ι h, SR K ι H h (wipeΓ Γ vs) (wipe σ vs) ∧ Ext (ι1 ++ [D]) (upd H1 D (.lst [])) ι H ∧ m = items.length - i ∧ i ≤ items.length ∧
      Out (VR K) K W ι H σ ((compL l g mt me h0.length (wipeΓ Γ vs) (items.drop i) h).bind fun q => .ok (.ref h0.length, q.2)) Q,
    ⟨_, ι1 ++ [D], h0 ++ [.lst []], ?_, .refl, rfl, Nat.zero_le _, Out.mono x2 (by simpa using o1)⟩, fun i m H hW => ?_⟩
  · have g2 := (g1.to x2 (g1.hr.alloc (u := .lst []) nD ⟨[], upd_same, .nil⟩))
    exact g2.wipe2 vs
  · obtain ⟨ι, h, gr, ex, em, hle, oS⟩ := hW
    have hD : ι[h0.length]? = some D := ex.get hN0
    have hlive : liveOk l h := by
      by_cases z : liveOk l h
      · exact z
      · exfalso
        cases hd : items.drop i with
        | nil => rw [hd] at oS; simp only [compL, if_neg z] at oS; exact oS
        | cons d ds => rw [hd] at oS; simp only [compL, if_neg z] at oS; exact oS
    have exI : Ext ι1 H1 ι H := x2.trans ex
    by_cases hlt : i < items.length
    · have hd : items.drop i = items[i] :: items.drop (i + 1) := List.drop_eq_getElem_cons hlt
      rw [hd] at oS
      simp only [compL, if_pos hlive] at oS
      obtain ⟨hgo, hyl⟩ := x1.go ι H h i items[i] gr.hr exI hlive (List.getElem?_eq_getElem hlt)
      refine .inr ⟨hgo, fun H' => ∃ ι' h', SR K ι' H' h' (wipeΓ Γ vs) (wipe σ vs) ∧ Ext (ι1 ++ [D]) (upd H1 D (.lst [])) ι' H' ∧
        Out (VR K) K W ι' H' σ ((compL l g mt me h0.length (wipeΓ Γ vs) (items.drop (i + 1)) h').bind fun q => .ok (.ref h0.length, q.2)) Q, fun H' ⟨ι', h', q1, q2, q3⟩ => ⟨items.length - (i + 1), by omega, ι', h', q1, q2, rfl, hlt, q3⟩, fun x H'' hy => ?_⟩
      obtain ⟨r2, v2, e2⟩ := hyl x H'' hy
      have gr2 := gr.to e2 r2
      cases zg : g items[i] (wipeΓ Γ vs) h with
      | none => rw [zg] at oS; exact oS.elim
      | some Γ1 =>
        simp only [zg] at oS
        refine ⟨ι, wipeΓ Γ vs, h, items[i], Γ1, gr2, v2, zg, fun σ' gs ls ks => ⟨wipe_eq ls fun i hi => ks i fun m => hi (hsl i m), ?_⟩⟩
        have oS2 := Out.mono e2 oS
        -- the slots of the turn go back to the wiped ones
        have back : ∀ {ι3 H3 h3}, SR K ι3 H3 h3 Γ1 σ' → Ext ι H'' ι3 H3 → SR K ι3 H3 h3 (wipeΓ Γ vs) (wipe σ vs) := fun {ι3 H3 h3} q1 q2 => gr2.to q2 q1.hr
        have og : tX (rel := fun _ _ (a b : Bool) => a = b) K W0 mt σ' H'' (fun b H3 => if b = true then tM K W0 me σ' H3 fun y H4 => ∃ acc, H4 D = some (.lst acc) ∧ acc.length < sizeLine ∧ ∃ ι' h', SR K ι' (upd H4 D (.lst (acc ++ [y]))) h' (wipeΓ Γ vs) (wipe σ vs) ∧ Ext (ι1 ++ [D]) (upd H1 D (.lst [])) ι' (upd H4 D (.lst (acc ++ [y]))) ∧
            Out (VR K) K W ι' (upd H4 D (.lst (acc ++ [y]))) σ ((compL l g mt me h0.length (wipeΓ Γ vs) (items.drop (i + 1)) h').bind fun q => .ok (.ref h0.length, q.2)) Q
          else ∃ ι' h', SR K ι' H3 h' (wipeΓ Γ vs) (wipe σ vs) ∧ Ext (ι1 ++ [D]) (upd H1 D (.lst [])) ι' H3 ∧ Out (VR K) K W ι' H3 σ ((compL l g mt me h0.length (wipeΓ Γ vs) (items.drop (i + 1)) h').bind fun q => .ok (.ref h0.length, q.2)) Q) := by
          refine ⟨ι, Γ1, h, gs, ?_⟩
          generalize hr1 : mt Γ1 h = r1 at oS2
          cases r1 with
          | exc e Γ h => exact oS2.elim
          | stuck => exact oS2.elim
          | ok p =>
            obtain ⟨b, h3⟩ := p
            intro b' ι3 H3 q1 q2 q3
            subst q2
            have oS3 := Out.mono q3 oS2
            have gs3 := gs.to q3 q1
            cases b with
            | false =>
              simp only [R.nox_ok, R.bind_ok, Bool.false_eq_true, if_false] at oS3 ⊢
              exact ⟨ι3, h3, back gs3 q3, (ex.trans e2).trans q3, oS3⟩
            | true =>
              simp only [R.nox_ok, R.bind_ok, if_true] at oS3 ⊢
              refine ⟨ι3, Γ1, h3, gs3, ?_⟩
              generalize hr2 : me Γ1 h3 = r2 at oS3
              cases r2 with
              | exc e Γ h => exact oS3.elim
              | stuck => exact oS3.elim
              | ok p =>
                obtain ⟨y, h4⟩ := p
                intro v ι4 H4 q4 q5 q6
                have oS4 := Out.mono q6 oS3
                simp only [R.nox_ok, R.bind_ok] at oS4
                have hD4 : ι4[h0.length]? = some D := q6.get (q3.get hD)
                cases za : h4[h0.length]? with
                | none => rw [za] at oS4; exact oS4.elim
                | some ob =>
                  rw [za] at oS4
                  cases ob with
                  | lst acc =>
                    simp only at oS4
                    split at oS4
                    · rename_i hacc
                      obtain ⟨p', vs', h5, h6, h7⟩ := q4.lst za
                      rw [hD4] at h5; cases h5
                      have ew : Ext ι4 H4 ι4 (upd H4 D (.lst (vs' ++ [v]))) := Ext.write hD4
                      have gw := q4.write (o := .lst (vs' ++ [v])) (u := .lst (acc ++ [y])) hD4 ⟨vs' ++ [v], upd_same, VRs.mono ew _ _ (h7.append (.single q5))⟩
                      refine ⟨vs', h6, Nat.lt_of_lt_of_le (by rw [← h7.length]; exact hacc) (by decide), ι4, _, back (gs3.to (q6.trans ew) gw) (q3.trans (q6.trans ew)), ((ex.trans e2).trans q3).trans (q6.trans ew), Out.mono ew oS4⟩
                    · exact oS4.elim
                  | _ => exact oS4.elim
        exact og
    · have ei : i = items.length := by omega
      subst ei
      rw [List.drop_length] at oS
      simp only [compL, if_pos hlive, R.bind_ok] at oS
      refine .inl ⟨x1.stop ι H h gr.hr exI hlive, oS (.ref D) ι H gr.hr ?_ .refl⟩
      unfold VR
      exact ⟨D, rfl, hD⟩
theorem pm_comp (hc : X.calm = true) (hN : X.N.Nodup) (hi : PI X tg iter (tMi X.K W im)) (ok : BlkOk X.N X.env.scope scope own)
    (hg : ∀ (s : Shared) (H : Hp) (C : Addr) (cl : List (Str × Addr)) (fp : List Addr), PG (X.blk s H scope (compEnvC scope cl C X.env) fp) tg (tMg X.K sl g)) (ht : ∀ (s : Shared) (H : Hp) (C : Addr) (cl : List (Str × Addr)) (fp : List Addr), PTs (X.blk s H scope (compEnvC scope cl C X.env) fp) ifs (tMt X.K W0 mt))
    (he : ∀ (s : Shared) (H : Hp) (C : Addr) (cl : List (Str × Addr)) (fp : List Addr), PE (X.blk s H scope (compEnvC scope cl C X.env) fp) elt (tM X.K W0 me)) (hsl : ∀ i ∈ sl, i ∈ own.map (·.2)) (hs : ∀ x, foldedSetIterable iter X.env x = pure x := by intro _; rfl) :
    PE X (.ListComp elt [⟨tg, iter, ifs, 0⟩] scope pos) (tM X.K W (mCompN im g mt me (own.map (·.2)))) :=
  (pe_lc hc hN hi ok hg ht he hs).imp fun σ H Q o => lc_go hsl o
theorem sm_setComp {i : Nat} {y : Str} {py spos : Pos} (hc : X.calm = true) (hN : X.N.Nodup) (hy : X.N[i]? = some y) (hyl : X.env.scope.names.lookup y = some .local)
    (hsw : swapsWith (.ListComp elt [⟨tg, iter, ifs, 0⟩] scope pos) (some (.Name y py)) spos.line X.env = pure true) (hi : PI X tg iter (tMi X.K W im)) (ok : BlkOk X.N X.env.scope scope own)
    (hg : ∀ (s : Shared) (H : Hp) (C : Addr) (cl : List (Str × Addr)) (fp : List Addr), PG (X.blk s H scope (compEnvC scope cl C X.env) fp) tg (tMg X.K sl g)) (ht : ∀ (s : Shared) (H : Hp) (C : Addr) (cl : List (Str × Addr)) (fp : List Addr), PTs (X.blk s H scope (compEnvC scope cl C X.env) fp) ifs (tMt X.K W0 mt))
    (he : ∀ (s : Shared) (H : Hp) (C : Addr) (cl : List (Str × Addr)) (fp : List Addr), PE (X.blk s H scope (compEnvC scope cl C X.env) fp) elt (tM X.K W0 me)) (hsl : ∀ i ∈ sl, i ∈ own.map (·.2)) (hs : ∀ x, foldedSetIterable iter X.env x = pure x := by intro _; rfl) :
    PS X (.Assign [.Name y py] (.ListComp elt [⟨tg, iter, ifs, 0⟩] scope pos) spos) (tS X.K W (sSet i (mCompN im g mt me (own.map (·.2))))) :=
  (ps_setLc hc hN hy hyl hsw hi ok hg ht he hs).imp fun Dn σ H o => lc_go hsl (tS.bind o fun Γ d h1 v ι1 H1 g1 x1 o1 => o1 _ ι1 H1 (g1.set x1 i) .refl)
end
end Mir
namespace Mir
open PySem PyProof.Rows L2
open Classical

/-! ## functions -/
abbrev FM := List D → MH → R (D × MH)
/-- what follows a call -/
def OutF' (K : PySem.W.Frag) (ι : List Addr) (H : Hp) (r : R (D × MH)) (Q : VK) (E : XK) : Prop :=
  match r with
  | .ok (d, h') => ∀ v ι' H', HR K ι' H' h' → VR K ι' H' d v → Ext ι H ι' H' → Q v H'
  | .exc e _ h' => ∀ ι' H' cls dd, HR K ι' H' h' → XR K ι' H' e cls dd → Ext ι H ι' H' → E cls dd H'
  | .stuck => False
/-- the promise of a def with n parameters whose mirror is s -/
def spM (K : PySem.W.Frag) (n : Nat) (s : FM) : Sp := fun vs H Q E => ∃ ι h ds, HR K ι H h ∧ VRs K ι H ds vs ∧ ds.length = n ∧ OutF' K ι H (s ds h) Q E
def fnM (N : Nat) (body : SM) : FM := fun ds h => match body (ds.map some ++ List.replicate (N - ds.length) none) h with
  | .ok (.rt d, _, h') => .ok (d, h')
  | .ok (.nx, _, h') => .ok (.non, h')
  | .ok _ => .stuck
  | .exc e _ h' => .exc e [] h'
  | .stuck => .stuck
/-- exceptions of a callee, in the caller's frame -/
def R.re {α : Type} (Γ : Env) : R α → R α
  | .exc e _ h => .exc e Γ h
  | r => r
@[simp] theorem R.re_ok {α : Type} {Γ a} : (R.ok a : R α).re Γ = .ok a := rfl
@[simp] theorem R.re_exc {α : Type} {Γ e Γ' h} : (R.exc e Γ' h : R α).re Γ = .exc e Γ h := rfl
@[simp] theorem R.re_stuck {α : Type} {Γ} : (R.stuck : R α).re Γ = .stuck := rfl
def mCall (s : FM) (a : AM) : EM := fun Γ h => (a Γ h).bind fun p => (s p.1 p.2).re Γ

section
variable {P : Program} {w : World} {K : PySem.W.Frag} {mg : Str → Option Value} {base : Heap} {ι ι' : List Addr} {H H' : Hp} {h h' : MH}
theorem start_er {ds : List D} {vs : List V} {N : List Str} (g : VRs K ι H ds vs) (hl : ds.length ≤ N.length) : ER K ι H (ds.map some ++ List.replicate (N.length - ds.length) none) (L2.start N vs) := by
  have l := g.length
  refine ⟨by simp [L2.start, l], fun i d hd => ?_⟩
  unfold L2.start
  by_cases hi : i < ds.length
  · rw [List.getElem?_append_left (by simpa using hi), List.getElem?_map] at hd
    cases z : ds[i]? with
    | none => rw [z] at hd; cases hd
    | some d' =>
      rw [z] at hd
      have : d' = d := by simpa using hd
      subst this
      obtain ⟨v, h1, h2⟩ := g.get z
      refine ⟨v, ?_, h2⟩
      rw [List.getElem?_append_left (by simp; omega), List.getElem?_map, h1]
      rfl
  · rw [List.getElem?_append_right (by simp; omega)] at hd
    rw [List.getElem?_replicate] at hd
    split at hd <;> cases hd
/-- a def by its body -/
theorem fn_ok {x qual : Str} {st : Stmt} {f : Addr} {fd : FuncData} {N ps : List Str} {k : Nat} {m : SM} (F : Fun K x qual st f fd) (S : FnScope N ps (defScope st)) (hN : ps.length ≤ N.length)
    (hbody : ∀ (cdv : Value) (A : Around) (outer : List PySem.Env) (s : Shared) (H : Hp) (E : XK), Room k (A.deeper (envOfC qual (defScope st) s.heap.objs.size f cdv)) →
      PSs (cxOf (L2.CX P w) P w K mg base N qual (defScope st) f cdv A outer s H E) (defBody st) (tS K (fun cls d _ H => E cls d H) m)) :
    FnOk P w K mg base (L2.CX P w) (k + 1) f fd ps (spM K ps.length (fnM N.length m)) := by
  refine F.okX S (fun vs H Q E ⟨ι, h, ds, q1, q2, q3, q4⟩ => ?_) (fun cdv A outer s H vs Q E hr ⟨ι, h, ds, q1, q2, q3, q4⟩ => ⟨_, hbody cdv A outer s H E hr, ?_⟩)
  · rw [← q2.length]; exact q3
  · refine ⟨ι, _, h, ⟨q1, start_er q2 (by omega)⟩, ?_⟩
    unfold fnM at q4
    generalize m (ds.map some ++ List.replicate (N.length - ds.length) none) h = r at q4
    cases r with
    | ok p =>
      obtain ⟨c, Γ', h'⟩ := p
      cases c with
      | nx => exact fun σ' ι' H' g e => q4 .non ι' H' g.hr vr_non e
      | rt d => exact q4
      | bk => exact q4.elim
      | ct => exact q4.elim
    | exc e Γ' h' => exact fun σ' ι' H' cls dd g x e => q4 ι' H' cls dd g.hr x e
    | stuck => exact q4

/-! ### a promise by another function -/
mutual
/-- d' is d, where lists that lie from n on are frozen -/
inductive Fz (n : Nat) (h : MH) : D → D → Prop
  | same {d : D} : closedD n d → Fz n h d d
  | lst {k : Nat} {xs ys : List D} : n ≤ k → h[k]? = some (.lst xs) → FzL n h xs ys → Fz n h (.ref k) (.fl ys)
  | tup {xs ys : List D} : FzL n h xs ys → Fz n h (.tup xs) (.tup ys)
  | fl {xs ys : List D} : FzL n h xs ys → Fz n h (.fl xs) (.fl ys)
inductive FzL (n : Nat) (h : MH) : List D → List D → Prop
  | nil : FzL n h [] []
  | cons {d d' : D} {xs ys : List D} : Fz n h d d' → FzL n h xs ys → FzL n h (d :: xs) (d' :: ys)
end
theorem FzL.same {n : Nat} {h : MH} : ∀ {xs : List D}, closedDs n xs → FzL n h xs xs
  | [], _ => .nil
  | x :: xs, c => by unfold closedDs at c; exact .cons (.same c.1) (FzL.same c.2)
mutual
theorem VR.fz {n : Nat} (g : HR K ι H h) (hn : n ≤ ι.length) : ∀ {d d' : D} {v : V}, Fz n h d d' → VR K ι H d v → VR K (ι.take n) H d' v
  | _, _, v, .same c, r => r.cut' hn c
  | _, _, v, .lst (k := k) l e f, r => by
    unfold VR at r
    obtain ⟨p, rfl, h1⟩ := r
    obtain ⟨p', vs, h2, h3, h4⟩ := g.lst e
    rw [h1] at h2; cases h2
    unfold VR
    refine ⟨p, vs, rfl, .inl ⟨fun hm => ?_, .inl h3⟩, VRs.fz g hn f h4⟩
    obtain ⟨j, hj, ej⟩ := List.getElem_of_mem hm
    rw [List.length_take] at hj
    rw [List.getElem_take] at ej
    have : j = k := (List.getElem?_inj (by omega) g.nd).mp ((List.getElem?_eq_getElem (by omega)).trans ((congrArg some ej).trans h1.symm))
    omega
  | _, _, v, .tup f, r => by
    unfold VR at r ⊢
    obtain ⟨p, vs, h1, h2, h3⟩ := r
    exact ⟨p, vs, h1, h2.cut (fun q hq => List.mem_of_mem_take hq), VRs.fz g hn f h3⟩
  | _, _, v, .fl f, r => by
    unfold VR at r ⊢
    obtain ⟨p, vs, h1, h2, h3⟩ := r
    exact ⟨p, vs, h1, h2.cut (fun q hq => List.mem_of_mem_take hq), VRs.fz g hn f h3⟩
theorem VRs.fz {n : Nat} (g : HR K ι H h) (hn : n ≤ ι.length) : ∀ {d d' : List D} {v : List V}, FzL n h d d' → VRs K ι H d v → VRs K (ι.take n) H d' v
  | _, _, v, .nil, r => by unfold VRs at *; exact r
  | _, _, v, .cons f fs, r => by
    unfold VRs at *
    obtain ⟨u, us, h1, h2, h3⟩ := r
    exact ⟨u, us, h1, VR.fz g hn f h2, VRs.fz g hn fs h3⟩
end
/-- r' tells what r does: what r has laid behind h1 is dropped, new lists may be frozen -/
def Tells (h : MH) (r r' : R (D × MH)) : Prop :=
  match r' with
  | .stuck => True
  | .ok (d', h1) => ∃ d h2, r = .ok (d, h2) ∧ h.length ≤ h1.length ∧ h1.length ≤ h2.length ∧ h2.take h1.length = h1 ∧ OldOk h h1 h1.length ∧ Fz h1.length h2 d d'
  | .exc e _ h1 => ∃ Γ0 h2, r = .exc e Γ0 h2 ∧ h.length ≤ h1.length ∧ h1.length ≤ h2.length ∧ h2.take h1.length = h1 ∧ OldOk h h1 h1.length ∧ closedDs h1.length (e.2.map (·.2))
theorem old_take {n : Nat} {h h1 h2 : MH} (e : h2.take n = h1) (hn : n = h1.length) (o : OldOk h h1 n) : OldOk h h2 n := fun k ob hk hg => by
  refine o k ob hk ?_
  rw [← e, List.getElem?_take_of_lt hk]
  exact hg
theorem fn_tells {k : Nat} {f : Addr} {fd : FuncData} {ps : List Str} {n : Nat} {s s' : FM} {CXx : CXT} (F : FnOk P w K mg base CXx k f fd ps (spM K n s)) (t : ∀ ds h, ds.length = n → Tells h (s ds h) (s' ds h)) :
    FnOk P w K mg base CXx k f fd ps (spM K n s') :=
  F.imp fun vs H Q E ⟨ι, h, ds, q1, q2, q3, q4⟩ => by
    refine ⟨ι, h, ds, q1, q2, q3, ?_⟩
    have T := t ds h q3
    generalize s' ds h = r' at T q4
    cases r' with
    | stuck => exact q4.elim
    | ok p =>
      obtain ⟨d', h1⟩ := p
      obtain ⟨d, h2, e1, l1, l2, e2, o, f⟩ := T
      rw [e1]
      intro v ι' H' r1 r2 r3
      have c := q1.cut r1 r3 l1 l2 (old_take e2 rfl o)
      rw [e2] at c
      exact q4 v (ι'.take h1.length) H' c (VR.fz r1 (by rw [r1.len]; exact l2) f r2) (r3.cut (by rw [q1.len]; exact l1))
    | exc e Γ h1 =>
      obtain ⟨Γ0, h2, e1, l1, l2, e2, o, cl⟩ := T
      rw [e1]
      intro ι' H' cls dd r1 r2 r3
      have c := q1.cut r1 r3 l1 l2 (old_take e2 rfl o)
      rw [e2] at c
      refine q4 (ι'.take h1.length) H' cls dd c ⟨r2.1, ?_⟩ (r3.cut (by rw [q1.len]; exact l1))
      rcases r2.2 with z | ⟨a, us, z1, z2, z3⟩
      · exact .inl z
      · exact .inr ⟨a, us, z1, z2, z3.cut' (by rw [r1.len]; exact l2) cl⟩
end
section
variable {X : Cx} {W : WX} {k : Nat} {f : Addr} {fd : FuncData} {ps : List Str} {n : Nat} {s : FM} {x : Str} {p pos : Pos} {e : Expr} {es : List Expr} {ma : AM}
theorem call_out {K : PySem.W.Frag} {ι : List Addr} {Γ : Env} {H : Hp} {h : MH} {σ : L2.St} {r : R (D × MH)} {Q : VK} (g : SR K ι H h Γ σ) (o : Out (VR K) K W ι H σ (r.re Γ) Q) : OutF' K ι H r Q (fun cls d H => W cls d σ H) := by
  cases r with
  | ok p => exact o
  | exc x Γ' h' => exact fun ι' H' cls dd q1 q2 q3 => o ι' H' cls dd (g.to q3 q1) q2 q3
  | stuck => exact o.elim
/-- f(e, ..) -/
theorem pm_call (F : FnOk X.prog X.w X.K X.mg X.base (L2.CX X.prog X.w) k f fd ps (spM X.K n s)) (hr : Room k X.A) (tk : Takes X W) (hm : X.mg x = some (.ref f)) (hk : PySem.W.keepIn X.K (.ref f) = true) (hb : Binds X.K fd ps [])
    (ha : PA X (e :: es) (tMa X.K W ma)) (hl : (e :: es).length = n) (hg : Gl X x := by rfl) (hdb : (x == ("__debug__" : Str)) = false := by decide) (he : starEach (e :: es) X.env = (false, eval e X.env) :: starEach es X.env := by rfl) (hpl : (backTo pos (starEach es X.env)).any (·.1) = false := by rfl)
    (hlen : ∀ Γ h q, ma Γ h = .ok q → q.1.length = n) :
    PE X (.Call (.Name x p) (e :: es) [] pos) (tM X.K W (mCall s ma)) :=
  (pe_callS F hr hg hm hk hb (fun σ => passAt tk σ) ha hdb he hpl).imp fun σ H Q ⟨ι, Γ, h, g, o⟩ => by
    refine ⟨ι, Γ, h, g, ?_⟩
    unfold mCall at o
    generalize z : ma Γ h = r at o ⊢
    cases r with
    | ok q =>
      obtain ⟨ds, h1⟩ := q
      intro vs ι1 H1 r1 x1 e1
      have g1 := g.to e1 r1
      exact ⟨ι1, h1, ds, r1, x1, hlen Γ h _ z, call_out g1 (Out.mono e1 o)⟩
    | exc y Γ' h' => exact o
    | stuck => exact o
theorem mNil_len {Γ : Env} {h : MH} {q : List D × MH} (e : mNil Γ h = .ok q) : q.1.length = 0 := by cases e; rfl
theorem mCons_len {a : EM} {r : AM} {n : Nat} (l : ∀ Γ h q, r Γ h = .ok q → q.1.length = n) : ∀ Γ h q, mCons a r Γ h = .ok q → q.1.length = n + 1 := fun Γ h q e => by
  unfold mCons at e
  cases z : a Γ h with
  | ok p =>
    rw [z] at e
    simp only [R.bind_ok] at e
    cases z2 : r Γ p.2 with
    | ok p2 =>
      rw [z2] at e
      cases e
      simp [l _ _ _ z2]
    | exc _ _ _ => rw [z2] at e; cases e
    | stuck => rw [z2] at e; cases e
  | exc _ _ _ => rw [z] at e; cases e
  | stuck => rw [z] at e; cases e
end
end Mir
namespace Mir
open PySem L2

/-! ## sequences that are read -/
def seqOf (h : MH) : D → Option (List D)
  | .tup xs => some xs
  | .fl xs => some xs
  | .ref n => match h[n]? with
    | some (.lst xs) => some xs
    | _ => none
  | _ => none
def lstOf (h : MH) : D → Option (List D)
  | .fl xs => some xs
  | .ref n => match h[n]? with
    | some (.lst xs) => some xs
    | _ => none
  | _ => none
section
variable {K : PySem.W.Frag} {ι : List Addr} {H : Hp} {h : MH}
theorem lst_rd {d : D} {v : V} {xs : List D} (g : HR K ι H h) (r : VR K ι H d v) (e : lstOf h d = some xs) : ∃ p vs, v = .ref p ∧ SqL K H p vs ∧ VRs K ι H xs vs := by
  cases d with
  | fl ys =>
    cases e
    unfold VR at r
    obtain ⟨p, vs, h1, h2, h3⟩ := r
    exact ⟨p, vs, h1, h2.sq, h3⟩
  | ref n =>
    simp only [lstOf] at e
    cases z : h[n]? with
    | none => rw [z] at e; cases e
    | some o =>
      rw [z] at e
      cases o with
      | lst ys =>
        cases e
        unfold VR at r
        obtain ⟨p, rfl, h1⟩ := r
        obtain ⟨p', vs, h2, h3, h4⟩ := g.lst z
        rw [h1] at h2; cases h2
        exact ⟨p, vs, rfl, .of h3, h4⟩
      | _ => cases e
  | _ => cases e
theorem seq_rd {d : D} {v : V} {xs : List D} (g : HR K ι H h) (r : VR K ι H d v) (e : seqOf h d = some xs) : ∃ p vs, v = .ref p ∧ (SqL K H p vs ∨ SqT K H p vs) ∧ VRs K ι H xs vs := by
  cases d with
  | tup ys =>
    cases e
    unfold VR at r
    obtain ⟨p, vs, h1, h2, h3⟩ := r
    exact ⟨p, vs, h1, .inr h2.sq, h3⟩
  | fl ys => obtain ⟨p, vs, h1, h2, h3⟩ := lst_rd g r (xs := xs) e; exact ⟨p, vs, h1, .inl h2, h3⟩
  | ref n => obtain ⟨p, vs, h1, h2, h3⟩ := lst_rd g r (xs := xs) e; exact ⟨p, vs, h1, .inl h2, h3⟩
  | _ => cases e
theorem tup_rd {ds : List D} {v : V} (r : VR K ι H (.tup ds) v) : ∃ p vs, v = .ref p ∧ SqT K H p vs ∧ VRs K ι H ds vs := by
  unfold VR at r
  obtain ⟨p, vs, h1, h2, h3⟩ := r
  exact ⟨p, vs, h1, h2.sq, h3⟩
theorem vr_tup {ds : List D} {p : Addr} {vs : List V} (g : HR K ι H h) (np : H p = none) (r : VRs K ι H ds vs) : VR K ι (upd H p (.tup vs)) (.tup ds) (.ref p) := by
  unfold VR
  exact ⟨p, vs, rfl, .inl ⟨g.nin np, .inl upd_same⟩, VRs.mono (.laid np) _ _ r⟩
theorem vi {i : Int} {v : V} (r : VR K ι H (.int i) v) : v = .int i := by unfold VR at r; exact r
theorem vs_ {i : Str} {v : V} (r : VR K ι H (.str i) v) : v = .str i := by unfold VR at r; exact r
theorem vb {i : Bool} {v : V} (r : VR K ι H (.bl i) v) : v = .bl i := by unfold VR at r; exact r
end

/-! ## operators -/
section
variable {X : Cx}
theorem opm_int {f : Value → Value → Sem Value} {C : Int → Int → Prop} [∀ i j, Decidable (C i j)] {g : Int → Int → Int} (o : OpR X f (rI C fun i j => .int (g i j))) :
    OpM X f fun x y h => match x, y with | .int i, .int j => if C i j then some (.int (g i j), h) else none | _, _ => none := by
  refine ⟨_, o, fun ι H h x y dx dy d h' Q r1 r2 r3 e k => ?_⟩
  dsimp only at e
  split at e
  · split at e
    · rename_i c
      cases e
      rw [vi r2, vi r3]
      exact ⟨_, _, rfl, rfl, c, k _ ι H r1 vr_int .refl⟩
    · cases e
  · cases e
theorem opm_int0 {f : Value → Value → Sem Value} {g : Int → Int → Int} (o : OpR X f (rI0 fun i j => .int (g i j))) :
    OpM X f fun x y h => match x, y with | .int i, .int j => some (.int (g i j), h) | _, _ => none := by
  refine ⟨_, o, fun ι H h x y dx dy d h' Q r1 r2 r3 e k => ?_⟩
  dsimp only at e
  split at e
  · cases e
    rw [vi r2, vi r3]
    exact ⟨_, _, rfl, rfl, k _ ι H r1 vr_int .refl⟩
  · cases e
theorem opm_cmp0 {f : Value → Value → Sem Value} {g : Int → Int → Bool} (o : OpR X f (rI0 fun i j => .bl (g i j))) :
    OpM X f fun x y h => match x, y with | .int i, .int j => some (.bl (g i j), h) | _, _ => none := by
  refine ⟨_, o, fun ι H h x y dx dy d h' Q r1 r2 r3 e k => ?_⟩
  dsimp only at e
  split at e
  · cases e
    rw [vi r2, vi r3]
    exact ⟨_, _, rfl, rfl, k _ ι H r1 vr_bl .refl⟩
  · cases e

/-- + -/
def fAdd (x y : D) (h : MH) : Option (D × MH) := match x, y with
  | .int i, .int j => some (.int (i + j), h)
  | .str a, .str b => if a.length + b.length ≤ 1000000 then some (.str (a ++ b), h) else none
  | .tup xs, .tup ys => if xs.length + ys.length ≤ 1000000 then some (.tup (xs ++ ys), h) else none
  | _, _ => none
theorem opm_add : OpM X (binaryOp .Add) fAdd := by
  refine ⟨_, (op_add.or op_add_str).or op_catA, fun ι H h x y dx dy d h' Q r1 r2 r3 e k => ?_⟩
  unfold fAdd at e
  split at e
  · cases e
    rw [vi r2, vi r3]
    exact .inl (.inl ⟨_, _, rfl, rfl, k _ ι H r1 vr_int .refl⟩)
  · split at e
    · rename_i hl
      cases e
      rw [vs_ r2, vs_ r3]
      exact .inl (.inr ⟨_, _, rfl, rfl, sz6 hl, k _ ι H r1 vr_str .refl⟩)
    · cases e
  · split at e
    · rename_i xs ys hl
      cases e
      have s2 := r2; have s3 := r3
      unfold VR at s2 s3
      obtain ⟨p, vs, rfl, h2, h3⟩ := s2
      obtain ⟨q, us, rfl, h4, h5⟩ := s3
      refine .inr ⟨p, q, vs, us, rfl, rfl, h2.sq, h4.sq, sz6 (by rw [← h3.length, ← h5.length]; exact hl), fun z => ?_, fun z z2 => ?_, fun z z2 t nt => ?_⟩
      · refine k _ ι H r1 ?_ .refl
        have : xs = [] := by cases xs with
          | nil => rfl
          | cons _ _ => have := h3.length; rw [z] at this; cases this
        rw [this]; exact r3
      · refine k _ ι H r1 ?_ .refl
        have : ys = [] := by cases ys with
          | nil => rfl
          | cons _ _ => have := h5.length; rw [z2] at this; cases this
        rw [this, List.append_nil]; exact r2
      · exact k _ ι _ (r1.laid nt) (vr_tup r1 nt (h3.append h5)) (.laid nt)
    · cases e
  · cases e
def fSub (x y : D) (h : MH) : Option (D × MH) := match x, y with | .int i, .int j => some (.int (i - j), h) | _, _ => none
theorem opm_sub : OpM X (binaryOp .Sub) fSub := opm_int0 op_sub
instance {i j : Int} : Decidable (CMul i j) := by unfold CMul; exact inferInstance
instance {i j : Int} : Decidable (CDiv i j) := by unfold CDiv; exact inferInstance
instance {i j : Int} : Decidable (CPow i j) := by unfold CPow; exact inferInstance
def fMul (x y : D) (h : MH) : Option (D × MH) := match x, y with | .int i, .int j => if CMul i j then some (.int (i * j), h) else none | _, _ => none
theorem opm_mul : OpM X (binaryOp .Mult) fMul := opm_int op_mul
def fDiv (x y : D) (h : MH) : Option (D × MH) := match x, y with | .int i, .int j => if CDiv i j then some (.int (i / j), h) else none | _, _ => none
theorem opm_div : OpM X (binaryOp .FloorDiv) fDiv := opm_int op_fdiv
def fMod (x y : D) (h : MH) : Option (D × MH) := match x, y with | .int i, .int j => if 0 < j then some (.int (i % j), h) else none | _, _ => none
theorem opm_mod : OpM X (binaryOp .Mod) fMod := opm_int op_mod
def fPow (x y : D) (h : MH) : Option (D × MH) := match x, y with | .int i, .int j => if CPow i j then some (.int (i ^ j.toNat), h) else none | _, _ => none
theorem opm_pow : OpM X (binaryOp .Pow) fPow := opm_int op_pow
def fShl (x y : D) (h : MH) : Option (D × MH) := match x, y with | .int i, .int j => if CPow i j then some (.int (i * 2 ^ j.toNat), h) else none | _, _ => none
theorem opm_shl : OpM X (binaryOp .LShift) fShl := opm_int op_shl
def fShr (x y : D) (h : MH) : Option (D × MH) := match x, y with | .int i, .int j => if 0 ≤ j then some (.int (i / 2 ^ j.toNat), h) else none | _, _ => none
theorem opm_shr : OpM X (binaryOp .RShift) fShr := opm_int op_shr
def fAnd (x y : D) (h : MH) : Option (D × MH) := match x, y with | .int i, .int j => some (.int (Builtin.bitAnd i j), h) | _, _ => none
theorem opm_and : OpM X (binaryOp .BitAnd) fAnd := opm_int0 op_and
def fLt (x y : D) (h : MH) : Option (D × MH) := match x, y with | .int i, .int j => some (.bl (decide (i < j)), h) | _, _ => none
theorem opm_lt : OpM X (compareOp .Lt) fLt := opm_cmp0 op_lt
def fLe (x y : D) (h : MH) : Option (D × MH) := match x, y with | .int i, .int j => some (.bl (decide (i ≤ j)), h) | _, _ => none
theorem opm_le : OpM X (compareOp .LtE) fLe := opm_cmp0 op_le
def fGt (x y : D) (h : MH) : Option (D × MH) := match x, y with | .int i, .int j => some (.bl (decide (j < i)), h) | _, _ => none
theorem opm_gt : OpM X (compareOp .Gt) fGt := opm_cmp0 op_gt
def fGe (x y : D) (h : MH) : Option (D × MH) := match x, y with | .int i, .int j => some (.bl (decide (j ≤ i)), h) | _, _ => none
theorem opm_ge : OpM X (compareOp .GtE) fGe := opm_cmp0 op_ge
def fNeg (x : D) (h : MH) : Option (D × MH) := match x with | .int i => some (.int (-i), h) | _ => none
theorem unm_neg : UnM X (unaryOp .USub) fNeg := by
  refine ⟨_, un_neg, fun ι H h x dx d h' Q r1 r2 e k => ?_⟩
  unfold fNeg at e
  split at e
  · cases e
    rw [vi r2]
    exact ⟨_, rfl, k _ ι H r1 vr_int .refl⟩
  · cases e

/-! ### data: ==, in -/
mutual
def deq : D → D → Bool
  | .non, .non => true
  | .bl a, .bl b => a == b
  | .bl a, .int j => (if a then 1 else 0) == j
  | .int i, .bl b => i == (if b then 1 else 0)
  | .int i, .int j => i == j
  | .str x, .str y => x == y
  | .tup xs, .tup ys => deqs xs ys
  | .fl xs, .fl ys => deqs xs ys
  | _, _ => false
def deqs : List D → List D → Bool
  | [], [] => true
  | x :: xs, y :: ys => deq x y && deqs xs ys
  | _, _ => false
end
mutual
/-- data no deeper than n, its texts of signs -/
def dOk : Nat → D → Prop
  | _, .non => True
  | _, .bl _ => True
  | _, .int _ => True
  | _, .str s => s.cps.all (· < 0x110000) = true
  | 0, .tup _ => False
  | n + 1, .tup xs => dOks n xs
  | 0, .fl _ => False
  | n + 1, .fl xs => dOks n xs
  | _, .ref _ => False
def dOks : Nat → List D → Prop
  | _, [] => True
  | n, x :: xs => dOk n x ∧ dOks n xs
end
mutual
def toP : D → PyData
  | .non => .none
  | .bl b => .bool b
  | .int i => .int i
  | .str s => .str s
  | .tup xs => .tuple (toPs xs)
  | .fl xs => .list (toPs xs)
  | .ref _ => .none
def toPs : List D → List PyData
  | [] => []
  | x :: xs => toP x :: toPs xs
end
mutual
theorem eqv_toP : ∀ (n : Nat) (x y : D), dOk n x → dOk n y → PyData.eqv (toP x) (toP y) = deq x y
  | n, .ref _, y, a, _ => by cases n <;> simp [dOk] at a
  | n, .non, y, a, b => by cases y <;> first | (simp [toP, PyData.eqv, deq]; done) | (cases n <;> simp [dOk] at b)
  | n, .bl _, y, a, b => by cases y <;> first | (simp [toP, PyData.eqv, deq]; done) | (cases n <;> simp [dOk] at b)
  | n, .int _, y, a, b => by cases y <;> first | (simp [toP, PyData.eqv, deq]; done) | (cases n <;> simp [dOk] at b)
  | n, .str _, y, a, b => by cases y <;> first | (simp [toP, PyData.eqv, deq]; done) | (cases n <;> simp [dOk] at b)
  | 0, .tup _, y, a, _ => by simp [dOk] at a
  | 0, .fl _, y, a, _ => by simp [dOk] at a
  | n + 1, .tup xs, .tup ys, a, b => by
    simp only [dOk] at a b
    simp only [toP, PyData.eqv, deq]
    exact eqv_toPs n xs ys a b
  | n + 1, .fl xs, .fl ys, a, b => by
    simp only [dOk] at a b
    simp only [toP, PyData.eqv, deq]
    exact eqv_toPs n xs ys a b
  | n + 1, .tup xs, .non, a, b => by simp [toP, PyData.eqv, deq]
  | n + 1, .tup xs, .bl _, a, b => by simp [toP, PyData.eqv, deq]
  | n + 1, .tup xs, .int _, a, b => by simp [toP, PyData.eqv, deq]
  | n + 1, .tup xs, .str _, a, b => by simp [toP, PyData.eqv, deq]
  | n + 1, .tup xs, .fl _, a, b => by simp [toP, PyData.eqv, deq]
  | n + 1, .tup xs, .ref _, a, b => by simp [dOk] at b
  | n + 1, .fl xs, .non, a, b => by simp [toP, PyData.eqv, deq]
  | n + 1, .fl xs, .bl _, a, b => by simp [toP, PyData.eqv, deq]
  | n + 1, .fl xs, .int _, a, b => by simp [toP, PyData.eqv, deq]
  | n + 1, .fl xs, .str _, a, b => by simp [toP, PyData.eqv, deq]
  | n + 1, .fl xs, .tup _, a, b => by simp [toP, PyData.eqv, deq]
  | n + 1, .fl xs, .ref _, a, b => by simp [dOk] at b
theorem eqv_toPs : ∀ (n : Nat) (xs ys : List D), dOks n xs → dOks n ys → PyData.eqvAll (toPs xs) (toPs ys) = deqs xs ys
  | n, [], [], _, _ => by simp [toPs, PyData.eqvAll, deqs]
  | n, [], _ :: _, _, _ => by simp [toPs, PyData.eqvAll, deqs]
  | n, _ :: _, [], _, _ => by simp [toPs, PyData.eqvAll, deqs]
  | n, x :: xs, y :: ys, a, b => by
    unfold dOks at a b
    simp only [toPs, PyData.eqvAll, deqs]
    rw [eqv_toP n x y a.1 b.1, eqv_toPs n xs ys a.2 b.2]
end
end
end Mir
namespace Mir
open PySem L2
open Classical
mutual
theorem vr_dp {K : PySem.W.Frag} {ι : List Addr} {H : Hp} : ∀ (n : Nat) (d : D) (v : V), dOk n d → VR K ι H d v → Dp K H v (toP d)
  | n, .non, v, a, r => by unfold VR at r; subst r; simp only [toP]; exact .non
  | n, .bl _, v, a, r => by unfold VR at r; subst r; simp only [toP]; exact .bl _
  | n, .int _, v, a, r => by unfold VR at r; subst r; simp only [toP]; exact .int _
  | n, .str _, v, a, r => by unfold VR at r; subst r; simp only [toP]; exact .str _
  | n, .ref _, v, a, r => by cases n <;> simp [dOk] at a
  | 0, .tup _, v, a, _ => by simp [dOk] at a
  | 0, .fl _, v, a, _ => by simp [dOk] at a
  | n + 1, .tup xs, v, a, r => by
    simp only [dOk] at a
    unfold VR at r
    obtain ⟨p, vs, rfl, h2, h3⟩ := r
    simp only [toP]
    exact .tup h2.sq (vr_dps n xs vs a h3)
  | n + 1, .fl xs, v, a, r => by
    simp only [dOk] at a
    unfold VR at r
    obtain ⟨p, vs, rfl, h2, h3⟩ := r
    simp only [toP]
    exact .lst h2.sq (vr_dps n xs vs a h3)
theorem vr_dps {K : PySem.W.Frag} {ι : List Addr} {H : Hp} : ∀ (n : Nat) (d : List D) (v : List V), dOks n d → VRs K ι H d v → DpAll K H v (toPs d)
  | n, [], v, a, r => by unfold VRs at r; subst r; simp only [toPs]; exact .nil
  | n, d :: ds, v, a, r => by
    simp only [dOks] at a
    unfold VRs at r
    obtain ⟨u, us, rfl, h2, h3⟩ := r
    simp only [toPs]
    exact .cons (vr_dp n d u a.1 h2) (vr_dps n ds us a.2 h3)
end
mutual
theorem lay_toP : ∀ (n : Nat) (d : D), dOk n d → PyData.canLay0 (toP d) = true ∧ PyData.depth (toP d) ≤ n
  | n, .non, a => by simp [toP, PyData.canLay0, PyData.depth]
  | n, .bl _, a => by simp [toP, PyData.canLay0, PyData.depth]
  | n, .int _, a => by simp [toP, PyData.canLay0, PyData.depth]
  | n, .str s, a => by
    have e : s.cps.all (· < 0x110000) = true := by cases n <;> simpa [dOk] using a
    simp only [toP, PyData.canLay0, PyData.depth]
    exact ⟨e, Nat.zero_le _⟩
  | n, .ref _, a => by cases n <;> simp [dOk] at a
  | 0, .tup _, a => by simp [dOk] at a
  | 0, .fl _, a => by simp [dOk] at a
  | n + 1, .tup xs, a => by
    simp only [dOk] at a
    have := lay_toPs n xs a
    simp only [toP, PyData.canLay0, PyData.depth]
    exact ⟨this.1, by omega⟩
  | n + 1, .fl xs, a => by
    simp only [dOk] at a
    have := lay_toPs n xs a
    simp only [toP, PyData.canLay0, PyData.depth]
    exact ⟨this.1, by omega⟩
theorem lay_toPs : ∀ (n : Nat) (d : List D), dOks n d → PyData.canLayAll0 (toPs d) = true ∧ PyData.depthAll (toPs d) ≤ n
  | n, [], a => by simp [toPs, PyData.canLayAll0, PyData.depthAll]
  | n, d :: ds, a => by
    simp only [dOks] at a
    have h1 := lay_toP n d a.1
    have h2 := lay_toPs n ds a.2
    simp only [toPs, PyData.canLayAll0, PyData.depthAll]
    exact ⟨by rw [h1.1, h2.1]; rfl, by omega⟩
end
theorem shaped_toP {d : D} (a : dOk 60 d) : SeqAt.shaped (toP d) = true := by
  have h := lay_toP 60 d a
  unfold SeqAt.shaped
  rw [h.1, Bool.true_and]
  exact decide_eq_true (by omega)
def scalD : D → D → Bool
  | .non, .non => true | .non, .int _ => true | .int _, .non => true | .non, .bl _ => true | .bl _, .non => true | .non, .str _ => true | .str _, .non => true
  | .int _, .int _ => true | .bl _, .bl _ => true | .str _, .str _ => true
  | .int _, .str _ => true | .str _, .int _ => true | .bl _, .str _ => true | .str _, .bl _ => true
  | _, _ => false
theorem scal_rd {K : PySem.W.Frag} {ι : List Addr} {H : Hp} {a b : D} {x y : V} (r : VR K ι H a x) (r' : VR K ι H b y) (e : scalD a b = true) : scal x y = true ∧ decide (x = y) = deq a b := by
  cases a <;> cases b <;> first
    | (exact absurd (show false = true from e) Bool.false_ne_true)
    | (unfold VR at r r'; subst r; subst r'; refine ⟨rfl, ?_⟩; simp [deq]; done)
    | (unfold VR at r r'; subst r; subst r'; refine ⟨rfl, ?_⟩; rw [Bool.eq_iff_iff]; simp [deq]; done)
/-- == -/
noncomputable def fEq (x y : D) (h : MH) : Option (D × MH) := if scalD x y = true ∨ (dOk 60 x ∧ dOk 60 y) then some (.bl (deq x y), h) else none
noncomputable def fNe (x y : D) (h : MH) : Option (D × MH) := if scalD x y = true ∨ (dOk 60 x ∧ dOk 60 y) then some (.bl !(deq x y), h) else none
section
variable {X : Cx}
theorem opm_eq (hu : X.A.units + 64 < cLine) : OpM X (compareOp .Eq) fEq := by
  refine ⟨_, op_eq.or (op_eqD hu), fun ι H h x y dx dy d h' Q r1 r2 r3 e k => ?_⟩
  unfold fEq at e
  split at e
  · rename_i c
    cases e
    rcases c with c | ⟨c1, c2⟩
    · obtain ⟨s1, s2⟩ := scal_rd r2 r3 c
      refine .inl ⟨s1, ?_⟩
      rw [s2]
      exact k _ ι H r1 vr_bl .refl
    · refine .inr ⟨_, _, vr_dp 60 _ _ c1 r2, vr_dp 60 _ _ c2 r3, shaped_toP c1, shaped_toP c2, ?_⟩
      rw [eqv_toP 60 _ _ c1 c2]
      exact k _ ι H r1 vr_bl .refl
  · cases e
theorem opm_ne (hu : X.A.units + 64 < cLine) : OpM X (compareOp .NotEq) fNe := by
  refine ⟨_, op_ne.or (op_neD hu), fun ι H h x y dx dy d h' Q r1 r2 r3 e k => ?_⟩
  unfold fNe at e
  split at e
  · rename_i c
    cases e
    rcases c with c | ⟨c1, c2⟩
    · obtain ⟨s1, s2⟩ := scal_rd r2 r3 c
      refine .inl ⟨s1, ?_⟩
      rw [s2]
      exact k _ ι H r1 vr_bl .refl
    · refine .inr ⟨_, _, vr_dp 60 _ _ c1 r2, vr_dp 60 _ _ c2 r3, shaped_toP c1, shaped_toP c2, ?_⟩
      rw [eqv_toP 60 _ _ c1 c2]
      exact k _ ι H r1 vr_bl .refl
  · cases e
/-- is None -/
def fIsN (x y : D) (h : MH) : Option (D × MH) := match y with
  | .non => some (.bl (match x with | .non => true | _ => false), h)
  | _ => none
def fNotN (x y : D) (h : MH) : Option (D × MH) := match y with
  | .non => some (.bl (match x with | .non => false | _ => true), h)
  | _ => none
theorem isN_rd {K : PySem.W.Frag} {ι : List Addr} {H : Hp} {a : D} {x : V} (r : VR K ι H a x) : decide (x = .non) = (match a with | .non => true | _ => false) := by
  cases a with
  | tup _ => unfold VR at r; obtain ⟨p, vs, rfl, _⟩ := r; rfl
  | fl _ => unfold VR at r; obtain ⟨p, vs, rfl, _⟩ := r; rfl
  | ref _ => unfold VR at r; obtain ⟨p, rfl, _⟩ := r; rfl
  | _ => unfold VR at r; subst r; rfl
theorem opm_isN : OpM X (compareOp .Is) fIsN := by
  refine ⟨_, op_isN, fun ι H h x y dx dy d h' Q r1 r2 r3 e k => ?_⟩
  unfold fIsN at e
  split at e
  · cases e
    unfold VR at r3
    refine ⟨r3, ?_⟩
    rw [isN_rd r2]
    refine k _ ι H r1 ?_ .refl
    cases dx <;> exact vr_bl
  · cases e
theorem opm_notN : OpM X (compareOp .IsNot) fNotN := by
  refine ⟨_, op_notN, fun ι H h x y dx dy d h' Q r1 r2 r3 e k => ?_⟩
  unfold fNotN at e
  split at e
  · cases e
    unfold VR at r3
    refine ⟨r3, ?_⟩
    rw [isN_rd r2]
    refine k _ ι H r1 ?_ .refl
    cases dx <;> exact vr_bl
  · cases e
/-! ### in -/
def strIn (x y : Str) : Bool := !(Builtin.Str.occurrences y x 0 y.length 1).isEmpty
def oneSign (x : Str) : Option Nat := match x.cps.toList with
  | [c] => some c
  | _ => none
theorem oneSign_eq {x : Str} {c : Nat} (e : oneSign x = some c) : x = ⟨#[c]⟩ := by
  unfold oneSign at e
  split at e
  · rename_i c' hc
    cases e
    obtain ⟨a⟩ := x
    have : a = #[c] := by rw [← Array.toList_inj]; exact hc
    rw [this]
  · cases e
def flatD : D → Bool
  | .non => true
  | .bl _ => true
  | .int _ => true
  | .str _ => true
  | _ => false
noncomputable def inSeq (x : D) (ys : List D) : Option Bool := if (flatD x = true ∧ ys.all flatD = true) ∨ (dOk 60 x ∧ dOks 60 ys) then some (ys.any fun y => deq y x) else none
noncomputable def inD (x y : D) (h : MH) : Option Bool := match x, y with
  | .str a, .str b => match oneSign a with
    | some c => some (decide (c ∈ b.cps.toList))
    | none => some (strIn a b)
  | x, y => (seqOf h y).bind (inSeq x)
noncomputable def fIn (x y : D) (h : MH) : Option (D × MH) := (inD x y h).map fun b => (.bl b, h)
noncomputable def fNotIn (x y : D) (h : MH) : Option (D × MH) := (inD x y h).map fun b => (.bl !b, h)
end
section
open PyProof.Rows
variable {X : Cx}
/-- x in a list or tuple of data -/
def rInP (K : PySem.W.Frag) (neg : Bool) : R2 := fun x y H Q => ∃ d ds, Dp K H x d ∧ (Dp K H y (.list ds) ∨ Dp K H y (.tuple ds)) ∧ d.canLay0 = true ∧ d.depth ≤ 60 ∧ PyData.canLayAll0 ds = true ∧ Q (.bl (if neg then !(ds.any fun z => PyData.eqv z d) else ds.any fun z => PyData.eqv z d)) H
theorem room_in {A : Around} (hu : A.units + 65 < cLine) {d : PyData} (hd : d.depth ≤ 60) (ds : List PyData) : A.units + 1 + min (PyData.depthAll ds) d.depth < cLine := by
  have := Nat.min_le_right (PyData.depthAll ds) d.depth
  omega
theorem op_inP (hu : X.A.units + 65 < cLine) : OpR X (compareOp .In) (rInP X.K false) := by
  intro pins s σ H x y v u Q I rx ry ⟨d, ds, hd, hy, c, dp, cs, q⟩
  obtain ⟨as, r1⟩ := Dp.reads I d x v hd rx
  rcases hy with hy | hy
  · obtain ⟨bs, r2⟩ := Dp.reads I _ y u hy ry
    exact SeqAt.in_list_reads r2 r1 cs c (room_in hu dp ds) ⟨.bl _, H, I, rfl, q⟩
  · obtain ⟨bs, r2⟩ := Dp.reads I _ y u hy ry
    exact SeqAt.in_tuple_reads r2 r1 cs c (room_in hu dp ds) ⟨.bl _, H, I, rfl, q⟩
theorem op_notInP (hu : X.A.units + 65 < cLine) : OpR X (compareOp .NotIn) (rInP X.K true) := by
  intro pins s σ H x y v u Q I rx ry ⟨d, ds, hd, hy, c, dp, cs, q⟩
  obtain ⟨as, r1⟩ := Dp.reads I d x v hd rx
  rcases hy with hy | hy
  · obtain ⟨bs, r2⟩ := Dp.reads I _ y u hy ry
    exact SeqAt.notIn_list_reads r2 r1 cs c (room_in hu dp ds) ⟨.bl _, H, I, rfl, q⟩
  · obtain ⟨bs, r2⟩ := Dp.reads I _ y u hy ry
    exact SeqAt.notIn_tuple_reads r2 r1 cs c (room_in hu dp ds) ⟨.bl _, H, I, rfl, q⟩
end
section
variable {K : PySem.W.Frag} {ι : List Addr} {H : Hp} {h : MH}
theorem flat_rd {d : D} {v : V} (r : VR K ι H d v) (e : flatD d = true) : flatV v = true := by
  cases d <;> first
    | (exact absurd (show false = true from e) Bool.false_ne_true)
    | (unfold VR at r; subst r; rfl)
theorem flat_eq {a b : D} {x y : V} (r : VR K ι H a x) (r' : VR K ι H b y) (e : flatD a = true) (e' : flatD b = true) : eqV x y = deq a b := by
  cases a <;> cases b <;> first
    | (exact absurd (show false = true from e) Bool.false_ne_true)
    | (exact absurd (show false = true from e') Bool.false_ne_true)
    | (unfold VR at r r'; subst r; subst r'; simp [eqV, deq]; done)
theorem flats_rd : ∀ {ds : List D} {vs : List V}, VRs K ι H ds vs → ds.all flatD = true → vs.all flatV = true
  | [], vs, r, _ => by unfold VRs at r; subst r; rfl
  | d :: ds, vs, r, e => by
    unfold VRs at r
    obtain ⟨u, us, rfl, h2, h3⟩ := r
    rw [List.all_cons, Bool.and_eq_true] at e ⊢
    exact ⟨flat_rd h2 e.1, flats_rd h3 e.2⟩
theorem flats_any {b : D} {y : V} (r' : VR K ι H b y) (e' : flatD b = true) : ∀ {ds : List D} {vs : List V}, VRs K ι H ds vs → ds.all flatD = true → inV y vs = ds.any fun z => deq z b
  | [], vs, r, _ => by unfold VRs at r; subst r; rfl
  | d :: ds, vs, r, e => by
    unfold VRs at r
    obtain ⟨u, us, rfl, h2, h3⟩ := r
    rw [List.all_cons, Bool.and_eq_true] at e
    show (eqV u y || inV y us) = (deq d b || ds.any fun z => deq z b)
    rw [flat_eq h2 r' e.1 e', flats_any r' e' h3 e.2]
theorem any_toPs {n : Nat} {b : D} (a : dOk n b) : ∀ {ds : List D}, dOks n ds → ((toPs ds).any fun z => PyData.eqv z (toP b)) = ds.any fun z => deq z b
  | [], _ => by simp [toPs]
  | d :: ds, c => by
    simp only [dOks] at c
    simp only [toPs, List.any_cons]
    rw [eqv_toP n d b c.1 a, any_toPs a c.2]
end
section
variable {X : Cx}
theorem in_go {neg : Bool} {ι : List Addr} {H : Hp} {h : MH} {x y : V} {dx dy d : D} {h' : MH} {Q : VK} (r1 : HR X.K ι H h) (r2 : VR X.K ι H dx x) (r3 : VR X.K ι H dy y)
    (e : (inD dx dy h).map (fun b => (D.bl (if neg then !b else b), h)) = some (d, h')) (k : ∀ v ι' H', HR X.K ι' H' h' → VR X.K ι' H' d v → Ext ι H ι' H' → Q v H') :
    ((∃ (c : Nat) (z : Str), x = .str ⟨#[c]⟩ ∧ y = .str z ∧ Q (.bl (if neg then !decide (c ∈ z.cps.toList) else decide (c ∈ z.cps.toList))) H) ∨
     (∃ i j, x = .str i ∧ y = .str j ∧ Q (.bl (if neg then !strIn i j else strIn i j)) H) ∨ rIn X.K neg x y H Q) ∨ rInP X.K neg x y H Q := by
  have key : (∃ a b, dx = .str a ∧ dy = .str b) ∨ inD dx dy h = (seqOf h dy).bind (inSeq dx) := by
    cases dx <;> cases dy <;> simp [inD]
  rcases key with ⟨a, b, rfl, rfl⟩ | key
  · rw [vs_ r2, vs_ r3]
    cases hc : oneSign a with
    | some c =>
      simp only [inD, hc, Option.map_some, Option.some.injEq, Prod.mk.injEq] at e
      obtain ⟨rfl, rfl⟩ := e
      rw [oneSign_eq hc]
      exact .inl (.inl ⟨c, b, rfl, rfl, k _ ι H r1 vr_bl .refl⟩)
    | none =>
      simp only [inD, hc, Option.map_some, Option.some.injEq, Prod.mk.injEq] at e
      obtain ⟨rfl, rfl⟩ := e
      exact .inl (.inr (.inl ⟨a, b, rfl, rfl, k _ ι H r1 vr_bl .refl⟩))
  · rw [key] at e
    cases z : seqOf h dy with
    | none => rw [z] at e; cases e
    | some ys =>
      rw [z] at e
      have e2 : (inSeq dx ys).map (fun b => (D.bl (if neg then !b else b), h)) = some (d, h') := e
      by_cases c : (flatD dx = true ∧ ys.all flatD = true) ∨ (dOk 60 dx ∧ dOks 60 ys)
      · simp only [inSeq, if_pos c, Option.map_some, Option.some.injEq, Prod.mk.injEq] at e2
        obtain ⟨rfl, rfl⟩ := e2
        obtain ⟨p, vs, rfl, hs, hv⟩ := seq_rd r1 r3 z
        rcases c with ⟨c1, c2⟩ | ⟨c1, c2⟩
        · refine .inl (.inr (.inr ⟨p, vs, rfl, hs, flat_rd r2 c1, flats_rd hv c2, ?_⟩))
          rw [flats_any r2 c1 hv c2]
          exact k _ ι H r1 vr_bl .refl
        · have l1 := lay_toP 60 _ c1
          have l2 := lay_toPs 60 _ c2
          refine .inr ⟨toP dx, toPs ys, vr_dp 60 _ _ c1 r2, ?_, l1.1, l1.2, l2.1, ?_⟩
          · rcases hs with hs | hs
            · exact .inl (.lst hs (vr_dps 60 _ _ c2 hv))
            · exact .inr (.tup hs (vr_dps 60 _ _ c2 hv))
          · rw [any_toPs c1 c2]
            exact k _ ι H r1 vr_bl .refl
      · simp only [inSeq, if_neg c] at e2
        cases e2
theorem opm_in (hu : X.A.units + 65 < cLine) : OpM X (compareOp .In) fIn := by
  refine ⟨_, (op_in_sign.or (op_in_str.or op_in_seq)).or (op_inP hu), fun ι H h x y dx dy d h' Q r1 r2 r3 e k => ?_⟩
  have := in_go (neg := false) r1 r2 r3 (by simpa [fIn] using e) k
  simpa [strIn] using this
theorem opm_notIn (hu : X.A.units + 65 < cLine) : OpM X (compareOp .NotIn) fNotIn := by
  refine ⟨_, (op_notIn_sign.or (op_notin_str.or op_notIn_seq)).or (op_notInP hu), fun ι H h x y dx dy d h' Q r1 r2 r3 e k => ?_⟩
  have := in_go (neg := true) r1 r2 r3 (by simpa [fNotIn] using e) k
  simpa [strIn] using this
end
end Mir
namespace Mir
open PySem L2
open Classical

/-! ## calls of built-ins -/
def CallM (X : Cx) (f : Value) (g : List D → MH → Option (D × MH)) : Prop :=
  ∃ r, CallR X f r ∧ ∀ (ι : List Addr) (H : Hp) (h : MH) (xs : List V) (ds : List D) (d : D) (h' : MH) (Q : VK), HR X.K ι H h → VRs X.K ι H ds xs → g ds h = some (d, h') →
    (∀ v ι' H', HR X.K ι' H' h' → VR X.K ι' H' d v → Ext ι H ι' H' → Q v H') → r xs H Q
/-- a new list comes -/
def CallF (X : Cx) (f : Value) (g : List D → MH → Option (List D × MH)) : Prop :=
  ∃ r, CallR X f r ∧ ∀ (ι : List Addr) (H : Hp) (h : MH) (xs : List V) (ds : List D) (d : List D) (h' : MH) (Q : VK), HR X.K ι H h → VRs X.K ι H ds xs → g ds h = some (d, h') →
    (∀ vs ι' H', HR X.K ι' H' h' → VRs X.K ι' H' d vs → Ext ι H ι' H' → ∀ p, H' p = none → Q (.ref p) (upd H' p (.lst vs))) → r xs H Q
def mB (g : List D → MH → Option (D × MH)) (a : AM) : EM := fun Γ h => (a Γ h).bind fun p => R.ofO (g p.1 p.2)
def mBF (g : List D → MH → Option (List D × MH)) (a : AM) : AM := fun Γ h => (a Γ h).bind fun p => R.ofO (g p.1 p.2)
section
variable {X : Cx} {W : WX} {e : Expr} {es : List Expr} {x : Str} {id T : String} {p pos : Pos} {ma : AM} {g : List D → MH → Option (D × MH)} {gf : List D → MH → Option (List D × MH)}
theorem b_go {r : List V → Hp → VK → Prop} (k : ∀ (ι : List Addr) (H : Hp) (h : MH) (xs : List V) (ds : List D) (d : D) (h' : MH) (Q : VK), HR X.K ι H h → VRs X.K ι H ds xs → g ds h = some (d, h') →
    (∀ v ι' H', HR X.K ι' H' h' → VR X.K ι' H' d v → Ext ι H ι' H' → Q v H') → r xs H Q) {σ : L2.St} {H : Hp} {Q : VK} (o : tM X.K W (mB g ma) σ H Q) : tCB r (tMa X.K W ma) σ H Q :=
  tX.bind o fun Γ ds h1 vs ι1 H1 g1 x1 o1 => by
    obtain ⟨d, h', ef, kk⟩ := o1.fin
    exact k ι1 H1 h1 vs ds d h' Q g1.hr x1 ef kk
theorem bf_go {r : List V → Hp → VK → Prop} (k : ∀ (ι : List Addr) (H : Hp) (h : MH) (xs : List V) (ds : List D) (d : List D) (h' : MH) (Q : VK), HR X.K ι H h → VRs X.K ι H ds xs → gf ds h = some (d, h') →
    (∀ vs ι' H', HR X.K ι' H' h' → VRs X.K ι' H' d vs → Ext ι H ι' H' → ∀ p, H' p = none → Q (.ref p) (upd H' p (.lst vs))) → r xs H Q) {σ : L2.St} {H : Hp} {Q : VK} (o : tMf X.K W (mBF gf ma) σ H Q) : tCB r (tMa X.K W ma) σ H Q :=
  tX.bind o fun Γ ds h1 vs ι1 H1 g1 x1 o1 => by
    obtain ⟨d, h', ef, kk⟩ := o1.fin
    exact k ι1 H1 h1 vs ds d h' Q g1.hr x1 ef kk
theorem pm_callB (c : CallM X (.builtin id) g) (hm : X.mg x = none) (ha : PA X (e :: es) (tMa X.K W ma)) (hv : bootBuiltins x = some (.builtin id)) (hg : Gl X x := by rfl) (hn : x ≠ "__name__" := by decide) (hdb : (x == ("__debug__" : Str)) = false := by decide)
    (he : starEach (e :: es) X.env = (false, eval e X.env) :: starEach es X.env := by rfl) (hpl : (backTo pos (starEach es X.env)).any (·.1) = false := by rfl) : PE X (.Call (.Name x p) (e :: es) [] pos) (tM X.K W (mB g ma)) := by
  obtain ⟨r, c, k⟩ := c
  exact (pe_callB c hg hm hv ha hn hdb he hpl).imp fun σ H Q o => b_go k o
theorem pm_callT (c : CallM X (.type T) g) (hm : X.mg x = none) (ha : PA X (e :: es) (tMa X.K W ma)) (hv : bootBuiltins x = some (.type T)) (hg : Gl X x := by rfl) (hn : x ≠ "__name__" := by decide) (hdb : (x == ("__debug__" : Str)) = false := by decide)
    (he : starEach (e :: es) X.env = (false, eval e X.env) :: starEach es X.env := by rfl) (hpl : (backTo pos (starEach es X.env)).any (·.1) = false := by rfl) : PE X (.Call (.Name x p) (e :: es) [] pos) (tM X.K W (mB g ma)) := by
  obtain ⟨r, c, k⟩ := c
  exact (pe_callTy c hg hm hv ha hn hdb he hpl).imp fun σ H Q o => b_go k o
theorem fm_callB (c : CallF X (.builtin id) gf) (hm : X.mg x = none) (ha : PA X (e :: es) (tMa X.K W ma)) (hv : bootBuiltins x = some (.builtin id)) (hg : Gl X x := by rfl) (hn : x ≠ "__name__" := by decide) (hdb : (x == ("__debug__" : Str)) = false := by decide)
    (he : starEach (e :: es) X.env = (false, eval e X.env) :: starEach es X.env := by rfl) (hpl : (backTo pos (starEach es X.env)).any (·.1) = false := by rfl) : PE X (.Call (.Name x p) (e :: es) [] pos) (tMf X.K W (mBF gf ma)) := by
  obtain ⟨r, c, k⟩ := c
  exact (pe_callB c hg hm hv ha hn hdb he hpl).imp fun σ H Q o => bf_go k o
theorem fm_callT (c : CallF X (.type T) gf) (hm : X.mg x = none) (ha : PA X (e :: es) (tMa X.K W ma)) (hv : bootBuiltins x = some (.type T)) (hg : Gl X x := by rfl) (hn : x ≠ "__name__" := by decide) (hdb : (x == ("__debug__" : Str)) = false := by decide)
    (he : starEach (e :: es) X.env = (false, eval e X.env) :: starEach es X.env := by rfl) (hpl : (backTo pos (starEach es X.env)).any (·.1) = false := by rfl) : PE X (.Call (.Name x p) (e :: es) [] pos) (tMf X.K W (mBF gf ma)) := by
  obtain ⟨r, c, k⟩ := c
  exact (pe_callTy c hg hm hv ha hn hdb he hpl).imp fun σ H Q o => bf_go k o
theorem one_rd {K : PySem.W.Frag} {ι : List Addr} {H : Hp} {d : D} {xs : List V} (r : VRs K ι H [d] xs) : ∃ v, xs = [v] ∧ VR K ι H d v := by
  unfold VRs at r
  obtain ⟨v, r', rfl, h2, h3⟩ := r
  unfold VRs at h3
  subst h3
  exact ⟨v, rfl, h2⟩
theorem two_rd {K : PySem.W.Frag} {ι : List Addr} {H : Hp} {d e : D} {xs : List V} (r : VRs K ι H [d, e] xs) : ∃ v u, xs = [v, u] ∧ VR K ι H d v ∧ VR K ι H e u := by
  unfold VRs at r
  obtain ⟨v, r', rfl, h2, h3⟩ := r
  obtain ⟨u, rfl, h4⟩ := one_rd h3
  exact ⟨v, u, rfl, h2, h4⟩
/-- len -/
def lenD (h : MH) : D → Option Nat
  | .str s => if s.length ≤ 1000000 then some s.length else none
  | d => (seqOf h d).map (·.length)
def gLen : List D → MH → Option (D × MH)
  | [d], h => (lenD h d).map fun (n : Nat) => (D.int (n : Int), h)
  | _, _ => none
theorem call_len' : CallM X (.builtin "len") gLen := by
  refine ⟨_, call_len_seq.or call_len_str, fun ι H h xs ds d h' Q r1 r2 e k => ?_⟩
  unfold gLen at e
  split at e
  · rename_i d0
    obtain ⟨v, rfl, hv⟩ := one_rd r2
    have key : (∃ s, d0 = .str s) ∨ lenD h d0 = (seqOf h d0).map (·.length) := by cases d0 <;> simp [lenD]
    rcases key with ⟨s, rfl⟩ | key
    · simp only [lenD] at e
      split at e
      · rename_i hl
        cases e
        rw [vs_ hv]
        exact .inr ⟨s, rfl, sz6 hl, k _ ι H r1 vr_int .refl⟩
      · cases e
    · rw [key] at e
      cases z : seqOf h d0 with
      | none => rw [z] at e; cases e
      | some ys =>
        rw [z] at e
        cases e
        obtain ⟨p, vs, rfl, hs, hvs⟩ := seq_rd r1 hv z
        refine .inl ⟨p, vs, rfl, hs, ?_⟩
        rw [← hvs.length]
        exact k _ ι H r1 vr_int .refl
  · cases e
def gAbs : List D → MH → Option (D × MH)
  | [.int i], h => some (.int (if i < 0 then -i else i), h)
  | _, _ => none
theorem call_abs' : CallM X (.builtin "abs") gAbs := by
  refine ⟨_, call_abs, fun ι H h xs ds d h' Q r1 r2 e k => ?_⟩
  unfold gAbs at e
  split at e
  · cases e
    obtain ⟨v, rfl, hv⟩ := one_rd r2
    rw [vi hv]
    exact ⟨_, rfl, k _ ι H r1 vr_int .refl⟩
  · cases e
def gInt : List D → MH → Option (D × MH)
  | [.int i], h => some (.int i, h)
  | [.bl b], h => some (.int (if b then 1 else 0), h)
  | _, _ => none
theorem call_int' : CallM X (.type "int") gInt := by
  refine ⟨_, call_int1, fun ι H h xs ds d h' Q r1 r2 e k => ?_⟩
  unfold gInt at e
  split at e
  · cases e
    obtain ⟨v, rfl, hv⟩ := one_rd r2
    rw [vi hv]
    exact .inl ⟨_, rfl, k _ ι H r1 vr_int .refl⟩
  · cases e
    obtain ⟨v, rfl, hv⟩ := one_rd r2
    rw [vb hv]
    exact .inr ⟨_, rfl, k _ ι H r1 vr_int .refl⟩
  · cases e
/-- str of an int -/
def gStr : List D → MH → Option (D × MH)
  | [.int i], h => if i.natAbs.log2 < 1920 then some (.str (toString i : Str), h) else none
  | _, _ => none
theorem call_str' : CallM X (.type "str") gStr := by
  refine ⟨_, call_str_int, fun ι H h xs ds d h' Q r1 r2 e k => ?_⟩
  unfold gStr at e
  split at e
  · split at e
    · rename_i hl
      cases e
      obtain ⟨v, rfl, hv⟩ := one_rd r2
      rw [vi hv]
      exact ⟨_, rfl, hl, k _ ι H r1 vr_str .refl⟩
    · cases e
  · cases e
/-- tuple(seq) -/
def gTuple : List D → MH → Option (D × MH)
  | [d], h => (seqOf h d).map fun xs => (.tup xs, h)
  | _, _ => none
theorem call_tuple' : CallM X (.type "tuple") gTuple := by
  refine ⟨_, call_tuple_of, fun ι H h xs ds d h' Q r1 r2 e k => ?_⟩
  unfold gTuple at e
  split at e
  · rename_i d0
    obtain ⟨v, rfl, hv⟩ := one_rd r2
    have key : (∃ s, d0 = .tup s) ∨ seqOf h d0 = lstOf h d0 := by cases d0 <;> simp [seqOf, lstOf]
    rcases key with ⟨s, rfl⟩ | key
    · cases e
      obtain ⟨p, vs, rfl, h2, h3⟩ := tup_rd hv
      exact ⟨p, vs, rfl, .inr ⟨h2, k _ ι H r1 hv .refl⟩⟩
    · rw [key] at e
      cases z : lstOf h d0 with
      | none => rw [z] at e; cases e
      | some ys =>
        rw [z] at e
        cases e
        obtain ⟨p, vs, rfl, hs, hvs⟩ := lst_rd r1 hv z
        exact ⟨p, vs, rfl, .inl ⟨hs, fun l nl => k _ ι _ (r1.laid nl) (vr_tup r1 nl hvs) (.laid nl)⟩⟩
  · cases e
/-- list(seq) -/
def gList : List D → MH → Option (List D × MH)
  | [d], h => (seqOf h d).map fun xs => (xs, h)
  | _, _ => none
theorem call_list' : CallF X (.type "list") gList := by
  refine ⟨_, call_list_of, fun ι H h xs ds d h' Q r1 r2 e k => ?_⟩
  unfold gList at e
  split at e
  · rename_i d0
    obtain ⟨v, rfl, hv⟩ := one_rd r2
    cases z : seqOf h d0 with
    | none => rw [z] at e; cases e
    | some ys =>
      rw [z] at e
      cases e
      obtain ⟨p, vs, rfl, hs, hvs⟩ := seq_rd r1 hv z
      exact ⟨p, vs, rfl, hs, fun l nl => k vs ι H r1 hvs .refl l nl⟩
  · cases e
/-! ### isinstance of built-in types -/
def tyD (h : MH) : D → Option String
  | .non => some "NoneType"
  | .bl _ => some "bool"
  | .int _ => some "int"
  | .str _ => some "str"
  | .tup _ => some "tuple"
  | .fl _ => some "list"
  | .ref n => match h[n]? with
    | some (.lst _) => some "list"
    | _ => none
theorem kL {K : PySem.W.Frag} {p : Addr} {vs : List V} (g : ∀ H', SqL K H' p vs) : ∃ o, K.lookup p = some o ∧ o.cls = .type "list" := by
  rcases g (fun _ => none) with (g | ⟨_, g⟩) | ⟨o, its, n, h1, h2, _⟩
  · cases g
  · cases g
  · exact ⟨o, h1, h2⟩
theorem kT {K : PySem.W.Frag} {p : Addr} {vs : List V} (g : ∀ H', SqT K H' p vs) : ∃ o, K.lookup p = some o ∧ o.cls = .type "tuple" := by
  rcases g (fun _ => none) with (g | ⟨_, g⟩) | ⟨o, its, n, h1, h2, _⟩
  · cases g
  · cases g
  · exact ⟨o, h1, h2⟩
theorem ty_rd {K : PySem.W.Frag} {ι : List Addr} {H : Hp} {h : MH} {d : D} {v : V} {t : String} (g : HR K ι H h) (r : VR K ι H d v) (e : tyD h d = some t) : TyX K H v (.type t) := by
  cases d with
  | non => cases e; unfold VR at r; subst r; exact .base .non
  | bl b => cases e; unfold VR at r; subst r; exact .base (.bl b)
  | int i => cases e; unfold VR at r; subst r; exact .base (.int i)
  | str s => cases e; unfold VR at r; subst r; exact .base (.str s)
  | tup xs =>
    cases e
    unfold VR at r
    obtain ⟨p, vs, rfl, h2, h3⟩ := r
    rcases h2 with ⟨_, h2 | ⟨o, h2⟩⟩ | h2
    · exact .base (.tup h2)
    · exact .fTuple h2
    · obtain ⟨o, q1, q2⟩ := kT h2
      exact .kTuple q1 q2
  | fl xs =>
    cases e
    unfold VR at r
    obtain ⟨p, vs, rfl, h2, h3⟩ := r
    rcases h2 with ⟨_, h2 | ⟨o, h2⟩⟩ | h2
    · exact .base (.lst h2)
    · exact .base (.frz h2)
    · obtain ⟨o, q1, q2⟩ := kL h2
      exact .kList q1 q2
  | ref n =>
    simp only [tyD] at e
    cases z : h[n]? with
    | none => rw [z] at e; cases e
    | some o =>
      rw [z] at e
      cases o with
      | lst xs =>
        cases e
        unfold VR at r
        obtain ⟨p, rfl, h1⟩ := r
        obtain ⟨p', vs, h2, h3, h4⟩ := g.lst z
        rw [h1] at h2; cases h2
        exact .base (.lst h3)
      | _ => cases e
/-- isinstance(x, T): T the name of a built-in type -/
def isiD (T : String) (t : String) : Bool := t == T || (t == "bool" && T == "int")
def mIsi (T : String) (a : EM) : EM := fun Γ h => (a Γ h).bind fun p => R.ofO ((tyD p.2 p.1).map fun t => (.bl (isiD T t), p.2))
theorem kitB_isi {t T : String} (ht : t ∈ ["NoneType", "bool", "int", "str", "tuple", "list"]) (hT : T ∈ ["bool", "int", "str", "tuple", "list"]) : kitB t T = some (isiD T t) := by
  simp only [List.mem_cons, List.not_mem_nil, or_false] at ht hT
  rcases ht with rfl | rfl | rfl | rfl | rfl | rfl <;> rcases hT with rfl | rfl | rfl | rfl | rfl <;> decide +kernel
theorem tyD_mem {h : MH} {d : D} {t : String} (e : tyD h d = some t) : t ∈ ["NoneType", "bool", "int", "str", "tuple", "list"] := by
  cases d with
  | ref n =>
    simp only [tyD] at e
    split at e <;> cases e
    simp
  | _ => cases e; simp
theorem pm_isi {a : Expr} {m : EM} {y : Str} {q : Pos} (T : String) (hm : X.mg "isinstance" = none) (hmT : X.mg y = none) (ha : PE X a (tM X.K W m)) (hv : bootBuiltins y = some (.type T)) (hT : T ∈ ["bool", "int", "str", "tuple", "list"] := by simp)
    (hg : Gl X "isinstance" := by rfl) (hgT : Gl X y := by rfl) (hn : y ≠ "__name__" := by decide) (hd : (y == ("__debug__" : Str)) = false := by decide)
    (he : starEach [a, .Name y q] X.env = (false, eval a X.env) :: starEach [.Name y q] X.env := by rfl) (he2 : starEach [.Name y q] X.env = (false, eval (.Name y q) X.env) :: starEach [] X.env := by rfl) (hpl : (backTo pos (starEach [.Name y q] X.env)).any (·.1) = false := by rfl) :
    PE X (.Call (.Name "isinstance" p) [a, .Name y q] [] pos) (tM X.K W (mIsi T m)) := by
  have hy : PE X (.Name y q) (tC (.ty T)) := pe_bltn hgT hmT hv rfl hn hd
  refine (pe_callB call_isi hg hm (by decide +kernel) (pa_cons ha (pa_cons hy pa_nil he2) he) (by decide) (by decide) he hpl).imp fun σ H Q o => ?_
  refine tX.bind o fun Γ d h1 v ι1 H1 g1 x1 o1 => ?_
  obtain ⟨d', h', ef, k⟩ := o1.fin
  cases z : tyD h1 d with
  | none => simp [z] at ef
  | some t =>
    simp [z] at ef
    obtain ⟨rfl, rfl⟩ := ef
    exact ⟨v, .ty T, .type t, .type T, isiD T t, rfl, .ty T, ty_rd g1.hr x1 z, kit_ty (kitB_isi (tyD_mem z) hT), k _ ι1 H1 g1.hr vr_bl .refl⟩
end
end Mir
namespace Mir
open PySem L2
open Classical

/-! ## subscripts -/
def fIx (x y : D) (h : MH) : Option (D × MH) := match y with
  | .int i => match x with
    | .str s => if s.length ≤ 1000000 then (atI s.cps.toList i).map fun c => (.str ⟨#[c]⟩, h) else none
    | x => (seqOf h x).bind fun xs => (atI xs i).map fun d => (d, h)
  | _ => none
theorem VRs.atI {K : PySem.W.Frag} {ι : List Addr} {H : Hp} {ds : List D} {vs : List V} {i : Int} {d : D} (g : VRs K ι H ds vs) (e : atI ds i = some d) : ∃ v, L2.atI vs i = some v ∧ VR K ι H d v := by
  unfold L2.atI at e ⊢
  rw [← g.length]
  cases z : ixN ds.length i with
  | none => rw [z] at e; cases e
  | some j =>
    rw [z] at e
    exact g.get e
section
variable {X : Cx} {W : WX} {a b e : Expr} {ma mb : EM} {pos p2 : Pos}
theorem pm_ix (ha : PE X a (tM X.K W ma)) (hb : PE X b (tM X.K W mb)) (hs : PlainIx b := by exact fun _ _ => rfl) : PE X (.Subscript a b pos) (tM X.K W (mBin fIx ma mb)) := by
  refine (pe_ix ix_seq ha hb hs).imp fun σ H Q z => two (fun ι H h x y dx dy d h' Q r1 r2 r3 e k => ?_) z
  unfold fIx at e
  split at e
  · rename_i i
    rw [vi r3]
    have key : (∃ s, dx = .str s) ∨ (seqOf h dx).bind (fun xs => (atI xs i).map fun d => (d, h)) = some (d, h') := by
      cases dx <;> first | exact .inl ⟨_, rfl⟩ | exact .inr e
    rcases key with ⟨s, rfl⟩ | key
    · dsimp only at e
      split at e
      · rename_i hl
        cases z : atI s.cps.toList i with
        | none => rw [z] at e; cases e
        | some c =>
          rw [z] at e
          cases e
          rw [vs_ r2]
          exact .inr (.inr ⟨s, i, c, rfl, rfl, sz6 hl, z, k _ ι H r1 vr_str .refl⟩)
      · cases e
    · cases z : seqOf h dx with
      | none => rw [z] at key; cases key
      | some xs =>
        rw [z] at key
        have key : (atI xs i).map (fun d => (d, h)) = some (d, h') := key
        cases z2 : atI xs i with
        | none => rw [z2] at key; cases key
        | some d0 =>
          rw [z2] at key
          cases key
          obtain ⟨p, vs, rfl, hs, hv⟩ := seq_rd r1 r2 z
          obtain ⟨v, h1, h2⟩ := hv.atI z2
          rcases hs with hs | hs
          · exact .inl ⟨p, vs, i, v, rfl, rfl, hs, h1, k v ι H r1 h2 .refl⟩
          · exact .inr (.inl ⟨p, vs, i, v, rfl, rfl, hs, h1, k v ι H r1 h2 .refl⟩)
  · cases e
/-! ### slices -/
abbrev OM := Env → MH → R (Option Int × MH)
abbrev tMo (K : PySem.W.Frag) (W : WX) (m : OM) : TO := tX (fun _ _ (a b : Option Int) => a = b) K W m
def oNone : OM := fun _ h => .ok (none, h)
def oSome (m : EM) : OM := fun Γ h => (m Γ h).bind fun p => match p.1 with
  | .int i => .ok (some i, p.2)
  | _ => .stuck
def cutL {α : Type} (xs : List α) (lo hi : Option Int) : List α := (xs.drop (HT.sIx xs.length 0 lo)).take (HT.sIx xs.length xs.length hi - HT.sIx xs.length 0 lo)
theorem _root_.L2.PO.imp {e : Option Expr} {t t' : TO} (g : PO X e t) (k : ∀ σ H Q, t' σ H Q → t σ H Q) : PO X e t' := ⟨fun pins s σ H Q I h => g.run pins s σ H Q I (k σ H Q h)⟩
theorem om_none : PO X none (tMo X.K W oNone) := po_none.imp fun σ H Q ⟨ι, Γ, h, g, o⟩ => o none ι H g.hr rfl .refl
theorem om_some (ha : PE X a (tM X.K W ma)) : PO X (some a) (tMo X.K W (oSome ma)) :=
  (po_some ha).imp fun σ H Q o => tX.bind o fun Γ d h1 v ι1 H1 g1 x1 o1 => by
    cases d with
    | int i => exact ⟨i, vi x1, o1 (some i) ι1 H1 g1.hr rfl .refl⟩
    | _ => exact o1.elim
theorem VRs.cutD {K : PySem.W.Frag} {ι : List Addr} {H : Hp} {ds : List D} {vs : List V} (g : VRs K ι H ds vs) (lo hi : Option Int) : VRs K ι H (cutL ds lo hi) (cutV vs lo hi) := by
  unfold cutL cutV
  rw [← g.length]
  exact (g.drop _).take _
/-- a slice: of a list it is read (frozen) -/
def fSl (x : D) (lo hi : Option Int) (h : MH) : Option (D × MH) := match x with
  | .str s => if s.length ≤ 1000000 then some (.str (cutS s lo hi), h) else none
  | .tup xs => some (.tup (cutL xs lo hi), h)
  | x => (lstOf h x).map fun xs => (.fl (cutL xs lo hi), h)
/-- a slice of a list, laid to the mirror heap -/
def fSlN (x : D) (lo hi : Option Int) (h : MH) : Option (D × MH) := (lstOf h x).map fun xs => (.ref h.length, h ++ [.lst (cutL xs lo hi)])
def mSl (f : D → Option Int → Option Int → MH → Option (D × MH)) (m : EM) (l u : OM) : EM := fun Γ h => (m Γ h).bind fun p => (l Γ p.2).bind fun q => (u Γ q.2).bind fun r => R.ofO (f p.1 q.1 r.1 r.2)
theorem sl_go {f : D → Option Int → Option Int → MH → Option (D × MH)} {r : V → Option Int → Option Int → Hp → VK → Prop} {ml mu : OM}
    (k : ∀ (ι : List Addr) (H : Hp) (h : MH) (x : V) (lo hi : Option Int) (dx d : D) (h' : MH) (Q : VK), HR X.K ι H h → VR X.K ι H dx x → f dx lo hi h = some (d, h') →
      (∀ v ι' H', HR X.K ι' H' h' → VR X.K ι' H' d v → Ext ι H ι' H' → Q v H') → r x lo hi H Q) {σ : L2.St} {H : Hp} {Q : VK} (o : tM X.K W (mSl f ma ml mu) σ H Q) : tSl r (tM X.K W ma) (tMo X.K W ml) (tMo X.K W mu) σ H Q := by
  obtain ⟨ι, Γ, h, g, o⟩ := o
  refine ⟨ι, Γ, h, g, Out.bind o fun d1 h1 v1 ι1 H1 r1 x1 e1 o1 => ?_⟩
  refine ⟨ι1, Γ, h1, g.to e1 r1, Out.bind o1 fun lo h2 lo' ι2 H2 r2 x2 e2 o2 => ?_⟩
  subst x2
  refine ⟨ι2, Γ, h2, (g.to e1 r1).to e2 r2, Out.bind o2 fun hi h3 hi' ι3 H3 r3 x3 e3 o3 => ?_⟩
  subst x3
  obtain ⟨d, h', ef, kk⟩ := o3.fin
  exact k ι3 H3 h3 v1 lo hi d1 d h' Q r3 (VR.mono e3 _ _ (VR.mono e2 _ _ x1)) ef kk
theorem pm_sl {lo hi : Option Expr} {ml mu : OM} (ha : PE X a (tM X.K W ma)) (hl : PO X lo (tMo X.K W ml)) (hu : PO X hi (tMo X.K W mu)) : PE X (.Subscript a (.Slice lo hi none p2) pos) (tM X.K W (mSl fSl ma ml mu)) := by
  refine (pe_slice ((SlR.or sl_list sl_tupA).or sl_str) ha hl hu).imp fun σ H Q z => sl_go (fun ι H h x lo hi dx d h' Q r1 r2 e k => ?_) z
  have key : (∃ s, dx = .str s) ∨ (∃ xs, dx = .tup xs) ∨ (lstOf h dx).map (fun xs => (D.fl (cutL xs lo hi), h)) = some (d, h') := by
    cases dx <;> first | exact .inl ⟨_, rfl⟩ | exact .inr (.inl ⟨_, rfl⟩) | exact .inr (.inr e)
  rcases key with ⟨s, rfl⟩ | ⟨xs, rfl⟩ | key
  · simp only [fSl] at e
    split at e
    · rename_i hl
      cases e
      rw [vs_ r2]
      exact .inr ⟨s, rfl, sz6 hl, k _ ι H r1 vr_str .refl⟩
    · cases e
  · cases e
    have r2' := r2
    unfold VR at r2'
    obtain ⟨p, vs, rfl, h2, h3⟩ := r2'
    refine .inl (.inr ⟨p, vs, rfl, h2.sq, fun z => ?_, fun z q nq => k _ ι _ (r1.laid nq) (vr_tup r1 nq (h3.cutD lo hi)) (.laid nq)⟩)
    refine k _ ι H r1 ?_ .refl
    have : cutL xs lo hi = xs := by
      unfold cutL
      rw [h3.length, z.1, z.2, ← h3.length]
      simp
    rw [this]
    exact r2
  · cases z : lstOf h dx with
    | none => rw [z] at key; cases key
    | some xs =>
      rw [z] at key
      cases key
      obtain ⟨p, vs, rfl, hs, hv⟩ := lst_rd r1 r2 z
      refine .inl (.inl ⟨p, vs, rfl, hs, fun q nq => k _ ι _ (r1.laid nq) ?_ (.laid nq)⟩)
      unfold VR
      exact ⟨q, _, rfl, .inl ⟨r1.nin nq, .inl upd_same⟩, VRs.mono (.laid nq) _ _ (hv.cutD lo hi)⟩
theorem pm_slN {lo hi : Option Expr} {ml mu : OM} (ha : PE X a (tM X.K W ma)) (hl : PO X lo (tMo X.K W ml)) (hu : PO X hi (tMo X.K W mu)) : PE X (.Subscript a (.Slice lo hi none p2) pos) (tM X.K W (mSl fSlN ma ml mu)) := by
  refine (pe_slice sl_list ha hl hu).imp fun σ H Q z => sl_go (fun ι H h x lo hi dx d h' Q r1 r2 e k => ?_) z
  unfold fSlN at e
  cases z : lstOf h dx with
  | none => rw [z] at e; cases e
  | some xs =>
    rw [z] at e
    cases e
    obtain ⟨p, vs, rfl, hs, hv⟩ := lst_rd r1 r2 z
    refine ⟨p, vs, rfl, hs, fun q nq => k (.ref q) (ι ++ [q]) _ (r1.alloc nq ⟨_, upd_same, VRs.mono (.alloc nq) _ _ (hv.cutD lo hi)⟩) ?_ (.alloc nq)⟩
    unfold VR
    refine ⟨q, rfl, ?_⟩
    rw [← r1.len, List.getElem?_append_right (Nat.le_refl _)]
    simp
end

/-! ## methods -/
def MethM (X : Cx) (id : String) (g : D → List D → MH → Option (D × MH)) : Prop :=
  ∃ r, MtR X id r ∧ ∀ (ι : List Addr) (H : Hp) (h : MH) (x : V) (xs : List V) (dx : D) (ds : List D) (d : D) (h' : MH) (Q : VK), HR X.K ι H h → VR X.K ι H dx x → VRs X.K ι H ds xs → g dx ds h = some (d, h') →
    (∀ v ι' H', HR X.K ι' H' h' → VR X.K ι' H' d v → Ext ι H ι' H' → Q v H') → r x xs H Q
/-- o.m(a..): o of the right type (ok) -/
def mMeth (ok : D → MH → Bool) (g : D → List D → MH → Option (D × MH)) (o : EM) (a : AM) : EM := fun Γ h => (o Γ h).bind fun p => if ok p.1 p.2 = true then (a Γ p.2).bind fun q => R.ofO (g p.1 q.1 q.2) else .stuck
def okL (d : D) (h : MH) : Bool := (lstOf h d).isSome
def okS (d : D) (_ : MH) : Bool := match d with | .str _ => true | _ => false
section
variable {X : Cx} {W : WX} {o e : Expr} {es : List Expr} {mo : EM} {ma : AM} {apos cpos : Pos} {name : Str} {id : String} {g : D → List D → MH → Option (D × MH)}
theorem meth_go {T : String} {ok : D → MH → Bool} {r : V → List V → Hp → VK → Prop} (hok : ∀ (ι : List Addr) (H : Hp) (h : MH) (x : V) (dx : D), HR X.K ι H h → VR X.K ι H dx x → ok dx h = true → tyV X.K T x H)
    (k : ∀ (ι : List Addr) (H : Hp) (h : MH) (x : V) (xs : List V) (dx : D) (ds : List D) (d : D) (h' : MH) (Q : VK), HR X.K ι H h → VR X.K ι H dx x → VRs X.K ι H ds xs → g dx ds h = some (d, h') →
    (∀ v ι' H', HR X.K ι' H' h' → VR X.K ι' H' d v → Ext ι H ι' H' → Q v H') → r x xs H Q) {σ : L2.St} {H : Hp} {Q : VK} (q : tM X.K W (mMeth ok g mo ma) σ H Q) : tBM X.K T r (tM X.K W mo) (tMa X.K W ma) σ H Q := by
  obtain ⟨ι, Γ, h, gg, q⟩ := q
  refine ⟨ι, Γ, h, gg, Out.bind q fun d1 h1 v1 ι1 H1 r1 x1 e1 o1 => ?_⟩
  by_cases c : ok d1 h1 = true
  · simp only [if_pos c] at o1
    refine ⟨hok ι1 H1 h1 v1 d1 r1 x1 c, ι1, Γ, h1, gg.to e1 r1, Out.bind o1 fun ds h2 vs ι2 H2 r2 x2 e2 o2 => ?_⟩
    obtain ⟨d, h', ef, kk⟩ := o2.fin
    exact k ι2 H2 h2 v1 vs d1 ds d h' Q r2 (VR.mono e2 _ _ x1) x2 ef kk
  · simp only [if_neg c] at o1
    exact o1.elim
theorem ok_list {ι : List Addr} {H : Hp} {h : MH} {x : V} {dx : D} (r1 : HR X.K ι H h) (r2 : VR X.K ι H dx x) (c : okL dx h = true) : tyV X.K "list" x H := by
  unfold okL at c
  cases z : lstOf h dx with
  | none => rw [z] at c; cases c
  | some xs =>
    obtain ⟨p, vs, rfl, hs, _⟩ := lst_rd r1 r2 z
    exact .inl ⟨rfl, vs, hs⟩
theorem pm_lmeth (m : MethM X id g) (ho : PE X o (tM X.K W mo)) (ha : PA X (e :: es) (tMa X.K W ma)) (slot : Slot "list" name id) (hty : typeOf (.builtin id) = pure (.type "method_descriptor"))
    (hbase : attributeBase o name X.env (eval o X.env) = eval o X.env := by rfl)
    (hfew : ((backTo cpos (starEach (e :: es) X.env)).all (fun x => !x.1) && (backToKw cpos (keywordEach [] X.env)).all (fun x => x.1.isSome)
      && decide ((e :: es).length + ([] : List Keyword).length + (if ([] : List Keyword).isEmpty then 0 else 1) < 30)) = true := by rfl)
    (hline : (apos.endLine == cpos.line) = true := by rfl) (hs : starEach (e :: es) X.env = (false, eval e X.env) :: starEach es X.env := by rfl) (hplain : (backTo cpos (starEach es X.env)).any (·.1) = false := by rfl) :
    PE X (.Call (.Attribute o name apos) (e :: es) [] cpos) (tM X.K W (mMeth okL g mo ma)) := by
  obtain ⟨r, m, k⟩ := m
  exact (pe_bm PySem.F.plainAttrs_list slot hty m ho ha hbase hfew hline hs hplain).imp fun σ H Q q => meth_go (fun ι H h x dx r1 r2 c => ok_list r1 r2 c) k q
theorem pm_lmeth0 (m : MethM X id g) (ho : PE X o (tM X.K W mo)) (slot : Slot "list" name id) (hty : typeOf (.builtin id) = pure (.type "method_descriptor"))
    (hbase : attributeBase o name X.env (eval o X.env) = eval o X.env := by rfl) (hline : (apos.endLine == cpos.line) = true := by rfl) :
    PE X (.Call (.Attribute o name apos) [] [] cpos) (tM X.K W (mMeth okL g mo mNil)) := by
  obtain ⟨r, m, k⟩ := m
  refine (pe_bm0 PySem.F.plainAttrs_list slot hty m ho hbase hline).imp fun σ H Q q => ?_
  obtain ⟨ι, Γ, h, gg, q⟩ := q
  refine ⟨ι, Γ, h, gg, Out.bind q fun d1 h1 v1 ι1 H1 r1 x1 e1 o1 => ?_⟩
  by_cases c : okL d1 h1 = true
  · simp only [if_pos c, mNil, R.bind_ok] at o1
    refine ⟨ok_list r1 x1 c, ?_⟩
    obtain ⟨d, h', ef, kk⟩ := o1.fin
    exact k ι1 H1 h1 v1 [] d1 [] d h' Q r1 x1 .nil ef kk
  · simp only [if_neg c] at o1
    exact o1.elim
theorem pm_smeth1 {me : EM} (m : MethM X id g) (ho : PE X o (tM X.K W mo)) (he : PE X e (tM X.K W me)) (slot : Slot "str" name id) (hty : typeOf (.builtin id) = pure (.type "method_descriptor"))
    (hs : starEach [e] X.env = [(false, eval e X.env)] := by rfl) (hbase : attributeBase o name X.env (eval o X.env) = eval o X.env := by rfl) (hline : (apos.endLine == cpos.line) = true := by rfl) :
    PE X (.Call (.Attribute o name apos) [e] [] cpos) (tM X.K W (mMeth okS g mo (mCons me mNil))) := by
  obtain ⟨r, m, k⟩ := m
  refine (pe_m1 slot hty m ho he hs hbase hline).imp fun σ H Q q => ?_
  obtain ⟨ι, Γ, h, gg, q⟩ := q
  refine ⟨ι, Γ, h, gg, Out.bind q fun d1 h1 v1 ι1 H1 r1 x1 e1 o1 => ?_⟩
  cases d1 with
  | str z =>
    simp only [okS, if_true] at o1
    refine ⟨⟨z, vs_ x1⟩, ι1, Γ, h1, gg.to e1 r1, ?_⟩
    unfold mCons mNil at o1
    generalize me Γ h1 = rr at o1
    cases rr with
    | ok p =>
      obtain ⟨d2, h2⟩ := p
      intro v2 ι2 H2 r2 x2 e2
      have o2 := Out.mono e2 o1
      simp only [R.bind_ok] at o2
      obtain ⟨d, h', ef, kk⟩ := o2.fin
      exact k ι2 H2 h2 v1 [v2] (.str z) [d2] d h' Q r2 (VR.mono e2 _ _ x1) (.single x2) ef kk
    | exc y Γ' h' => exact o1
    | stuck => exact o1
  | _ => simp [okS] at o1; exact o1.elim
theorem pm_smeth0 (m : MethM X id g) (ho : PE X o (tM X.K W mo)) (slot : Slot "str" name id) (hty : typeOf (.builtin id) = pure (.type "method_descriptor"))
    (hbase : attributeBase o name X.env (eval o X.env) = eval o X.env := by rfl) (hline : (apos.endLine == cpos.line) = true := by rfl) :
    PE X (.Call (.Attribute o name apos) [] [] cpos) (tM X.K W (mMeth okS g mo mNil)) := by
  obtain ⟨r, m, k⟩ := m
  refine (pe_m0 slot hty m ho hbase hline).imp fun σ H Q q => ?_
  obtain ⟨ι, Γ, h, gg, q⟩ := q
  refine ⟨ι, Γ, h, gg, Out.bind q fun d1 h1 v1 ι1 H1 r1 x1 e1 o1 => ?_⟩
  cases d1 with
  | str z =>
    simp only [okS, if_true, mNil, R.bind_ok] at o1
    refine ⟨⟨z, vs_ x1⟩, ?_⟩
    obtain ⟨d, h', ef, kk⟩ := o1.fin
    exact k ι1 H1 h1 v1 [] (.str z) [] d h' Q r1 x1 .nil ef kk
  | _ => simp [okS] at o1; exact o1.elim
/-! ### the methods -/
def gAppend (x : D) (a : List D) (h : MH) : Option (D × MH) := match x, a with
  | .ref n, [y] => match h[n]? with
    | some (.lst xs) => if xs.length < 1000000 then some (.non, h.set n (.lst (xs ++ [y]))) else none
    | _ => none
  | _, _ => none
theorem ref_rd {K : PySem.W.Frag} {ι : List Addr} {H : Hp} {h : MH} {n : Nat} {xs : List D} {v : V} (g : HR K ι H h) (r : VR K ι H (.ref n) v) (e : h[n]? = some (.lst xs)) : ∃ p vs, v = .ref p ∧ ι[n]? = some p ∧ H p = some (.lst vs) ∧ VRs K ι H xs vs := by
  unfold VR at r
  obtain ⟨p, rfl, h1⟩ := r
  obtain ⟨p', vs, h2, h3, h4⟩ := g.lst e
  rw [h1] at h2; cases h2
  exact ⟨p, vs, rfl, h1, h3, h4⟩
theorem wr_lst {K : PySem.W.Frag} {ι : List Addr} {H : Hp} {h : MH} {n : Nat} {p : Addr} {xs : List D} {vs : List V} (g : HR K ι H h) (hp : ι[n]? = some p) (r : VRs K ι H xs vs) : HR K ι (upd H p (.lst vs)) (h.set n (.lst xs)) :=
  g.write (u := .lst xs) hp ⟨vs, upd_same, VRs.mono (.write hp) _ _ r⟩
theorem m_append : MethM X "list.append" gAppend := by
  refine ⟨_, mt_append, fun ι H h x xs dx ds d h' Q r1 r2 r3 e k => ?_⟩
  unfold gAppend at e
  split at e
  · rename_i n y
    cases z : h[n]? with
    | none => rw [z] at e; cases e
    | some ob =>
      rw [z] at e
      cases ob with
      | lst ys =>
        dsimp only at e
        split at e
        · rename_i hl
          cases e
          obtain ⟨p, vs, rfl, h1, h2, h3⟩ := ref_rd r1 r2 z
          obtain ⟨v, rfl, hv⟩ := one_rd r3
          exact ⟨p, vs, v, rfl, rfl, h2, Nat.lt_of_lt_of_le (by rw [← h3.length]; exact hl) (by decide), k .non ι _ (wr_lst r1 h1 (h3.append (.single hv))) vr_non (.write h1)⟩
        · cases e
      | _ => cases e
  · cases e
def gPop (x : D) (a : List D) (h : MH) : Option (D × MH) := match x, a with
  | .ref n, [] => match h[n]? with
    | some (.lst xs) => (xs[xs.length - 1]?).map fun y => (y, h.set n (.lst xs.dropLast))
    | _ => none
  | _, _ => none
theorem VRs.dropLast {K : PySem.W.Frag} {ι : List Addr} {H : Hp} {ds : List D} {vs : List V} (g : VRs K ι H ds vs) : VRs K ι H ds.dropLast vs.dropLast := by
  rw [List.dropLast_eq_take, List.dropLast_eq_take, ← g.length]
  exact g.take _
theorem m_pop : MethM X "list.pop" gPop := by
  refine ⟨_, mt_pop, fun ι H h x xs dx ds d h' Q r1 r2 r3 e k => ?_⟩
  unfold gPop at e
  split at e
  · rename_i n
    cases z : h[n]? with
    | none => rw [z] at e; cases e
    | some ob =>
      rw [z] at e
      cases ob with
      | lst ys =>
        dsimp only at e
        cases z2 : ys[ys.length - 1]? with
        | none => rw [z2] at e; cases e
        | some y =>
          rw [z2] at e
          cases e
          obtain ⟨p, vs, rfl, h1, h2, h3⟩ := ref_rd r1 r2 z
          unfold VRs at r3
          subst r3
          obtain ⟨v, h4, h5⟩ := h3.get z2
          rw [h3.length] at h4
          exact ⟨p, vs, v, rfl, rfl, h2, h4, k v ι _ (wr_lst r1 h1 h3.dropLast) (VR.mono (.write h1) _ _ h5) (.write h1)⟩
      | _ => cases e
  · cases e
def gPopAt (x : D) (a : List D) (h : MH) : Option (D × MH) := match x, a with
  | .ref n, [.int i] => match h[n]? with
    | some (.lst xs) => if 0 ≤ i ∧ i < 2 ^ 62 then (xs[i.toNat]?).map fun y => (y, h.set n (.lst (xs.eraseIdx i.toNat))) else none
    | _ => none
  | _, _ => none
theorem VRs.eraseIdx {K : PySem.W.Frag} {ι : List Addr} {H : Hp} {ds : List D} {vs : List V} (g : VRs K ι H ds vs) (k : Nat) : VRs K ι H (ds.eraseIdx k) (vs.eraseIdx k) := by
  rw [List.eraseIdx_eq_take_drop_succ, List.eraseIdx_eq_take_drop_succ]
  exact (g.take _).append (g.drop _)
theorem m_popAt : MethM X "list.pop" gPopAt := by
  refine ⟨_, mt_popAt, fun ι H h x xs dx ds d h' Q r1 r2 r3 e k => ?_⟩
  unfold gPopAt at e
  split at e
  · rename_i n i
    cases z : h[n]? with
    | none => rw [z] at e; cases e
    | some ob =>
      rw [z] at e
      cases ob with
      | lst ys =>
        dsimp only at e
        split at e
        · rename_i hi
          cases z2 : ys[i.toNat]? with
          | none => rw [z2] at e; cases e
          | some y =>
            rw [z2] at e
            cases e
            obtain ⟨p, vs, rfl, h1, h2, h3⟩ := ref_rd r1 r2 z
            obtain ⟨u, rfl, hu⟩ := one_rd r3
            obtain ⟨v, h4, h5⟩ := h3.get z2
            have hlt : i.toNat < vs.length := (List.getElem?_eq_some_iff.mp h4).1
            refine ⟨p, vs, i, i.toNat, v, rfl, by rw [vi hu], h2, by omega, by omega, ?_, h4, k v ι _ (wr_lst r1 h1 (h3.eraseIdx _)) (VR.mono (.write h1) _ _ h5) (.write h1)⟩
            exact (ixN_seq (show ixN vs.length i = some i.toNat by unfold ixN; rw [if_pos hi.1, if_pos (by omega)])).1
        · cases e
      | _ => cases e
  · cases e
def strsOf : List D → Option (List Str)
  | [] => some []
  | .str s :: r => (strsOf r).map (s :: ·)
  | _ :: _ => none
theorem strs_rd {K : PySem.W.Frag} {ι : List Addr} {H : Hp} : ∀ {ds : List D} {vs : List V} {ss : List Str}, VRs K ι H ds vs → strsOf ds = some ss → vs = ss.map V.str
  | [], vs, ss, g, e => by cases e; unfold VRs at g; exact g
  | .str s :: r, vs, ss, g, e => by
    simp only [strsOf] at e
    cases z : strsOf r with
    | none => rw [z] at e; cases e
    | some t =>
      rw [z] at e
      cases e
      unfold VRs at g
      obtain ⟨v, us, rfl, h2, h3⟩ := g
      rw [vs_ h2, strs_rd h3 z]
      rfl
  | .non :: _, _, _, _, e => by cases e
  | .bl _ :: _, _, _, _, e => by cases e
  | .int _ :: _, _, _, _, e => by cases e
  | .tup _ :: _, _, _, _, e => by cases e
  | .fl _ :: _, _, _, _, e => by cases e
  | .ref _ :: _, _, _, _, e => by cases e
def gJoin (x : D) (a : List D) (h : MH) : Option (D × MH) := match x, a with
  | .str s, [l] => (seqOf h l).bind fun ds => (strsOf ds).bind fun ys => if (ys.map (·.length)).sum + ys.length * s.length ≤ 1000000 then some (.str (Txt.join s ys), h) else none
  | _, _ => none
theorem m_join : MethM X "str.join" gJoin := by
  refine ⟨_, mt_join, fun ι H h x xs dx ds d h' Q r1 r2 r3 e k => ?_⟩
  unfold gJoin at e
  split at e
  · rename_i s l
    cases z : seqOf h l with
    | none => rw [z] at e; cases e
    | some ys =>
      rw [z] at e
      cases z2 : strsOf ys with
      | none => simp [z2] at e
      | some ss =>
        simp only [Option.bind_some, z2] at e
        split at e
        · rename_i hl
          cases e
          obtain ⟨u, rfl, hu⟩ := one_rd r3
          obtain ⟨p, vs, rfl, hs, hv⟩ := seq_rd r1 hu z
          have := strs_rd hv z2
          subst this
          exact ⟨s, p, ss, vs_ r2, rfl, hs, Nat.le_trans hl (by decide), k _ ι H r1 vr_str .refl⟩
        · cases e
  · cases e
def gStarts (x : D) (a : List D) (h : MH) : Option (D × MH) := match x, a with
  | .str s, [.str t] => some (.bl (Txt.startswith s t), h)
  | _, _ => none
theorem m_starts : MethM X "str.startswith" gStarts := by
  refine ⟨_, mt_startswith, fun ι H h x xs dx ds d h' Q r1 r2 r3 e k => ?_⟩
  unfold gStarts at e
  split at e
  · cases e
    obtain ⟨u, rfl, hu⟩ := one_rd r3
    rw [vs_ r2, vs_ hu]
    exact ⟨_, _, rfl, rfl, k _ ι H r1 vr_bl .refl⟩
  · cases e
def gRstrip (x : D) (a : List D) (h : MH) : Option (D × MH) := match x, a with
  | .str s, [.str t] => if s.length ≤ 1000000 then some (.str (Txt.rstripChars s t), h) else none
  | _, _ => none
theorem m_rstrip : MethM X "str.rstrip" gRstrip := by
  refine ⟨_, mt_rstripChars, fun ι H h x xs dx ds d h' Q r1 r2 r3 e k => ?_⟩
  unfold gRstrip at e
  split at e
  · split at e
    · rename_i hl
      cases e
      obtain ⟨u, rfl, hu⟩ := one_rd r3
      rw [vs_ r2, vs_ hu]
      exact ⟨_, _, rfl, rfl, sz6 hl, k _ ι H r1 vr_str .refl⟩
    · cases e
  · cases e
def gUpper (x : D) (a : List D) (h : MH) : Option (D × MH) := match x, a with
  | .str s, [] => if s.length ≤ 1000000 then some (.str (Txt.upper s), h) else none
  | _, _ => none
theorem m_upper : MethM X "str.upper" gUpper := by
  refine ⟨_, mt_upper, fun ι H h x xs dx ds d h' Q r1 r2 r3 e k => ?_⟩
  unfold gUpper at e
  split at e
  · split at e
    · rename_i hl
      cases e
      unfold VRs at r3
      rw [vs_ r2]
      exact ⟨_, rfl, r3, Nat.le_trans hl (by decide), k _ ι H r1 vr_str .refl⟩
    · cases e
  · cases e
/-- s.split(sep): a new list -/
def gSplit (x y : D) (h : MH) : Option (List D × MH) := match x, y with
  | .str s, .str t => if t.length ≠ 0 ∧ s.length + 2 ≤ 1000000 then some ((Txt.split s t).map D.str, h) else none
  | _, _ => none
def mSplit (a b : EM) : AM := fun Γ h => (a Γ h).bind fun p => if okS p.1 p.2 = true then (b Γ p.2).bind fun q => R.ofO (gSplit p.1 q.1 q.2) else .stuck
theorem VRs.strs {K : PySem.W.Frag} {ι : List Addr} {H : Hp} : ∀ (ss : List Str), VRs K ι H (ss.map D.str) (ss.map V.str)
  | [] => .nil
  | s :: r => .cons vr_str (VRs.strs r)
theorem fm_split {me : EM} (ho : PE X o (tM X.K W mo)) (he : PE X e (tM X.K W me)) (hs : starEach [e] X.env = [(false, eval e X.env)] := by rfl) (hbase : attributeBase o "split" X.env (eval o X.env) = eval o X.env := by rfl) (hline : (apos.endLine == cpos.line) = true := by rfl) :
    PE X (.Call (.Attribute o "split" apos) [e] [] cpos) (tMf X.K W (mSplit mo me)) := by
  refine (pe_split ho he hs hbase hline).imp fun σ H Q q => ?_
  obtain ⟨ι, Γ, h, gg, q⟩ := q
  refine ⟨ι, Γ, h, gg, Out.bind q fun d1 h1 v1 ι1 H1 r1 x1 e1 o1 => ?_⟩
  cases d1 with
  | str z =>
    simp only [okS, if_true] at o1
    refine ⟨⟨z, vs_ x1⟩, ι1, Γ, h1, gg.to e1 r1, Out.bind o1 fun d2 h2 v2 ι2 H2 r2 x2 e2 o2 => ?_⟩
    obtain ⟨ds, h', ef, kk⟩ := o2.fin
    cases d2 with
    | str t =>
      simp only [gSplit] at ef
      split at ef
      · rename_i hl
        cases ef
        rw [vs_ x1, vs_ x2]
        refine ⟨z, t, rfl, rfl, by simp [hl.1], sz6 hl.2, fun p np => kk _ ι2 H2 r2 (VRs.strs _) .refl p np⟩
      · cases ef
    | _ => simp [gSplit] at ef
  | _ => simp [okS] at o1; exact o1.elim
end
end Mir
namespace Mir
open PySem L2

/-! ## what a for walks -/
def chars (s : Str) : List D := s.cps.toList.map fun c => .str ⟨#[c]⟩
def liveOf (h : MH) : D → Option (List D × Live)
  | .tup xs => some (xs, none)
  | .fl xs => some (xs, none)
  | .ref n => match h[n]? with
    | some (.lst xs) => some (xs, some (n, xs))
    | _ => none
  | _ => none
def itemsOf (d : D) (h : MH) : Option ((List D × Live) × MH) := match d with
  | .str s => some ((chars s, none), h)
  | d => (liveOf h d).map fun p => (p, h)
def iAny (a : EM) : IM := fun Γ h => (a Γ h).bind fun p => R.ofO (itemsOf p.1 p.2)
def iRevM (a : EM) : IM := fun Γ h => (a Γ h).bind fun p => R.ofO ((liveOf p.2 p.1).map fun q => ((q.1.reverse, q.2), p.2))
def intsD (lo : Int) (n : Nat) : List D := (List.range n).map fun k => .int (lo + (k : Nat))
def rngOf (xs : List D) (h : MH) : Option ((List D × Live) × MH) := match xs with
  | [.int j] => if -(2 ^ 62) ≤ j ∧ j < 2 ^ 62 then some ((intsD 0 j.toNat, none), h) else none
  | _ => none
def rngOf2 (xs : List D) (h : MH) : Option ((List D × Live) × MH) := match xs with
  | [.int i, .int j] => if (-(2 ^ 62) ≤ i ∧ i < 2 ^ 62) ∧ -(2 ^ 62) ≤ j ∧ j < 2 ^ 62 then some ((intsD i (j - i).toNat, none), h) else none
  | _ => none
def iRng (r : AM) : IM := fun Γ h => (r Γ h).bind fun p => R.ofO (rngOf p.1 p.2)
def iRngB (r : AM) : IM := fun Γ h => (r Γ h).bind fun p => R.ofO (rngOf2 p.1 p.2)
def pairI (xs : List D) : List D := xs.mapIdx fun i d => .tup [.int (i : Nat), d]
/-- enumerate of a list -/
def enumOf (xs : List D) (h : MH) : Option ((List D × Live) × MH) := match xs with
  | [.fl ys] => some ((pairI ys, none), h)
  | [.ref n] => (liveOf h (.ref n)).map fun q => ((pairI q.1, q.2), h)
  | _ => none
def iEnumM (r : AM) : IM := fun Γ h => (r Γ h).bind fun p => R.ofO (enumOf p.1 p.2)
def pairZ (xs ys : List D) : List D := (xs.zip ys).map fun p => .tup [p.1, p.2]
/-- zip of two lists or of two tuples -/
def zipOf (xs : List D) (h : MH) : Option ((List D × Live) × MH) := match xs with
  | [.tup xs, .tup ys] => some ((pairZ xs ys, none), h)
  | [.fl xs, .fl ys] => some ((pairZ xs ys, none), h)
  | [.ref n, .fl ys] => (liveOf h (.ref n)).map fun q => ((pairZ q.1 ys, q.2), h)
  | [.fl xs, .ref n] => (liveOf h (.ref n)).map fun q => ((pairZ xs q.1, q.2), h)
  | _ => none
def iZipM (r : AM) : IM := fun Γ h => (r Γ h).bind fun p => R.ofO (zipOf p.1 p.2)

section
variable {K : PySem.W.Frag} {ι ι' : List Addr} {H H' : Hp} {h h' : MH}
/-- what stands at each turn -/
theorem live_rd {d : D} {v : V} {xs : List D} {l : Live} (g : HR K ι H h) (r : VR K ι H d v) (e : liveOf h d = some (xs, l)) :
    ∃ p, v = .ref p ∧ (((∃ vs, SqL K H p vs ∧ vs.length = xs.length) ∧ ∀ ι' H' h', HR K ι' H' h' → Ext ι H ι' H' → liveOk l h' → ∃ vs, SqL K H' p vs ∧ VRs K ι' H' xs vs) ∨
      ((∃ vs, SqT K H p vs ∧ vs.length = xs.length) ∧ ∀ ι' H' h', HR K ι' H' h' → Ext ι H ι' H' → liveOk l h' → ∃ vs, SqT K H' p vs ∧ VRs K ι' H' xs vs)) := by
  cases d with
  | tup ys =>
    cases e
    unfold VR at r
    obtain ⟨p, vs, h1, h2, h3⟩ := r
    exact ⟨p, h1, .inr ⟨⟨vs, h2.sq, h3.length.symm⟩, fun ι' H' h' _ ex _ => ⟨vs, (h2.mono ex).sq, VRs.mono ex _ _ h3⟩⟩⟩
  | fl ys =>
    cases e
    unfold VR at r
    obtain ⟨p, vs, h1, h2, h3⟩ := r
    exact ⟨p, h1, .inl ⟨⟨vs, h2.sq, h3.length.symm⟩, fun ι' H' h' _ ex _ => ⟨vs, (h2.mono ex).sq, VRs.mono ex _ _ h3⟩⟩⟩
  | ref n =>
    simp only [liveOf] at e
    split at e
    · rename_i ys hn
      cases e
      unfold VR at r
      obtain ⟨p, rfl, h1⟩ := r
      refine ⟨p, rfl, .inl ⟨?_, fun ι' H' h' g' ex lv => ?_⟩⟩
      · obtain ⟨p', vs, h2, h3, h4⟩ := g.lst hn
        rw [h1] at h2; cases h2
        exact ⟨vs, .of h3, h4.length.symm⟩
      · obtain ⟨p', vs, h2, h3, h4⟩ := g'.lst lv
        rw [ex.get h1] at h2; cases h2
        exact ⟨vs, .of h3, h4⟩
    · cases e
  | _ => cases e
theorem live_rdL {d : D} {v : V} {xs : List D} {l : Live} (g : HR K ι H h) (r : VR K ι H d v) (e : liveOf h d = some (xs, l)) (nt : ∀ ys, d ≠ .tup ys) :
    ∃ p vs, v = .ref p ∧ SqL K H p vs ∧ ∀ ι' H' h', HR K ι' H' h' → Ext ι H ι' H' → liveOk l h' → ∃ vs, SqL K H' p vs ∧ VRs K ι' H' xs vs := by
  cases d with
  | tup ys => exact absurd rfl (nt ys)
  | fl ys =>
    cases e
    unfold VR at r
    obtain ⟨p, vs, h1, h2, h3⟩ := r
    exact ⟨p, vs, h1, h2.sq, fun ι' H' h' _ ex _ => ⟨vs, (h2.mono ex).sq, VRs.mono ex _ _ h3⟩⟩
  | ref n =>
    simp only [liveOf] at e
    split at e
    · rename_i ys hn
      cases e
      unfold VR at r
      obtain ⟨p, rfl, h1⟩ := r
      obtain ⟨p', vs, h2, h3, h4⟩ := g.lst hn
      rw [h1] at h2; cases h2
      refine ⟨p, vs, rfl, .of h3, fun ι' H' h' g' ex lv => ?_⟩
      obtain ⟨p', vs, h2, h3, h4⟩ := g'.lst lv
      rw [ex.get h1] at h2; cases h2
      exact ⟨vs, .of h3, h4⟩
    · cases e
  | _ => cases e
theorem itr_list {p : Addr} {xs : List D} {l : Live} (k : ∀ ι' H' h', HR K ι' H' h' → Ext ι H ι' H' → liveOk l h' → ∃ vs, SqL K H' p vs ∧ VRs K ι' H' xs vs) : ItR K ι H (Itl K p) xs l where
  go := fun ι' H' h' i d g ex lv hi => by
    obtain ⟨vs, q1, q2⟩ := k ι' H' h' g ex lv
    obtain ⟨v, q3, q4⟩ := q2.get hi
    refine ⟨⟨vs, v, q1, q3⟩, fun x H'' y => ?_⟩
    obtain ⟨rfl, y⟩ := y
    have := y vs q1
    rw [q3] at this; cases this
    exact ⟨g, q4, .refl⟩
  stop := fun ι' H' h' g ex lv => by
    obtain ⟨vs, q1, q2⟩ := k ι' H' h' g ex lv
    exact ⟨vs, q1, Nat.le_of_eq q2.length.symm⟩
theorem itr_tup {p : Addr} {xs : List D} {l : Live} (k : ∀ ι' H' h', HR K ι' H' h' → Ext ι H ι' H' → liveOk l h' → ∃ vs, SqT K H' p vs ∧ VRs K ι' H' xs vs) : ItR K ι H (Itt K p) xs l where
  go := fun ι' H' h' i d g ex lv hi => by
    obtain ⟨vs, q1, q2⟩ := k ι' H' h' g ex lv
    obtain ⟨v, q3, q4⟩ := q2.get hi
    refine ⟨⟨vs, v, q1, q3⟩, fun x H'' y => ?_⟩
    obtain ⟨rfl, y⟩ := y
    have := y vs q1
    rw [q3] at this; cases this
    exact ⟨g, q4, .refl⟩
  stop := fun ι' H' h' g ex lv => by
    obtain ⟨vs, q1, q2⟩ := k ι' H' h' g ex lv
    exact ⟨vs, q1, Nat.le_of_eq q2.length.symm⟩
theorem itr_str {x : Str} : ItR K ι H (Its x) (chars x) none where
  go := fun ι' H' h' i d g ex lv hi => by
    unfold chars at hi
    rw [List.getElem?_map, Array.getElem?_toList] at hi
    cases z : x.cps[i]? with
    | none => rw [z] at hi; cases hi
    | some c =>
      rw [z] at hi; cases hi
      refine ⟨(Array.getElem?_eq_some_iff.mp z).1, fun v H'' y => ?_⟩
      obtain ⟨rfl, c', e1, rfl⟩ := y
      rw [z] at e1; cases e1
      exact ⟨g, vr_str, .refl⟩
  stop := fun ι' H' h' g ex lv => by
    show x.cps.size ≤ _
    simp [chars]
theorem itr_rng {lo : Int} {n : Nat} : ItR K ι H (Itr lo n) (intsD lo n) none where
  go := fun ι' H' h' i d g ex lv hi => by
    unfold intsD at hi
    rw [List.getElem?_map] at hi
    by_cases z : i < n
    · rw [List.getElem?_range z] at hi
      cases hi
      refine ⟨z, fun v H'' y => ?_⟩
      obtain ⟨rfl, rfl⟩ := y
      exact ⟨g, vr_int, .refl⟩
    · rw [List.getElem?_eq_none (by simpa using z)] at hi; cases hi
  stop := fun ι' H' h' g ex lv => by
    show n ≤ _
    simp [intsD]
theorem rev_get {α : Type} {xs : List α} {i : Nat} (h : i < xs.length) : xs.reverse[i]? = xs[xs.length - 1 - i]? := List.getElem?_reverse h
theorem itr_rev {p : Addr} {xs : List D} {l : Live} (k : ∀ ι' H' h', HR K ι' H' h' → Ext ι H ι' H' → liveOk l h' → ∃ vs, SqL K H' p vs ∧ VRs K ι' H' xs vs) : ItR K ι H (Itv K p xs.length) xs.reverse l where
  go := fun ι' H' h' i d g ex lv hi => by
    obtain ⟨vs, q1, q2⟩ := k ι' H' h' g ex lv
    have hl : i < xs.length := by simpa using (List.getElem?_eq_some_iff.mp hi).1
    rw [rev_get hl] at hi
    obtain ⟨v, q3, q4⟩ := q2.get hi
    refine ⟨⟨hl, vs, v, q1, q3⟩, fun x H'' y => ?_⟩
    obtain ⟨rfl, y⟩ := y
    have := y vs q1
    rw [q3] at this; cases this
    exact ⟨g, q4, .refl⟩
  stop := fun ι' H' h' g ex lv => by
    show xs.length ≤ _
    simp
theorem itr_revT {p : Addr} {xs : List D} {l : Live} (k : ∀ ι' H' h', HR K ι' H' h' → Ext ι H ι' H' → liveOk l h' → ∃ vs, SqT K H' p vs ∧ VRs K ι' H' xs vs) : ItR K ι H (RT.ItvT K p xs.length) xs.reverse l where
  go := fun ι' H' h' i d g ex lv hi => by
    obtain ⟨vs, q1, q2⟩ := k ι' H' h' g ex lv
    have hl : i < xs.length := by simpa using (List.getElem?_eq_some_iff.mp hi).1
    rw [rev_get hl] at hi
    obtain ⟨v, q3, q4⟩ := q2.get hi
    refine ⟨⟨hl, vs, v, q1, q3⟩, fun x H'' y => ?_⟩
    obtain ⟨rfl, y⟩ := y
    have := y vs q1
    rw [q3] at this; cases this
    exact ⟨g, q4, .refl⟩
  stop := fun ι' H' h' g ex lv => by
    show xs.length ≤ _
    simp
theorem itr_enum {p : Addr} {xs : List D} {l : Live} (k : ∀ ι' H' h', HR K ι' H' h' → Ext ι H ι' H' → liveOk l h' → ∃ vs, SqL K H' p vs ∧ VRs K ι' H' xs vs) : ItR K ι H (Ite K p) (pairI xs) l where
  go := fun ι' H' h' i d g ex lv hi => by
    obtain ⟨vs, q1, q2⟩ := k ι' H' h' g ex lv
    unfold pairI at hi
    rw [List.getElem?_mapIdx] at hi
    cases z : xs[i]? with
    | none => rw [z] at hi; cases hi
    | some c =>
      rw [z] at hi; cases hi
      obtain ⟨v, q3, q4⟩ := q2.get z
      refine ⟨⟨vs, v, q1, q3⟩, fun x H'' y => ?_⟩
      obtain ⟨T, w, rfl, nT, rfl, y⟩ := y
      have := y vs q1
      rw [q3] at this; cases this
      exact ⟨g.laid nT, vr_tup g nT (.cons vr_int (.cons q4 .nil)), .laid nT⟩
  stop := fun ι' H' h' g ex lv => by
    obtain ⟨vs, q1, q2⟩ := k ι' H' h' g ex lv
    refine ⟨vs, q1, ?_⟩
    simp [pairI, q2.length]
theorem pairZ_get {xs ys : List D} {i : Nat} {d : D} (e : (pairZ xs ys)[i]? = some d) : ∃ x y, xs[i]? = some x ∧ ys[i]? = some y ∧ d = .tup [x, y] := by
  unfold pairZ at e
  rw [List.getElem?_map] at e
  cases z : (xs.zip ys)[i]? with
  | none => rw [z] at e; cases e
  | some p =>
    rw [z] at e; cases e
    rw [List.getElem?_zip_eq_some] at z
    exact ⟨p.1, p.2, z.1, z.2, rfl⟩
theorem itr_zip {p p2 : Addr} {xs ys : List D} {l : Live} (k : ∀ ι' H' h', HR K ι' H' h' → Ext ι H ι' H' → liveOk l h' → (∃ vs, SqL K H' p vs ∧ VRs K ι' H' xs vs) ∧ ∃ vs, SqL K H' p2 vs ∧ VRs K ι' H' ys vs) : ItR K ι H (Itz K p p2) (pairZ xs ys) l where
  go := fun ι' H' h' i d g ex lv hi => by
    obtain ⟨⟨vs, q1, q2⟩, vs2, r1, r2⟩ := k ι' H' h' g ex lv
    obtain ⟨x, y, e1, e2, rfl⟩ := pairZ_get hi
    obtain ⟨v, q3, q4⟩ := q2.get e1
    obtain ⟨v2, r3, r4⟩ := r2.get e2
    refine ⟨⟨vs, vs2, v, v2, q1, r1, q3, r3⟩, fun x H'' y => ?_⟩
    obtain ⟨T, w, w2, rfl, nT, rfl, y, y2⟩ := y
    have := y vs q1
    rw [q3] at this; cases this
    have := y2 vs2 r1
    rw [r3] at this; cases this
    exact ⟨g.laid nT, vr_tup g nT (.cons q4 (.cons r4 .nil)), .laid nT⟩
  stop := fun ι' H' h' g ex lv => by
    obtain ⟨⟨vs, q1, q2⟩, vs2, r1, r2⟩ := k ι' H' h' g ex lv
    refine ⟨vs, vs2, q1, r1, ?_⟩
    simp [pairZ, q2.length, r2.length]
    omega
theorem itr_zipT {p p2 : Addr} {xs ys : List D} {l : Live} (k : ∀ ι' H' h', HR K ι' H' h' → Ext ι H ι' H' → liveOk l h' → (∃ vs, SqT K H' p vs ∧ VRs K ι' H' xs vs) ∧ ∃ vs, SqT K H' p2 vs ∧ VRs K ι' H' ys vs) : ItR K ι H (RZ.ItzT K p p2) (pairZ xs ys) l where
  go := fun ι' H' h' i d g ex lv hi => by
    obtain ⟨⟨vs, q1, q2⟩, vs2, r1, r2⟩ := k ι' H' h' g ex lv
    obtain ⟨x, y, e1, e2, rfl⟩ := pairZ_get hi
    obtain ⟨v, q3, q4⟩ := q2.get e1
    obtain ⟨v2, r3, r4⟩ := r2.get e2
    refine ⟨⟨vs, vs2, v, v2, q1, r1, q3, r3⟩, fun x H'' y => ?_⟩
    obtain ⟨T, w, w2, rfl, nT, rfl, y, y2⟩ := y
    have := y vs q1
    rw [q3] at this; cases this
    have := y2 vs2 r1
    rw [r3] at this; cases this
    exact ⟨g.laid nT, vr_tup g nT (.cons q4 (.cons r4 .nil)), .laid nT⟩
  stop := fun ι' H' h' g ex lv => by
    obtain ⟨⟨vs, q1, q2⟩, vs2, r1, r2⟩ := k ι' H' h' g ex lv
    refine ⟨vs, vs2, q1, r1, ?_⟩
    simp [pairZ, q2.length, r2.length]
    omega
end
section
variable {X : Cx} {W : WX} {tg e e2 : Expr} {me me2 : EM} {p pos : Pos}
/-- a list, a tuple or a str, as it comes -/
def iThing (K : PySem.W.Frag) (te : TE) : TI := fun σ H R => te σ H fun v H1 => (∃ x, v = .str x ∧ R (Its x) H1) ∨ ∃ a, v = .ref a ∧ (((∃ xs, SqL K H1 a xs) ∧ R (Itl K a) H1) ∨ ((∃ xs, SqT K H1 a xs) ∧ R (Itt K a) H1))
theorem pi_thing {te : TE} (he : PE X e te) : PI X tg e (iThing X.K te) := by
  refine ⟨fun pins s σ H R I hw => thn (he.run pins s σ H _ I hw) fun v s1 ⟨y, H1, I1, r1, q⟩ => ?_⟩
  rcases q with ⟨x, rfl, q⟩ | ⟨a, rfl, ⟨⟨xs, hq⟩, q⟩ | ⟨⟨xs, hq⟩, q⟩⟩
  · obtain ⟨t, rfl⟩ := r1
    by_cases ha : x.cps.all (· < 128) = true
    · exact wpAny_pyIter_ascii ha (pi_one (tk := s1.toks) I1 _ (turn_str _ x t _ (.inl rfl)) ⟨_, Heap.get?_push_size _ rfl, rfl, rfl⟩ q)
    · exact wpAny_pyIter_wide (by simpa using ha) (pi_one (tk := s1.toks) I1 _ (turn_str _ x t _ (.inr rfl)) ⟨_, Heap.get?_push_size _ rfl, rfl, rfl⟩ q)
  · cases r1
    obtain ⟨its, rv, pl, _⟩ := I1.list hq
    exact wpAny_pyIter_list pl.isList (pi_one (tk := s1.toks) I1 _ (turn_list a _) ⟨_, Heap.get?_push_size _ rfl, rfl, rfl⟩ q)
  · cases r1
    obtain ⟨its, rv, pl, _⟩ := I1.tuple hq
    exact wpAny_pyIter_tuple (show s1.heap.IsTuple a its.toArray from pl) (pi_one (tk := s1.toks) I1 _ (turn_tuple a _) ⟨_, Heap.get?_push_size _ rfl, rfl, rfl⟩ q)
theorem _root_.L2.PI.imp {t t' : TI} (g : PI X tg e t) (k : ∀ σ H Q, t' σ H Q → t σ H Q) : PI X tg e t' := ⟨fun pins s σ H Q I h => g.run pins s σ H Q I (k σ H Q h)⟩
theorem im_any (he : PE X e (tM X.K W me)) : PI X tg e (tMi X.K W (iAny me)) :=
  (pi_thing he).imp fun σ H Q o => tX.bind o fun Γ d h1 v ι1 H1 g1 x1 o1 => by
    obtain ⟨a, h', e1, kk⟩ := o1.fin
    simp only [itemsOf] at e1
    split at e1
    · cases e1
      exact .inl ⟨_, vs_ x1, kk _ ι1 H1 g1.hr itr_str .refl⟩
    · cases z : liveOf h1 d with
      | none => rw [z] at e1; cases e1
      | some q =>
        rw [z] at e1; cases e1
        obtain ⟨p, rfl, q | q⟩ := live_rd g1.hr x1 z
        · exact .inr ⟨p, rfl, .inl ⟨q.1.imp fun _ q => q.1, kk _ ι1 H1 g1.hr (itr_list q.2) .refl⟩⟩
        · exact .inr ⟨p, rfl, .inr ⟨q.1.imp fun _ q => q.1, kk _ ι1 H1 g1.hr (itr_tup q.2) .refl⟩⟩
theorem im_rev (hg : Gl X "reversed") (hm : X.mg "reversed" = none) (he : PE X e (tM X.K W me)) (hs : starEach [e] X.env = (false, eval e X.env) :: starEach [] X.env := by rfl) : PI X tg (.Call (.Name "reversed" p) [e] [] pos) (tMi X.K W (iRevM me)) :=
  (RT.pi_revA hg hm he hs).imp fun σ H Q o => tX.bind o fun Γ d h1 v ι1 H1 g1 x1 o1 => by
    obtain ⟨a, h', e1, kk⟩ := o1.fin
    cases z : liveOf h1 d with
    | none => rw [z] at e1; cases e1
    | some q =>
      rw [z] at e1; cases e1
      obtain ⟨p, rfl, q | q⟩ := live_rd g1.hr x1 z
      · obtain ⟨⟨vs, q1, q2⟩, q⟩ := q
        refine ⟨p, vs, rfl, .inl ⟨q1, ?_⟩⟩
        rw [q2]
        exact kk _ ι1 H1 g1.hr (itr_rev q) .refl
      · obtain ⟨⟨vs, q1, q2⟩, q⟩ := q
        refine ⟨p, vs, rfl, .inr ⟨q1, ?_⟩⟩
        rw [q2]
        exact kk _ ι1 H1 g1.hr (itr_revT q) .refl
theorem am_one (he : PE X e (tM X.K W me)) (hs : starEach [e] X.env = [(false, eval e X.env)] := by rfl) : PA X [e] (tMa X.K W (mCons me mNil)) := am_cons he am_nil hs
theorem VRs.one {K : PySem.W.Frag} {ι : List Addr} {H : Hp} {d : D} {vs : List V} (g : VRs K ι H [d] vs) : ∃ v, vs = [v] ∧ VR K ι H d v := by
  unfold VRs at g
  obtain ⟨v, r, rfl, x2, x3⟩ := g
  unfold VRs at x3; subst x3
  exact ⟨v, rfl, x2⟩
theorem VRs.two {K : PySem.W.Frag} {ι : List Addr} {H : Hp} {d d2 : D} {vs : List V} (g : VRs K ι H [d, d2] vs) : ∃ v w, vs = [v, w] ∧ VR K ι H d v ∧ VR K ι H d2 w := by
  unfold VRs at g
  obtain ⟨v, r, rfl, x2, x3⟩ := g
  obtain ⟨w, rfl, x4⟩ := x3.one
  exact ⟨v, w, rfl, x2, x4⟩
theorem im_range1 {mr : AM} (hg : Gl X "range") (hm : X.mg "range" = none) (he : PA X [e] (tMa X.K W mr)) (hs : starEach [e] X.env = [(false, eval e X.env)] := by rfl) : PI X tg (.Call (.Name "range" p) [e] [] pos) (tMi X.K W (iRng mr)) :=
  (pi_range1 hg hm he hs).imp fun σ H Q o => tX.bind o fun Γ ds h1 vs ι1 H1 g1 x1 o1 => by
    obtain ⟨a, h', e1, kk⟩ := o1.fin
    simp only [rngOf] at e1
    split at e1
    · split at e1
      · rename_i j hj
        cases e1
        obtain ⟨v, rfl, x2⟩ := x1.one
        rw [vi x2]
        exact ⟨j, rfl, hj.1, hj.2, kk _ ι1 H1 g1.hr itr_rng .refl⟩
      · cases e1
    · cases e1
theorem im_range2 {mr : AM} (hg : Gl X "range") (hm : X.mg "range" = none) (he : PA X [e, e2] (tMa X.K W mr)) (hs : starEach [e, e2] X.env = [(false, eval e X.env), (false, eval e2 X.env)] := by rfl) (hs2 : starEach [e2] X.env = [(false, eval e2 X.env)] := by rfl) :
    PI X tg (.Call (.Name "range" p) [e, e2] [] pos) (tMi X.K W (iRngB mr)) :=
  (pi_range2 hg hm he hs hs2).imp fun σ H Q o => tX.bind o fun Γ ds h1 vs ι1 H1 g1 x1 o1 => by
    obtain ⟨a, h', e1, kk⟩ := o1.fin
    simp only [rngOf2] at e1
    split at e1
    · split at e1
      · rename_i i j hj
        cases e1
        obtain ⟨v, w, rfl, x2, x3⟩ := x1.two
        rw [vi x2, vi x3]
        exact ⟨i, j, rfl, ⟨hj.1.1, hj.1.2, hj.2.1, hj.2.2⟩, kk _ ι1 H1 g1.hr itr_rng .refl⟩
      · cases e1
    · cases e1
theorem im_enum {mr : AM} {elts : List Expr} {kk : Nat} {tpos : Pos} (hg : Gl X "enumerate") (hm : X.mg "enumerate" = none) (he : PA X [e] (tMa X.K W mr)) (hs : starEach [e] X.env = [(false, eval e X.env)] := by rfl) :
    PI X (.Tuple elts kk tpos) (.Call (.Name "enumerate" p) [e] [] pos) (tMi X.K W (iEnumM mr)) :=
  (pi_enum hg hm he hs).imp fun σ H Q o => tX.bind o fun Γ ds h1 vs ι1 H1 g1 x1 o1 => by
    obtain ⟨a, h', e1, kk⟩ := o1.fin
    simp only [enumOf] at e1
    split at e1
    · cases e1
      obtain ⟨v, rfl, x2⟩ := x1.one
      obtain ⟨p, vs, rfl, q1, q⟩ := live_rdL g1.hr x2 (l := none) rfl (by intro _ e; cases e)
      exact ⟨p, vs, rfl, q1, kk _ ι1 H1 g1.hr (itr_enum q) .refl⟩
    · obtain ⟨v, rfl, x2⟩ := x1.one
      rename_i n
      cases z : liveOf h1 (.ref n) with
      | none => rw [z] at e1; cases e1
      | some q =>
        rw [z] at e1; cases e1
        obtain ⟨p, vs, rfl, q1, q⟩ := live_rdL g1.hr x2 z (by intro _ e; cases e)
        exact ⟨p, vs, rfl, q1, kk _ ι1 H1 g1.hr (itr_enum q) .refl⟩
    · cases e1
theorem im_zip {mr : AM} {elts : List Expr} {kk : Nat} {tpos : Pos} (hg : Gl X "zip") (hm : X.mg "zip" = none) (he : PA X [e, e2] (tMa X.K W mr)) (hs : starEach [e, e2] X.env = (false, eval e X.env) :: starEach [e2] X.env := by rfl) (hpl : (backTo pos (starEach [e2] X.env)).any (·.1) = false := by rfl) :
    PI X (.Tuple elts kk tpos) (.Call (.Name "zip" p) [e, e2] [] pos) (tMi X.K W (iZipM mr)) :=
  (RZ.pi_zipA hg hm he hs hpl).imp fun σ H Q o => tX.bind o fun Γ ds h1 vs ι1 H1 g1 x1 o1 => by
    obtain ⟨a, h', e1, kk⟩ := o1.fin
    simp only [zipOf] at e1
    split at e1
    · cases e1
      obtain ⟨v, w, rfl, x2, x3⟩ := x1.two
      unfold VR at x2 x3
      obtain ⟨p, vs, rfl, q1, q2⟩ := x2
      obtain ⟨p2, vs2, rfl, q3, q4⟩ := x3
      exact ⟨p, p2, vs, vs2, rfl, .inr ⟨q1.sq, q3.sq, kk _ ι1 H1 g1.hr (itr_zipT fun ι' H' h' _ ex _ => ⟨⟨vs, (q1.mono ex).sq, VRs.mono ex _ _ q2⟩, vs2, (q3.mono ex).sq, VRs.mono ex _ _ q4⟩) .refl⟩⟩
    · cases e1
      obtain ⟨v, w, rfl, x2, x3⟩ := x1.two
      obtain ⟨p, vs, rfl, q1, q⟩ := live_rdL g1.hr x2 (l := none) rfl (by intro _ e; cases e)
      obtain ⟨p2, vs2, rfl, q3, q4⟩ := live_rdL g1.hr x3 (l := none) rfl (by intro _ e; cases e)
      exact ⟨p, p2, vs, vs2, rfl, .inl ⟨q1, q3, kk _ ι1 H1 g1.hr (itr_zip fun ι' H' h' g' ex lv => ⟨q ι' H' h' g' ex lv, q4 ι' H' h' g' ex lv⟩) .refl⟩⟩
    · obtain ⟨v, w, rfl, x2, x3⟩ := x1.two
      rename_i n _
      cases z : liveOf h1 (.ref n) with
      | none => rw [z] at e1; cases e1
      | some q =>
        rw [z] at e1; cases e1
        obtain ⟨p, vs, rfl, q1, q⟩ := live_rdL g1.hr x2 z (by intro _ e; cases e)
        obtain ⟨p2, vs2, rfl, q3, q4⟩ := live_rdL g1.hr x3 (l := none) rfl (by intro _ e; cases e)
        exact ⟨p, p2, vs, vs2, rfl, .inl ⟨q1, q3, kk _ ι1 H1 g1.hr (itr_zip fun ι' H' h' g' ex lv => ⟨q ι' H' h' g' ex lv, q4 ι' H' h' g' ex trivial⟩) .refl⟩⟩
    · obtain ⟨v, w, rfl, x2, x3⟩ := x1.two
      rename_i n
      cases z : liveOf h1 (.ref n) with
      | none => rw [z] at e1; cases e1
      | some q =>
        rw [z] at e1; cases e1
        obtain ⟨p, vs, rfl, q1, q⟩ := live_rdL g1.hr x2 (l := none) rfl (by intro _ e; cases e)
        obtain ⟨p2, vs2, rfl, q3, q4⟩ := live_rdL g1.hr x3 z (by intro _ e; cases e)
        exact ⟨p, p2, vs, vs2, rfl, .inl ⟨q1, q3, kk _ ι1 H1 g1.hr (itr_zip fun ι' H' h' g' ex lv => ⟨q ι' H' h' g' ex trivial, q4 ι' H' h' g' ex lv⟩) .refl⟩⟩
    · cases e1
end
end Mir
namespace Mir
open PySem L2 PySem.Spec PyProof.Rows
open Classical

/-! ## stores -/
def setD (x i v : D) (h : MH) : Option MH := match x, i with
  | .ref n, .int k => match h[n]? with
    | some (.lst xs) => (ixN xs.length k).map fun j => h.set n (.lst (xs.set j v))
    | _ => none
  | _, _ => none
def getI (x i : D) (h : MH) : Option Int := match x, i with
  | .ref n, .int k => match h[n]? with
    | some (.lst xs) => match atI xs k with
      | some (.int v) => some v
      | _ => none
    | _ => none
  | _, _ => none
/-- o[i] = e -/
def sPut (o i e : EM) : SM := fun Γ h => (e Γ h).bind fun v => (o Γ v.2).bind fun x => (i Γ x.2).bind fun y => (R.ofO (setD x.1 y.1 v.1 y.2)).bind fun h' => .ok (.nx, Γ, h')
/-- o[i] op= e, ints -/
def sPutI (f : Int → Int → Int) (o i e : EM) : SM := fun Γ h => (o Γ h).bind fun x => (i Γ x.2).bind fun y => (R.ofO (getI x.1 y.1 y.2)).bind fun a => (e Γ y.2).bind fun v => match v.1 with
  | .int b => (R.ofO (setD x.1 y.1 (.int (f a b)) v.2)).bind fun h' => .ok (.nx, Γ, h')
  | _ => .stuck
/-- name op= e, ints -/
def sAug (f : Int → Int → Int) (i : Nat) (e : EM) : SM := fun Γ h => match Γ[i]? with
  | some (some (.int a)) => (e Γ h).bind fun v => match v.1 with
    | .int b => .ok (.nx, Γ.set i (some (.int (f a b))), v.2)
    | _ => .stuck
  | _ => .stuck
/-- targets = e -/
def sAsg (g : GM) (e : EM) : SM := fun Γ h => (e Γ h).bind fun p => (R.ofO (g p.1 Γ p.2)).bind fun Γ' => .ok (.nx, Γ', p.2)
/-- a, b = x, y -/
def sPar (i j : Nat) (r : AM) : SM := fun Γ h => (r Γ h).bind fun p => match p.1 with
  | [a, b] => .ok (.nx, (Γ.set i (some a)).set j (some b), p.2)
  | _ => .stuck
section
variable {X : Cx} {W : WX} {pos tpos : Pos} {o i e tg : Expr} {mo mi me : EM} {g : GM} {sl : List Nat}
theorem set_rd {K : PySem.W.Frag} {ι : List Addr} {H : Hp} {h h' : MH} {dx di dv : D} {x y v : V} (g : HR K ι H h) (rx : VR K ι H dx x) (ri : VR K ι H di y) (rv : VR K ι H dv v) (e : setD dx di dv h = some h') :
    ∃ p vs k j, x = .ref p ∧ y = .int k ∧ H p = some (.lst vs) ∧ ixN vs.length k = some j ∧ HR K ι (upd H p (.lst (vs.set j v))) h' ∧ Ext ι H ι (upd H p (.lst (vs.set j v))) := by
  unfold setD at e
  split at e
  · rename_i n k
    split at e
    · rename_i xs hn
      cases z : ixN xs.length k with
      | none => rw [z] at e; cases e
      | some j =>
        rw [z] at e; cases e
        obtain ⟨p, vs, rfl, h1, h2, h3⟩ := ref_rd g rx hn
        refine ⟨p, vs, k, j, rfl, vi ri, h2, by rw [← h3.length]; exact z, wr_lst g h1 (h3.set j rv), .write h1⟩
    · cases e
  · cases e
theorem get_rd {K : PySem.W.Frag} {ι : List Addr} {H : Hp} {h : MH} {dx di : D} {x y : V} {a : Int} (g : HR K ι H h) (rx : VR K ι H dx x) (ri : VR K ι H di y) (e : getI dx di h = some a) :
    ∃ p vs k, x = .ref p ∧ y = .int k ∧ SqL K H p vs ∧ atI vs k = some (.int a) := by
  unfold getI at e
  split at e
  · rename_i n k
    split at e
    · rename_i xs hn
      split at e
      · rename_i v hv
        cases e
        obtain ⟨p, vs, rfl, h1, h2, h3⟩ := ref_rd g rx hn
        obtain ⟨w, q1, q2⟩ := h3.atI hv
        exact ⟨p, vs, k, rfl, vi ri, .of h2, by rw [q1, vi q2]⟩
      · cases e
    · cases e
  · cases e
theorem sm_put (he : PE X e (tM X.K W me)) (ho : PE X o (tM X.K W mo)) (hi : PE X i (tM X.K W mi)) 
    (hs : swapsWithSole [.Subscript o i tpos] e pos.line X.env = pure false := by rfl) (hw : swappedStores [.Subscript o i tpos] e X.env = pure none := by rfl)
    (h1 : (assignEach [.Subscript o i tpos] X.env).map (·.2) = [assign (.Subscript o i tpos) X.env] := by rfl)
    (ha : ∀ v, assign (.Subscript o i tpos) X.env v = (do
      let ov ← holding [v] (eval o X.env)
      let iv ← holding [v, ov] (eval i X.env)
      standAt tpos
      holding [v, ov, iv] (setItem ov iv v)
      release [v, ov, iv] []) := by intro _; rfl) : PS X (.Assign [.Subscript o i tpos] e pos) (tS X.K W (sPut mo mi me)) :=
  (ps_asg he (pg_sub ho hi set_list ha) hs hw h1).imp fun Dn σ H ⟨ι, Γ, h, gg, o⟩ => by
    refine ⟨ι, Γ, h, gg, Out.bindS o fun d0 h0 v0 ι0 H0 r0 x0 e0 o0 => ?_⟩
    refine ⟨ι0, Γ, h0, gg.to e0 r0, Out.bindS o0 fun d1 h1 v1 ι1 H1 r1 x1 e1 o1 => ?_⟩
    refine ⟨ι1, Γ, h1, gg.to (e0.trans e1) r1, Out.bindS o1 fun d2 h2 v2 ι2 H2 r2 x2 e2 o2 => ?_⟩
    cases z : setD d1 d2 d0 h2 with
    | none => rw [z] at o2; exact o2.elim
    | some h' =>
      rw [z] at o2
      obtain ⟨p, vs, k, j, rfl, rfl, q1, q2, q3, q4⟩ := set_rd r2 (VR.mono e2 _ _ x1) x2 (VR.mono (e1.trans e2) _ _ x0) z
      exact ⟨p, vs, k, j, rfl, rfl, q1, q2, o2 σ ι2 _ (gg.to (e0.trans (e1.trans (e2.trans q4))) q3) q4⟩
theorem get_listD : PGet X (rIxL X.K) := by
  intro pins s σ H o i ov iv Q I ro ri ⟨p, xs, k, v, e1, e2, hq, he, q⟩
  subst e1; subst e2
  cases ro
  obtain ⟨t, rfl⟩ := ri
  obtain ⟨its, rv, pl, hz⟩ := I.list hq
  obtain ⟨j, b1, b2, b3, b4, b5⟩ := atI_get he
  obtain ⟨w, ew, rw'⟩ := rv.get b2
  have hl := rv.length
  have hn := line63
  by_cases h0 : 0 ≤ k
  · have hj : k.toNat = j := by
      rw [seqIndex_of h0 b5] at b1
      exact Option.some.inj b1
    exact wpAny_getItem_list pl.isList h0 (by omega) (by rw [hj]; simpa using ew) ⟨v, H, I, rw', q⟩
  · have hj : (k + (its.toArray.size : Int)).toNat = j := by
      rw [seqIndex_neg (by omega) b4] at b1
      rw [List.size_toArray, ← hl]
      exact Option.some.inj b1
    exact wpAny_getItem_list_neg pl.isList (by omega) (by rw [List.size_toArray] <;> omega) (by omega) (by rw [hj]; simpa using ew) ⟨v, H, I, rw', q⟩
theorem sm_putI {op : Operator} {f : Int → Int → Int} (hp : PIp X op (ipI f)) (ho : PE X o (tM X.K W mo)) (hi : PE X i (tM X.K W mi)) (he : PE X e (tM X.K W me))
    (ha : ∀ ov iv new, augStore i ov iv new = (do holding [new, ov, iv] (setItem ov iv new); release [new, ov, iv] []; pure .next) := by intros; rfl) :
    PS X (.AugAssign (.Subscript o i tpos) op e pos) (tS X.K W (sPutI f mo mi me)) :=
  (ps_augS ho hi get_listD he hp set_list ha).imp fun Dn σ H ⟨ι, Γ, h, gg, o⟩ => by
    refine ⟨ι, Γ, h, gg, Out.bindS o fun d0 h0 v0 ι0 H0 r0 x0 e0 o0 => ?_⟩
    refine ⟨ι0, Γ, h0, gg.to e0 r0, Out.bindS o0 fun d1 h1 v1 ι1 H1 r1 x1 e1 o1 => ?_⟩
    cases z : getI d0 d1 h1 with
    | none => rw [z] at o1; exact o1.elim
    | some a =>
      rw [z] at o1
      obtain ⟨p, vs, k, rfl, rfl, q1, q2⟩ := get_rd r1 (VR.mono e1 _ _ x0) x1 z
      refine ⟨p, vs, k, _, rfl, rfl, q1, q2, ι1, Γ, h1, gg.to (e0.trans e1) r1, Out.bindS o1 fun d2 h2 v2 ι2 H2 r2 x2 e2 o2 => ?_⟩
      cases d2 with
      | int b =>
        dsimp only at o2
        refine ⟨a, b, rfl, vi x2, ?_⟩
        cases z2 : setD d0 d1 (.int (f a b)) h2 with
        | none => rw [z2] at o2; exact o2.elim
        | some h' =>
          rw [z2] at o2
          obtain ⟨p', vs', k', j, t1, t2, w1, w2, q3, q4⟩ := set_rd r2 (VR.mono (e1.trans e2) _ _ x0) (VR.mono e2 _ _ x1) vr_int z2
          cases t1; cases t2
          exact ⟨p, vs', k, j, rfl, rfl, w1, w2, o2 σ ι2 _ (gg.to (e0.trans (e1.trans (e2.trans q4))) q3) q4⟩
      | _ => exact o2.elim
theorem sm_aug {op : Operator} {f : Int → Int → Int} {k : Nat} {x : Str} (hp : PIp X op (ipI f)) (hN : X.N.Nodup) (hi : X.N[k]? = some x) (hx : Loc X.env.scope x) (he : PE X e (tM X.K W me)) (hf : X.fn x = true ∨ X.env.scope.names.lookup x = some .local := by first | exact .inl rfl | exact .inr rfl | assumption) :
    PS X (.AugAssign (.Name x tpos) op e pos) (tS X.K W (sAug f k me)) :=
  (ps_aug hN hi hx he hp hf).imp fun Dn σ H ⟨ι, Γ, h, gg, o⟩ => by
    unfold sAug at o
    split at o
    · rename_i a ha
      obtain ⟨v, q1, q2⟩ := gg.var ha
      rw [vi q2] at q1
      refine ⟨_, q1, ι, Γ, h, gg, Out.bindS o fun d2 h2 v2 ι2 H2 r2 x2 e2 o2 => ?_⟩
      cases d2 with
      | int b => exact ⟨a, b, rfl, vi x2, o2 _ ι2 H2 ((gg.to e2 r2).set vr_int k) .refl⟩
      | _ => exact o2.elim
    · exact o.elim
theorem sm_asg (he : PE X e (tM X.K W me)) (hg : PG X tg (tMg X.K sl g)) (hs : swapsWithSole [tg] e pos.line X.env = pure false := by rfl) (hw : swappedStores [tg] e X.env = pure none := by rfl)
    (h1 : (assignEach [tg] X.env).map (·.2) = [assign tg X.env] := by rfl) : PS X (.Assign [tg] e pos) (tS X.K W (sAsg g me)) :=
  (ps_asg he hg hs hw h1).imp fun Dn σ H o => tS.bind o fun Γ d h1 v ι1 H1 g1 x1 o1 => by
    cases z : g d Γ h1 with
    | none => rw [z] at o1; exact o1.elim
    | some Γ' =>
      rw [z] at o1
      exact ⟨ι1, Γ, h1, d, Γ', g1, x1, z, fun σ' g' _ _ => o1 σ' ι1 H1 g' .refl⟩
theorem sm_par {i j : Nat} {x y : Str} {a b : Expr} {mr : AM} {px py pt : Pos} {kt k2 pt2} (hc : X.calm = true) (hN : X.N.Nodup) (hi : X.N[i]? = some x) (hj : X.N[j]? = some y) (hij : i ≠ j)
    (hx : X.env.scope.names.lookup x = some .local) (hy : X.env.scope.names.lookup y = some .local) (ha : PA X [a, b] (tMa X.K W mr))
    (hw : swappedStores [.Tuple [.Name x px, .Name y py] kt pt] (.Tuple [a, b] k2 pt2) X.env = pure (some [x, y]))
    (hs : swapsWithSole [.Tuple [.Name x px, .Name y py] kt pt] (.Tuple [a, b] k2 pt2) pos.line X.env = pure false := by rfl) :
    PS X (.Assign [.Tuple [.Name x px, .Name y py] kt pt] (.Tuple [a, b] k2 pt2) pos) (tS X.K W (sPar i j mr)) :=
  (ps_par hc hN hi hj hij hx hy ha hw hs).imp fun Dn σ H o => tS.bind o fun Γ ds h1 vs ι1 H1 g1 x1 o1 => by
    dsimp only at o1
    split at o1
    · obtain ⟨v, w, rfl, x2, x3⟩ := x1.two
      exact ⟨v, w, rfl, o1 _ ι1 H1 ((g1.set x2 i).set x3 j) .refl⟩
    · exact o1.elim
/-! ## tests of three -/
def mChain (f f' : D → D → MH → Option (D × MH)) (a b c : EM) : TM := fun Γ h => (a Γ h).bind fun p => (b Γ p.2).bind fun q => (R.ofO (f p.1 q.1 q.2)).bind fun z => match z.1 with
  | .bl true => (c Γ z.2).bind fun r => R.ofO ((f' q.1 r.1 r.2).bind fun u => (asBl u.1).map fun b => (b, u.2))
  | .bl false => .ok (false, z.2)
  | _ => .stuck
theorem tm_chain {a b c : Expr} {ma mb mc : EM} {op op' : CmpOp} {f f' : D → D → MH → Option (D × MH)} (h1 : OpM X (compareOp op) f) (h2 : OpM X (compareOp op') f') (ha : PE X a (tM X.K W ma)) (hb : PE X b (tM X.K W mb)) (hc : PE X c (tM X.K W mc))
    (hm : lastMarks [op, op'] [b, c] = false := by with_unfolding_all rfl) : PT X (.Compare a [op, op'] [b, c] pos) (tMt X.K W (mChain f f' ma mb mc)) := by
  obtain ⟨t, o1, q1⟩ := h1
  obtain ⟨t', o2, q2⟩ := h2
  refine (pt_chain o1 o2 ha hb hc hm).imp fun σ H Q ⟨ι, Γ, h, gg, o⟩ => ?_
  refine ⟨ι, Γ, h, gg, Out.bind o fun d0 h0 v0 ι0 H0 r0 x0 e0 o0 => ?_⟩
  refine ⟨ι0, Γ, h0, gg.to e0 r0, Out.bind o0 fun d1 h1 v1 ι1 H1 r1 x1 e1 o1 => ?_⟩
  cases z : f d0 d1 h1 with
  | none => rw [z] at o1; exact o1.elim
  | some p =>
    obtain ⟨dz, hz⟩ := p
    rw [z] at o1
    refine q1 ι1 H1 h1 v0 v1 d0 d1 dz hz _ r1 (VR.mono e1 _ _ x0) x1 z fun v ι2 H2 r2 x2 e2 => ?_
    simp only [R.ofO_some, R.bind_ok] at o1
    split at o1
    · unfold VR at x2; subst x2
      refine ⟨true, rfl, ?_⟩
      rw [if_pos rfl]
      refine ⟨ι2, Γ, hz, gg.to (e0.trans (e1.trans e2)) r2, Out.bind (Out.mono e2 o1) fun d3 h3 v3 ι3 H3 r3 x3 e3 o3 => ?_⟩
      cases z2 : f' d1 d3 h3 with
      | none => rw [z2] at o3; exact o3.elim
      | some u =>
        obtain ⟨du, hu⟩ := u
        rw [z2] at o3
        refine q2 ι3 H3 h3 v1 v3 d1 d3 du hu _ r3 (VR.mono (e2.trans e3) _ _ x1) x3 z2 fun v ι4 H4 r4 x4 e4 => ?_
        cases du with
        | bl bb =>
          unfold VR at x4; subst x4
          exact ⟨bb, rfl, o3 bb ι4 H4 r4 rfl e4⟩
        | _ => exact o3.elim
    · unfold VR at x2; subst x2
      refine ⟨false, rfl, ?_⟩
      rw [if_neg (by decide)]
      exact ⟨false, rfl, o1 false ι2 H2 r2 rfl e2⟩
    · exact o1.elim
/-! ## no test of a comprehension -/
theorem _root_.L2.PTs.imp {es : List Expr} {t t' : TT} (g : PTs X es t) (k : ∀ σ H Q, t' σ H Q → t σ H Q) : PTs X es t' := ⟨fun pins s σ H Q I h => g.run pins s σ H Q I (k σ H Q h)⟩
theorem tms_nil : PTs X [] (tMt X.K W tTrue) := pts_nil.imp fun σ H Q ⟨ι, Γ, h, gg, o⟩ => o true ι H gg.hr rfl .refl
theorem tms_one {c : Expr} {mt : TM} (h : PT X c (tMt X.K W mt)) : PTs X [c] (tMt X.K W mt) := pts_one h
end

/-! ## str * int, tuple * int, list + list -/
def repS (s : Str) (n : Nat) : Str := ⟨(List.replicate n s.cps.toList).flatten.toArray⟩
def fRep (x y : D) (h : MH) : Option (D × MH) := match x, y with
  | .str s, .int k => if -1000000 ≤ k ∧ k ≤ 1000000 ∧ s.length * k.toNat ≤ 1000000 then some (.str (repS s k.toNat), h) else none
  | .tup xs, .int k => if xs ≠ [] ∧ 2 ≤ k ∧ k ≤ 1000 ∧ xs.length ≤ 1000 then some (.tup (List.replicate k.toNat xs).flatten, h) else none
  | _, _ => none
theorem repS_arr (a : Array Nat) : ∀ (n : Nat) (acc : Array Nat), (List.replicate n a).foldl (· ++ ·) acc = acc ++ (List.replicate n a.toList).flatten.toArray
  | 0, acc => by simp
  | n + 1, acc => by
    rw [List.replicate_succ, List.foldl_cons, repS_arr a n, List.replicate_succ, List.flatten_cons]
    rw [Array.append_assoc]
    congr 1
    simp
def rRepS : R2 := fun x y H Q => ∃ s k, x = .str s ∧ y = .int k ∧ (-1000000 ≤ k ∧ k ≤ 1000000 ∧ s.length * k.toNat ≤ 1000000) ∧ Q (.str (repS s k.toNat)) H
section
variable {X : Cx} {W : WX} {pos : Pos}
theorem op_repS : OpR X (binaryOp .Mult) rRepS := by
  intro pins st σ H x y v u Q I rx ry h
  obtain ⟨s, k, rfl, rfl, ⟨h1, h2, h3⟩, q⟩ := h
  obtain ⟨t, rfl⟩ := rx
  obtain ⟨t', rfl⟩ := ry
  have key : (List.replicate k.toNat s.cps).foldl (· ++ ·) #[] = (repS s k.toNat).cps := by
    rw [repS_arr, Array.empty_append]; rfl
  have hlen : (repS s k.toNat).cps.size = s.length * k.toNat := by
    show ((List.replicate k.toNat s.cps.toList).flatten.toArray).size = _
    rw [List.size_toArray, lm_len_rep_flat, Nat.mul_comm]; rfl
  have line : (1000000 : Nat) ≤ sizeLine := by decide
  refine PySem.P.mul_str ?_ (fun a b => ?_) (fun a b => ?_) ?_
  · rw [decide_eq_false (by omega), decide_eq_false (by omega)]; rfl
  · have hk : (0 : Int) < k := by omega
    have h4 : ((s.length : Nat) : Int) * k ≤ 1000000 := by
      have e : ((k.toNat : Nat) : Int) = k := Int.toNat_of_nonneg (by omega)
      rw [← e, ← Int.natCast_mul]
      exact Int.ofNat_le.mpr h3
    have h5 : ((s.length : Nat) : Int) ≤ (2 ^ 63 - 1) / k := (Int.le_ediv_iff_mul_le hk).mpr (Int.le_trans h4 (by decide))
    exact Int.not_lt.mpr h5
  · unfold Builtin.Str.tooLong
    rw [decide_eq_false (by omega)]
  · split
    · have e : repS s k.toNat = Str.empty := by
        have : k.toNat = 0 := by omega
        rw [this]; rfl
      rw [e] at q
      exact ⟨by decide, .str Str.empty, H, I.tok _, ⟨_, rfl⟩, q⟩
    · split
      · rename_i hk hz
        have e : repS s k.toNat = s := by
          rcases (by simpa using hz : k = 1 ∨ s.length = 0) with rfl | e0
          · simp [repS]
          · have : s.cps = #[] := Array.eq_empty_of_size_eq_zero e0
            cases s with
            | mk c => 
              have : c = #[] := this
              subst this
              simp [repS]
        rw [e] at q
        exact ⟨.str s, H, I, ⟨_, rfl⟩, q⟩
      · rw [key]
        exact ⟨by show (repS s k.toNat).cps.size ≤ sizeLine; omega, .str (repS s k.toNat), H, I.tok _, ⟨_, rfl⟩, q⟩
theorem opm_rep : OpM X (binaryOp .Mult) fRep := by
  refine ⟨_, op_repS.or op_repT, fun ι H h x y dx dy d h' Q r1 r2 r3 e k => ?_⟩
  unfold fRep at e
  split at e
  · split at e
    · rename_i hh
      cases e
      rw [vs_ r2, vi r3]
      exact .inl ⟨_, _, rfl, rfl, hh, k _ ι H r1 vr_str .refl⟩
    · cases e
  · split at e
    · rename_i xs i hh
      cases e
      rw [vi r3]
      unfold VR at r2
      obtain ⟨p, vs, rfl, q1, q2⟩ := r2
      have hl := q2.length
      refine .inr ⟨p, i, vs, rfl, rfl, q1.sq, fun e0 => ?_, hh.2.1, hh.2.2.1, by omega, fun q nq => k _ ι _ (r1.laid nq) (vr_tup r1 nq ?_) (.laid nq)⟩
      · subst e0; exact hh.1 (List.eq_nil_of_length_eq_zero hl)
      · have go : ∀ n : Nat, VRs X.K ι H (List.replicate n xs).flatten (List.replicate n vs).flatten := fun n => by
          induction n with
          | zero => exact .nil
          | succ n ih => rw [List.replicate_succ, List.replicate_succ, List.flatten_cons, List.flatten_cons]; exact q2.append ih
        exact go _
    · cases e
  · cases e
def rCatL (K : PySem.W.Frag) : R2 := fun x y H Q => ∃ a b xs zs, x = .ref a ∧ y = .ref b ∧ SqL K H a xs ∧ SqL K H b zs ∧ xs.length + zs.length ≤ sizeLine ∧ ∀ p, H p = none → Q (.ref p) (upd H p (.lst (xs ++ zs)))
theorem op_catL : OpR X (binaryOp .Add) (rCatL X.K) := by
  intro pins s σ H x y v u Q I rx ry h
  obtain ⟨a, b, xs, zs, rfl, rfl, ha, hb, hz, q⟩ := h
  cases rx
  cases ry
  obtain ⟨its, r1, ⟨o1, n1, g1, c1, k1, f1⟩, _⟩ := I.list ha
  obtain ⟨its2, r2, ⟨o2, n2, g2, c2, k2, f2⟩, _⟩ := I.list hb
  obtain ⟨cls, dd, data, sl⟩ := o1
  obtain ⟨cls2, dd2, data2, sl2⟩ := o2
  simp only at c1 k1 f1 c2 k2 f2
  subst c1; subst f1; subst c2; subst f2
  have l1 := r1.length
  have l2 := r2.length
  refine concat_meets ⟨_, g1, rfl⟩ ⟨_, g2, rfl⟩ noFill_list_add seq_list_add PySem.F.slot_list_add PySem.F.entry_list_add (PySem.F.args_list_add_2 _ _)
    (list_addW a b its.toArray its2.toArray n1 n2 dd dd2 sl sl2 (by rw [List.size_toArray, List.size_toArray]; omega)) ⟨g1, g2, ?_⟩
  have ea : its.toArray ++ its2.toArray = (its ++ its2).toArray := by simp
  rw [ea]
  exact ⟨.ref _, _, I.lnew (t' := s.toks) (r1.append r2) (by rw [List.length_append]; omega), rfl, q _ I.fresh⟩
/-- a new list -/
def mCat (a b : EM) : AM := fun Γ h => (a Γ h).bind fun p => (b Γ p.2).bind fun q => match lstOf q.2 p.1, lstOf q.2 q.1 with
  | some xs, some ys => R.ofO (if xs.length + ys.length ≤ 1000000 then some (xs ++ ys, q.2) else none)
  | _, _ => .stuck
theorem fm_cat {a b : Expr} {ma mb : EM} (ha : PE X a (tM X.K W ma)) (hb : PE X b (tM X.K W mb)) : PE X (.BinOp a .Add b pos) (tMf X.K W (mCat ma mb)) :=
  (pe_op op_catL ha hb).imp fun σ H Q ⟨ι, Γ, h, gg, o⟩ => by
    refine ⟨ι, Γ, h, gg, Out.bind o fun d1 h1 v1 ι1 H1 r1 x1 e1 o1 => ?_⟩
    refine ⟨ι1, Γ, h1, gg.to e1 r1, Out.bind o1 fun d2 h2 v2 ι2 H2 r2 x2 e2 o2 => ?_⟩
    dsimp only at o2
    split at o2
    · rename_i xs ys hx hy
      split at o2
      · rename_i hl
        obtain ⟨p, vs, rfl, q1, q2⟩ := lst_rd r2 (VR.mono e2 _ _ x1) hx
        obtain ⟨p2, vs2, rfl, q3, q4⟩ := lst_rd r2 x2 hy
        exact ⟨p, p2, vs, vs2, rfl, rfl, q1, q3, sz6 (by rw [← q2.length, ← q4.length]; exact hl), fun p np => o2 _ ι2 H2 r2 (q2.append q4) .refl p np⟩
      · exact o2.elim
    · exact o2.elim
end
end Mir
namespace Mir
open PySem L2 PySem.Spec PyProof.Rows
open Classical

/-! ## short words for the derivations -/
/-- the module's def x keeps the promise s -/
def HasF (P : Program) (w : World) (K : PySem.W.Frag) (mg : Str → Option Value) (base : Heap) (k : Nat) (x : Str) (n : Nat) (s : FM) : Prop :=
  ∃ (f : Addr) (fd : FuncData) (ps : List Str), FnOk P w K mg base (L2.CX P w) k f fd ps (spM K n s) ∧ mg x = some (.ref f) ∧ PySem.W.keepIn K (.ref f) = true ∧ Binds K fd ps []
/-- the module's name x stands for d -/
def HasC (K : PySem.W.Frag) (mg : Str → Option Value) (x : Str) (d : D) : Prop := ∃ (u : Value) (v : V), mg x = some u ∧ RelV v u ∧ ∀ ι H, VR K ι H d v
theorem HasF.tells {P : Program} {w : World} {K : PySem.W.Frag} {mg : Str → Option Value} {base : Heap} {k n : Nat} {x : Str} {s s' : FM} (F : HasF P w K mg base k x n s) (t : ∀ ds h, ds.length = n → Tells h (s ds h) (s' ds h)) : HasF P w K mg base k x n s' := by
  obtain ⟨f, fd, ps, h1, h2⟩ := F
  exact ⟨f, fd, ps, fn_tells h1 t, h2⟩
section
variable {X : Cx} {W : WX} {k k' : Nat} {n : Nat} {s : FM} {x : Str} {p pos : Pos} {e : Expr} {es : List Expr} {ma : AM}
theorem pm_callF (F : HasF X.prog X.w X.K X.mg X.base k x n s) (hr : Room k' X.A) (hk : k ≤ k') (tk : Takes X W) (ha : PA X (e :: es) (tMa X.K W ma)) (hlen : ∀ Γ h q, ma Γ h = .ok q → q.1.length = n)
    (hl : (e :: es).length = n := by rfl) (hg : Gl X x := by rfl) (hdb : (x == ("__debug__" : Str)) = false := by decide) (he : starEach (e :: es) X.env = (false, eval e X.env) :: starEach es X.env := by rfl) (hpl : (backTo pos (starEach es X.env)).any (·.1) = false := by rfl) :
    PE X (.Call (.Name x p) (e :: es) [] pos) (tM X.K W (mCall s ma)) := by
  obtain ⟨f, fd, ps, h1, h2, h3, h4⟩ := F
  exact pm_call h1 (hr.mono hk) tk h2 h3 h4 ha hl hg hdb he hpl hlen
theorem pm_glob {d : D} (c : HasC X.K X.mg x d) (hg : Gl X x := by rfl) (hd : (x == ("__debug__" : Str)) = false := by decide) : PE X (.Name x pos) (tM X.K W (mC d)) := by
  obtain ⟨u, v, h1, h2, h3⟩ := c
  exact pm_c (pe_glob hg h1 h2 hd) h3
end
section
variable {X : Cx} {W : WX} {pos : Pos} {tg iter elt : Expr} {ifs : List Expr} {scope : Scope} {own : List (Str × Nat)} {im : IM} {g : GM} {mt : TM} {me : EM} {sl : List Nat}
theorem sm_setCompF {i : Nat} {y : Str} {py spos : Pos} (hc : X.calm = true) (hN : X.N.Nodup) (hy : X.N[i]? = some y) (hyl : X.env.scope.names.lookup y = some .local)
    (hsw : swapsWith (.ListComp elt [⟨tg, iter, ifs, 0⟩] scope pos) (some (.Name y py)) spos.line X.env = pure true) (hi : PI X tg iter (tMi X.K W im)) (ok : BlkOk X.N X.env.scope scope own)
    (hg : ∀ (s : Shared) (H : Hp) (C : Addr) (cl : List (Str × Addr)) (fp : List Addr), PG (X.blk s H scope (compEnvC scope cl C X.env) fp) tg (tMg X.K sl g)) (ht : ∀ (s : Shared) (H : Hp) (C : Addr) (cl : List (Str × Addr)) (fp : List Addr), PTs (X.blk s H scope (compEnvC scope cl C X.env) fp) ifs (tMt X.K W0 mt))
    (he : ∀ (s : Shared) (H : Hp) (C : Addr) (cl : List (Str × Addr)) (fp : List Addr), PE (X.blk s H scope (compEnvC scope cl C X.env) fp) elt (tM X.K W0 me)) (hsl : ∀ i ∈ sl, i ∈ own.map (·.2)) (hs : ∀ x, foldedSetIterable iter X.env x = pure x := by intro _; rfl) :
    PS X (.Assign [.Name y py] (.ListComp elt [⟨tg, iter, ifs, 0⟩] scope pos) spos) (tS X.K W (sSet i (mFrz (mCompN im g mt me (own.map (·.2)))))) :=
  (ps_setLc hc hN hy hyl hsw hi ok hg ht he hs).imp fun Dn σ H o => lc_go hsl (frz_go (tS.bind (m := mFrz (mCompN im g mt me (own.map (·.2)))) (Q1 := fun x H1 => gName i x σ H1 Dn.nx) o fun Γ d h1 v ι1 H1 g1 x1 o1 => o1 _ ι1 H1 (g1.set x1 i) .refl))
end
end Mir
set_option maxHeartbeats 1000000
namespace Mir
open PySem L2 PySem.Spec PyProof.Rows
open Classical

/-! ## for pair in zip(t, u): tuples, the pair kept whole -/
/-- a zip object, whatever it knows of the pair that it gave last -/
abbrev Zp (h : Heap) (z ti to' : Addr) (v : Value) (f : Bool) : Prop := h.get? z = some { cls := .type "zip", dict := none, data := .fields #[v, .bool f, .bool false, .ref ti, .ref to'], slots := #[] }
def LastOk (v : Value) : Prop := v = .none ∨ ∃ T : Addr, v = rawInt T
section
variable {prog : Program} {w : World} {A : Around} {E : Value → Shared → Prop} {s : Shared} {z ti to' j1 j2 a1 a2 : Addr} {v u0 u1 : Value} {f : Bool} {n1 n2 : Nat} {xs ys : Array Value}
theorem zp_free {Q : Bool → Shared → Prop} (hz : Zp s.heap z ti to' v f) (hv : LastOk v) (h : ∀ b h' f', Zp h' z ti to' v f' → Heap.SameBut z s.heap h' → Q b { s with heap := h' }) :
    wpAny (model prog w) A (Builtin.SmallTypes.ownedTupleIsFree (.ref z)) Q E s := by
  unfold Builtin.SmallTypes.ownedTupleIsFree
  refine wpAny_bind (wpAny_field hz rfl (x := v) rfl ?_)
  rcases hv with rfl | ⟨T, rfl⟩
  · exact wpAny_pure (h true s.heap f hz (.refl _ _))
  · have alive : ∀ (q : Option Obj → Shared → Prop), (∀ o, q o s) → wpAny (model prog w) A (loadIfAlive ((T : Int).toNat)) q E s := fun q k => fun _ _ _ => k _
    show wpAny _ _ (loadIfAlive ((T : Int).toNat) >>= _) _ _ _
    refine wpAny_bind (alive _ fun o => ?_)
    cases o with
    | none => exact wpAny_pure (h true s.heap f hz (.refl _ _))
    | some o =>
      simp only [Option.isNone_some, Bool.false_eq_true, if_false]
      refine wpAny_bind (wpAny_field hz rfl (x := .bool f) rfl ?_)
      cases f
      · rw [if_pos (show (Value.bool false != Value.bool true) = true from rfl)]
        exact wpAny_bind (wpAny_setField_rec hz (by simp) fun h1 g1 e1 => wpAny_pure (h false h1 true g1 e1))
      · rw [if_neg (show ¬ ((Value.bool true != Value.bool true) = true) from Bool.false_ne_true)]
        exact wpAny_pure (h false s.heap true hz (.refl _ _))
theorem it_but {h h' : Heap} {a j l : Addr} {n : Nat} (hit : h.IsTupleIter j l n) (e : Heap.SameBut a h h') (ne : j ≠ a) : h'.IsTupleIter j l n := hit.extBut e.extBut ne
theorem tp_but {h h' : Heap} {a l : Addr} {its : Array Value} (hl : h.IsTuple l its) (e : Heap.SameBut a h h') (ne : l ≠ a) : h'.IsTuple l its := hl.extBut e.extBut ne
theorem get_but {h h' : Heap} {a b : Addr} {o : Obj} (e : Heap.SameBut a h h') (ne : b ≠ a) (g : h.get? b = some o) : h'.get? b = some o := (e.2 b ne).trans g
/-- what is known behind a turn -/
structure ZpNext (h h' : Heap) (z ti to' j1 j2 a1 a2 : Addr) (m1 m2 : Nat) (x y : Value) : Prop where
  zp : ∃ v f, Zp h' z ti to' v f ∧ LastOk v
  own : ∃ a b, IsPair h' to' a b
  i1 : h'.IsTupleIter j1 a1 m1
  i2 : h'.IsTupleIter j2 a2 m2
  new : IsPair h' h.objs.size x y
  size : h'.objs.size = h.objs.size + 1
  keep : ∀ c o, c ≠ z → c ≠ to' → c ≠ j1 → c ≠ j2 → h.get? c = some o → h'.get? c = some o
theorem zp_item {x y : Value} {Q : Value → Shared → Prop} (D : ZipApart z ti to' j1 j2 a1 a2) (hz : Zp s.heap z ti to' v f) (hv : LastOk v) (hti : IsPair s.heap ti (.ref j1) (.ref j2)) (hto : IsPair s.heap to' u0 u1)
    (h1 : s.heap.IsTupleIter j1 a1 n1) (h2 : s.heap.IsTupleIter j2 a2 n2) (l1 : s.heap.IsTuple a1 xs) (l2 : s.heap.IsTuple a2 ys) (hx : xs[n1]? = some x) (hy : ys[n2]? = some y)
    (hQ : ∀ h', ZpNext s.heap h' z ti to' j1 j2 a1 a2 (n1 + 1) (n2 + 1) x y → Q (.ref s.heap.objs.size) { s with heap := h' }) :
    wpAny (model prog w) A (Builtin.«zip.__next__» ⟨[.ref z], []⟩) (fun r s' => ∃ v, r = .done (.ret v) ∧ Q v s') E s := by
  show wpAny _ _ (field (.ref z) 2 >>= _) _ _ _
  refine wpAny_bind (wpAny_field hz rfl (x := .bool false) rfl ?_)
  show wpAny _ _ (field (.ref z) 3 >>= _) _ _ _
  refine wpAny_bind (wpAny_field hz rfl (x := .ref ti) rfl ?_)
  refine wpAny_bind (wpAny_seqItems hti rfl ?_)
  show wpAny _ _ (Builtin.SmallTypes.ownedTupleIsFree (.ref z) >>= _) _ _ _
  refine wpAny_bind (zp_free hz hv fun b g f' hz e0 => ?_)
  have h1 := it_but h1 e0 D.i1z
  have h2 := it_but h2 e0 D.i2z
  have l1 := tp_but l1 e0 D.l1z
  have l2 := tp_but l2 e0 D.l2z
  cases b
  · -- the pair is out: a new one
    simp only [Bool.false_eq_true, if_false]
    refine wpAny_bind ?_
    rw [← Array.forIn_toList]
    simp only [List.forIn_cons, List.forIn_nil]
    refine wpAny_bind (wpAny_bind (wpAny_holding ?_))
    show wpAny _ _ (Builtin.SmallTypes.nextOf (.ref j1) >>= _) _ _ _
    refine wpAny_bind (RZ.nextOf_tuple_item (s := { s with heap := g }) h1 l1 hx fun g2 k1 e1 => wpAny_pure (wpAny_pure ?_))
    refine wpAny_bind (wpAny_bind (wpAny_holding ?_))
    show wpAny _ _ (Builtin.SmallTypes.nextOf (.ref j2) >>= _) _ _ _
    refine wpAny_bind (RZ.nextOf_tuple_item (s := { s with heap := g2 }) (it_but h2 e1 D.i12.symm) (tp_but l2 e1 D.l2i1) hy fun g3 k2 e2 => wpAny_pure (wpAny_pure (wpAny_pure ?_)))
    show wpAny _ _ (newTuple [x, y] >>= _) _ _ _
    refine wpAny_bind (wpAny_newTuple (wpAny_pure ⟨_, rfl, ?_⟩))
    have sz : g3.objs.size = s.heap.objs.size := by rw [e2.1, e1.1, e0.1]
    have old : ∀ {c o}, c ≠ j1 → c ≠ j2 → g.get? c = some o → (g3.push { cls := .type "tuple", data := .seq #[x, y] }).get? c = some o := fun c1 c2 q => Heap.get?_push_of_some _ (get_but e2 c2 (get_but e1 c1 q))
    show Q (.ref g3.objs.size) _
    rw [sz]
    refine hQ _ ⟨⟨_, _, old D.i1z.symm D.i2z.symm hz, hv⟩, ⟨_, _, old D.TOi1 D.TOi2 (get_but e0 D.TOz hto)⟩, (it_but k1 e2 D.i12).at fun o q => Heap.get?_push_of_some _ q, k2.at fun o q => Heap.get?_push_of_some _ q, ?_, ?_, fun c o c1 _ c3 c4 q => old c3 c4 (get_but e0 c1 q)⟩
    · rw [← sz]; exact Heap.get?_push_size _ rfl
    · rw [Heap.size_push, sz]
  · -- its own pair again
    simp only [if_true]
    refine wpAny_bind (wpAny_rule ?_)
    refine wpAny_bind (wpAny_field hz rfl (x := .ref to') rfl ?_)
    refine wpAny_bind (wpAny_setField_rec hz (by simp) fun g1 q1 d1 => ?_)
    have q1 : Zp g1 z ti to' .ellipsis f' := q1
    refine wpAny_bind ?_
    simp only [List.zipIdx_cons, List.zipIdx_nil, List.forIn_cons, List.forIn_nil]
    refine wpAny_bind (wpAny_bind (wpAny_onRaise ?_))
    show wpAny _ _ (Builtin.SmallTypes.nextOf (.ref j1) >>= _) _ _ _
    refine wpAny_bind (RZ.nextOf_tuple_item (s := { s with heap := g1 }) (it_but h1 d1 D.i1z) (tp_but l1 d1 D.l1z) hx fun g2 k1 d2 => wpAny_pure ?_)
    have p2 : IsPair g2 to' u0 u1 := get_but d2 D.TOi1 (get_but d1 D.TOz (get_but e0 D.TOz hto))
    refine wpAny_bind (wpAny_seqItems p2 rfl (wpAny_bind (wpAny_updateSeq_pair p2 fun g3 p3 d3 => ?_)))
    have p3 : IsPair g3 to' x u1 := p3
    refine wpAny_bind (wpAny_letGo (wpAny_pure ?_))
    refine wpAny_bind (wpAny_bind (wpAny_onRaise ?_))
    show wpAny _ _ (Builtin.SmallTypes.nextOf (.ref j2) >>= _) _ _ _
    refine wpAny_bind (RZ.nextOf_tuple_item (s := { s with heap := g3 }) (it_but (it_but (it_but h2 d1 D.i2z) d2 D.i12.symm) d3 D.TOi2.symm) (tp_but (tp_but (tp_but l2 d1 D.l2z) d2 D.l2i1) d3 D.l2TO) hy fun g4 k2 d4 => wpAny_pure ?_)
    have p4 : IsPair g4 to' x u1 := get_but d4 D.TOi2 p3
    refine wpAny_bind (wpAny_seqItems p4 rfl (wpAny_bind (wpAny_updateSeq_pair p4 fun g5 p5 d5 => ?_)))
    have p5 : IsPair g5 to' x y := p5
    refine wpAny_bind (wpAny_letGo (wpAny_pure (wpAny_pure ?_)))
    refine wpAny_bind (wpAny_seqItems p5 rfl (wpAny_bind (wpAny_newTuple ?_)))
    have sz : g5.objs.size = s.heap.objs.size := by rw [d5.1, d4.1, d3.1, d2.1, d1.1, e0.1]
    have q5 : Zp g5 z ti to' .ellipsis f' := get_but d5 D.TOz.symm (get_but d4 D.i2z.symm (get_but d3 D.TOz.symm (get_but d2 D.i1z.symm q1)))
    have k1' : g5.IsTupleIter j1 a1 (n1 + 1) := it_but (it_but (it_but k1 d3 D.TOi1.symm) d4 D.i12) d5 D.TOi1.symm
    have k2' : g5.IsTupleIter j2 a2 (n2 + 1) := it_but k2 d5 D.TOi2.symm
    have zl : z < g5.objs.size := Heap.lt_size q5
    show wpAny _ _ (Builtin.SmallTypes.ownedTupleHandOut (.ref z) (.ref g5.objs.size) >>= _) _ _ _
    refine wpAny_bind ?_
    unfold Builtin.SmallTypes.ownedTupleHandOut
    have q6 : Zp (g5.push { cls := .type "tuple", data := .seq #[x, y] }) z ti to' .ellipsis f' := Heap.get?_push_of_some _ q5
    refine wpAny_bind (wpAny_setField_rec q6 (by simp) fun g7 q7 d7 => ?_)
    have q7 : Zp g7 z ti to' (rawInt g5.objs.size) f' := q7
    refine wpAny_setField_rec q7 (by simp) fun g8 q8 d8 => wpAny_pure ⟨_, rfl, ?_⟩
    have q8 : Zp g8 z ti to' (rawInt g5.objs.size) false := q8
    have old : ∀ {c o}, c ≠ z → g5.get? c = some o → g8.get? c = some o := fun c1 q => get_but d8 c1 (get_but d7 c1 (Heap.get?_push_of_some _ q))
    have lt1 : j1 ≠ z := D.i1z
    show Q (.ref g5.objs.size) _
    rw [sz]
    refine hQ _ ⟨⟨_, _, q8, .inr ⟨_, rfl⟩⟩, ⟨_, _, old D.TOz p5⟩, k1'.at fun o q => old D.i1z q, k2'.at fun o q => old D.i2z q, ?_, ?_, fun c o c1 c2 c3 c4 q => old c1 (get_but d5 c2 (get_but d4 c4 (get_but d3 c2 (get_but d2 c3 (get_but d1 c1 (get_but e0 c1 q))))))⟩
    · rw [← sz]
      exact get_but d8 (Nat.ne_of_gt zl) (get_but d7 (Nat.ne_of_gt zl) (Heap.get?_push_size _ rfl))
    · rw [d8.1, d7.1, Heap.size_push, sz]
theorem zp_end {Q : Fin → Shared → Prop} (hh : A.handled = none) (D : ZipApart z ti to' j1 j2 a1 a2) (hz : Zp s.heap z ti to' v f) (hv : LastOk v) (hti : IsPair s.heap ti (.ref j1) (.ref j2)) (hto : IsPair s.heap to' u0 u1)
    (h1 : s.heap.IsTupleIter j1 a1 n1) (h2 : s.heap.IsTupleIter j2 a2 n2) (l1 : s.heap.IsTuple a1 xs) (l2 : s.heap.IsTuple a2 ys) (hn : xs[n1]? = none ∨ ys[n2]? = none)
    (hE : ∀ h' e, (∀ c o, c ≠ z → c ≠ to' → c ≠ j1 → c ≠ j2 → s.heap.get? c = some o → h'.get? c = some o) → (∃ o, h'.get? e = some o ∧ o.cls = .type "StopIteration") → E (.ref e) { s with heap := h' }) :
    wpAny (model prog w) A (Builtin.«zip.__next__» ⟨[.ref z], []⟩) Q E s := by
  show wpAny _ _ (field (.ref z) 2 >>= _) _ _ _
  refine wpAny_bind (wpAny_field hz rfl (x := .bool false) rfl ?_)
  show wpAny _ _ (field (.ref z) 3 >>= _) _ _ _
  refine wpAny_bind (wpAny_field hz rfl (x := .ref ti) rfl ?_)
  refine wpAny_bind (wpAny_seqItems hti rfl ?_)
  show wpAny _ _ (Builtin.SmallTypes.ownedTupleIsFree (.ref z) >>= _) _ _ _
  refine wpAny_bind (zp_free hz hv fun b g f' hz e0 => ?_)
  have h1 := it_but h1 e0 D.i1z
  have h2 := it_but h2 e0 D.i2z
  have l1 := tp_but l1 e0 D.l1z
  have l2 := tp_but l2 e0 D.l2z
  cases b
  · simp only [Bool.false_eq_true, if_false]
    refine wpAny_bind ?_
    rw [← Array.forIn_toList]
    simp only [List.forIn_cons, List.forIn_nil]
    refine wpAny_bind (wpAny_bind (wpAny_holding ?_))
    show wpAny _ _ (Builtin.SmallTypes.nextOf (.ref j1) >>= _) _ _ _
    cases hx : xs[n1]? with
    | none => exact wpAny_bind (RZ.nextOf_tuple_end (s := { s with heap := g }) hh h1 l1 hx fun g2 e d2 he => hE g2 e (fun c o c1 _ c3 _ q => d2 _ _ c3 (get_but e0 c1 q)) he)
    | some x =>
      have hy : ys[n2]? = none := hn.resolve_left (by rw [hx]; intro q; cases q)
      refine wpAny_bind (RZ.nextOf_tuple_item (s := { s with heap := g }) h1 l1 hx fun g2 k1 d2 => wpAny_pure (wpAny_pure ?_))
      refine wpAny_bind (wpAny_bind (wpAny_holding ?_))
      show wpAny _ _ (Builtin.SmallTypes.nextOf (.ref j2) >>= _) _ _ _
      exact wpAny_bind (RZ.nextOf_tuple_end (s := { s with heap := g2 }) hh (it_but h2 d2 D.i12.symm) (tp_but l2 d2 D.l2i1) hy fun g3 e d3 he => hE g3 e (fun c o c1 _ c3 c4 q => d3 _ _ c4 (get_but d2 c3 (get_but e0 c1 q))) he)
  · simp only [if_true]
    refine wpAny_bind (wpAny_rule ?_)
    refine wpAny_bind (wpAny_field hz rfl (x := .ref to') rfl ?_)
    refine wpAny_bind (wpAny_setField_rec hz (by simp) fun g1 q1 d1 => ?_)
    have q1 : Zp g1 z ti to' .ellipsis f' := q1
    refine wpAny_bind ?_
    simp only [List.zipIdx_cons, List.zipIdx_nil, List.forIn_cons, List.forIn_nil]
    refine wpAny_bind (wpAny_bind (wpAny_onRaise ?_))
    show wpAny _ _ (Builtin.SmallTypes.nextOf (.ref j1) >>= _) _ _ _
    have fin : ∀ (g2 : Heap) (e : Addr), Zp g2 z ti to' .ellipsis f' → (∀ c o, c ≠ z → c ≠ to' → c ≠ j1 → c ≠ j2 → s.heap.get? c = some o → g2.get? c = some o) → (∃ o, g2.get? e = some o ∧ o.cls = .type "StopIteration") →
        wpAny (model prog w) A (setField (.ref z) 0 .none) (fun _ s' => E (.ref e) s') E { s with heap := g2 } := fun g2 e q2 k ⟨oe, ho, hc⟩ => by
      have ne : e ≠ z := fun q => by
        subst q
        rw [q2] at ho
        cases ho
        simp at hc
      exact wpAny_setField_rec q2 (by simp) fun g3 _ d3 => hE g3 e (fun c o c1 c2 c3 c4 q => get_but d3 c1 (k c o c1 c2 c3 c4 q)) ⟨oe, get_but d3 ne ho, hc⟩
    cases hx : xs[n1]? with
    | none =>
      refine wpAny_bind (RZ.nextOf_tuple_end (s := { s with heap := g1 }) hh (it_but h1 d1 D.i1z) (tp_but l1 d1 D.l1z) hx fun g2 e d2 he => ?_)
      exact fin g2 e (d2 _ _ D.i1z.symm q1) (fun c o c1 _ c3 _ q => d2 _ _ c3 (get_but d1 c1 (get_but e0 c1 q))) he
    | some x =>
      have hy : ys[n2]? = none := hn.resolve_left (by rw [hx]; intro q; cases q)
      refine wpAny_bind (RZ.nextOf_tuple_item (s := { s with heap := g1 }) (it_but h1 d1 D.i1z) (tp_but l1 d1 D.l1z) hx fun g2 k1 d2 => wpAny_pure ?_)
      have p2 : IsPair g2 to' u0 u1 := get_but d2 D.TOi1 (get_but d1 D.TOz (get_but e0 D.TOz hto))
      refine wpAny_bind (wpAny_seqItems p2 rfl (wpAny_bind (wpAny_updateSeq_pair p2 fun g3 p3 d3 => ?_)))
      refine wpAny_bind (wpAny_letGo (wpAny_pure ?_))
      refine wpAny_bind (wpAny_bind (wpAny_onRaise ?_))
      show wpAny _ _ (Builtin.SmallTypes.nextOf (.ref j2) >>= _) _ _ _
      refine wpAny_bind (RZ.nextOf_tuple_end (s := { s with heap := g3 }) hh (it_but (it_but (it_but h2 d1 D.i2z) d2 D.i12.symm) d3 D.TOi2.symm) (tp_but (tp_but (tp_but l2 d1 D.l2z) d2 D.l2i1) d3 D.l2TO) hy fun g4 e d4 he => ?_)
      exact fin g4 e (d4 _ _ D.i2z.symm (get_but d3 D.TOz.symm (get_but d2 D.i1z.symm q1))) (fun c o c1 c2 c3 c4 q => d4 _ _ c4 (get_but d3 c2 (get_but d2 c3 (get_but d1 c1 (get_but e0 c1 q))))) he
end
section
variable {X : Cx} {W : WX} {e e2 : Expr} {p pos : Pos} {nm : Str}
theorem turn_zipN {P : Program} {w : World} {K : PySem.W.Frag} {a b z ti to' j1 j2 : Addr} (D : ZipApart z ti to' j1 j2 a b) :
    Turn P w K (.Name nm pos) (RZ.ItzT K a b) [z, ti, to', j1, j2] z (fun i h => (∃ v f, Zp h z ti to' v f ∧ LastOk v) ∧ IsPair h ti (.ref j1) (.ref j2) ∧ (∃ x y, IsPair h to' x y) ∧ h.IsTupleIter j1 a i ∧ h.IsTupleIter j2 b i) where
  mem := List.mem_cons_self
  obj := fun i h ⟨⟨v, f, hz, _⟩, hti, ⟨x, y, hto⟩, ⟨o1, e1, _, d1⟩, ⟨o2, e2, _, d2⟩⟩ c hc => by
    simp only [List.mem_cons, List.not_mem_nil, or_false] at hc
    rcases hc with rfl | rfl | rfl | rfl | rfl
    · exact ⟨_, hz, fun _ q => nomatch q⟩
    · exact ⟨_, hti, fun _ q => nomatch q⟩
    · exact ⟨_, hto, fun _ q => nomatch q⟩
    · exact ⟨o1, e1, fun _ q => by rw [d1] at q; cases q⟩
    · exact ⟨o2, e2, fun _ q => by rw [d2] at q; cases q⟩
  keep := fun i h h' ⟨⟨v, f, hz, hv⟩, hti, ⟨x, y, hto⟩, h1, h2⟩ k =>
    ⟨⟨v, f, k _ (by simp) _ hz, hv⟩, k _ (by simp) _ hti, ⟨x, y, k _ (by simp) _ hto⟩, h1.at fun o q => k _ (by simp) o q, h2.at fun o q => k _ (by simp) o q⟩
  item := by
    intro X hP hw hK hc i pins s σ H E I hf ⟨⟨v, f, hz, hv⟩, hti, ⟨x0, y0, hto⟩, h1, h2⟩ ⟨xs, ys, x, y, qx, qy, gx, gy⟩
    subst hP hw hK
    obtain ⟨its, rv, tp, _⟩ := I.tuple qx
    obtain ⟨its2, rv2, tp2, _⟩ := I.tuple qy
    obtain ⟨u, hu, ru⟩ := rv.get gx
    obtain ⟨u2, hu2, ru2⟩ := rv2.get gy
    have zl : z < s.heap.objs.size := Heap.lt_size hz
    have ty : s.TypeIs (.ref z) "zip" := ⟨_, hz, rfl⟩
    unfold pyNext
    refine wpAny_bind (wpAny_attempt (wpAny_callSpecial?_slot (name := Str.ofString "__next__") ty PySem.F.slot_zip_next (wpAny_call_entry PySem.F.slot_zip_next ty PySem.F.entry_zip_next
      (zp_item D hz hv hti hto h1 h2 (show s.heap.IsTuple a its.toArray from tp) (show s.heap.IsTuple b its2.toArray from tp2) (x := u) (y := u2) (by simpa using hu) (by simpa using hu2) fun h' N => wpAny_pure ?_) (PySem.F.args_zip_next_1 _))))
    have new : ObjOk X.prog X.w (upd H s.heap.objs.size (.tup [x, y])) h' s.heap.objs.size (.tup [x, y]) :=
      ⟨by show 2 ≤ sizeLine; decide, [u, u2], .cons ru (.cons ru2 .nil), ⟨_, N.new, rfl, _, rfl⟩⟩
    have I1 : Inv X pins σ (upd H s.heap.objs.size (.tup [x, y])) { s with heap := h' } :=
      I.turnedNew (t' := s.toks) (ch := [z, ti, to', j1, j2]) (fun c o nc q => N.keep c o (fun q' => nc (by simp [q'])) (fun q' => nc (by simp [q'])) (fun q' => nc (by simp [q'])) (fun q' => nc (by simp [q'])) q) hf (Nat.le_refl _) new
    refine ⟨_, rfl, ?_⟩
    show wpAny _ _ (pure ()) _ _ _
    refine wpAny_pure ⟨.ref s.heap.objs.size, _, I1, rfl, ⟨_, x, y, rfl, I.hok.fresh (Nat.le_refl _), rfl, fun l hl => by rw [I.tuple_inj hl qx]; exact gx, fun l hl => by rw [I.tuple_inj hl qy]; exact gy⟩,
      ⟨N.zp, N.keep _ _ D.TIz D.TITO D.TIi1 D.TIi2 hti, N.own, N.i1, N.i2⟩, fun c hc => ?_⟩
    have lt : c < s.heap.objs.size := by
      simp only [List.mem_cons, List.not_mem_nil, or_false] at hc
      obtain ⟨_, q1, _⟩ := h1
      obtain ⟨_, q2, _⟩ := h2
      rcases hc with rfl | rfl | rfl | rfl | rfl
      · exact zl
      · exact Heap.lt_size hti
      · exact Heap.lt_size hto
      · exact Heap.lt_size q1
      · exact Heap.lt_size q2
    rw [upd_ne (Nat.ne_of_lt lt)]
    exact (hf c hc).1
  done := by
    intro X hP hw hK hc i pins s σ H E I hf ⟨⟨v, f, hz, hv⟩, hti, ⟨x0, y0, hto⟩, h1, h2⟩ ⟨xs, ys, qx, qy, hend⟩
    subst hP hw hK
    obtain ⟨its, rv, tp, _⟩ := I.tuple qx
    obtain ⟨its2, rv2, tp2, _⟩ := I.tuple qy
    have l1 := rv.length
    have l2 := rv2.length
    have ty : s.TypeIs (.ref z) "zip" := ⟨_, hz, rfl⟩
    have hn : its.toArray[i]? = none ∨ its2.toArray[i]? = none := hend.imp (fun q => by simp; omega) fun q => by simp; omega
    unfold pyNext
    refine wpAny_bind (wpAny_attempt (wpAny_callSpecial?_slot (name := Str.ofString "__next__") ty PySem.F.slot_zip_next (wpAny_call_entry PySem.F.slot_zip_next ty PySem.F.entry_zip_next
      (zp_end (I.ok.hd hc) D hz hv hti hto h1 h2 (show s.heap.IsTuple a its.toArray from tp) (show s.heap.IsTuple b its2.toArray from tp2) hn fun h' e k ⟨o, ho, hcl⟩ => ?_) (PySem.F.args_zip_next_1 _))))
    refine wpAny_bind (wpAny_isInstance (T := "StopIteration") (b := true) ⟨o, ho, hcl⟩ isSubtype_stop (wpAny_pure ⟨rfl, ?_⟩))
    exact I.turnedL (t' := s.toks) (ch := [z, ti, to', j1, j2]) (fun c o nc q => k c o (fun q' => nc (by simp [q'])) (fun q' => nc (by simp [q'])) (fun q' => nc (by simp [q'])) (fun q' => nc (by simp [q'])) q) hf
  self := fun A i s Q E ⟨⟨v, f, hz, _⟩, _⟩ h => by
    have ty : s.TypeIs (.ref z) "zip" := ⟨_, hz, rfl⟩
    refine wpAny_pyIter_slot ty PySem.F.slot_zip_iter (wpAny_call_entry PySem.F.slot_zip_iter ty PySem.F.entry_zip_iter ?_ (PySem.F.args_zip_iter_1 _))
    show wpAny _ _ (ret (.ref z)) _ _ s
    exact wpAny_pure ⟨_, rfl, "zip", _, ty, PySem.F.slot_zip_next.lookup, h⟩
def iZipT (K : PySem.W.Frag) (ta : TA) : TI := fun σ H R => ta σ H fun vs H1 => ∃ a b xs ys, vs = [.ref a, .ref b] ∧ SqT K H1 a xs ∧ SqT K H1 b ys ∧ R (RZ.ItzT K a b) H1
theorem pi_zipN {ta : TA} {q : Pos} (hg : Gl X "zip") (hm : X.mg "zip" = none) (ha : PA X [e, e2] ta) (hs : starEach [e, e2] X.env = (false, eval e X.env) :: starEach [e2] X.env := by rfl) (hpl : (backTo pos (starEach [e2] X.env)).any (·.1) = false := by rfl) :
    PI X (.Name nm q) (.Call (.Name "zip" p) [e, e2] [] pos) (iZipT X.K ta) := by
  refine ⟨fun pins s σ H R I hw => Call_ (ld_blt I hg hm PyProof.Rows.boot_zip (PyProof.Rows.callWith_type1 (thn (ha.run pos pins s σ H _ I hw) fun us s1 ⟨vs, H1, I1, r1, a, b, xs, ys, e1, qx, qy, go⟩ => ?_) hs hpl))⟩
  subst e1
  cases r1 with
  | cons ra rr =>
    cases rr with
    | cons rb rn =>
      cases rn
      cases ra
      cases rb
      obtain ⟨its, rv, tp, _⟩ := I1.tuple qx
      obtain ⟨its2, rv2, tp2, _⟩ := I1.tuple qy
      have la : a < s1.heap.objs.size := by obtain ⟨o, g, _⟩ := id tp; exact Heap.lt_size g
      have lb : b < s1.heap.objs.size := by obtain ⟨o, g, _⟩ := id tp2; exact Heap.lt_size g
      refine RZ.call_zipT (show s1.heap.IsTuple a its.toArray from tp) (show s1.heap.IsTuple b its2.toArray from tp2) fun h' hz hti hto h1 h2 hsz hk => wpAny_pyIter_zip hz ?_
      refine ⟨s1.heap.objs.size + 4, [s1.heap.objs.size + 4, s1.heap.objs.size + 2, s1.heap.objs.size + 3, s1.heap.objs.size, s1.heap.objs.size + 1], _, _, H1, rfl, I1.kept (t' := s1.toks) hk,
        turn_zipN (PySem.W.ktu_apart s1.heap.objs.size a b la lb), ⟨⟨.none, false, hz, .inl rfl⟩, hti, ⟨_, _, hto⟩, h1, h2⟩, fun c hc => ?_, go⟩
      have le : s1.heap.objs.size ≤ c := by
        simp only [List.mem_cons, List.not_mem_nil, or_false] at hc
        rcases hc with rfl | rfl | rfl | rfl | rfl
        · exact Nat.le_add_right _ _
        · exact Nat.le_add_right _ _
        · exact Nat.le_add_right _ _
        · exact Nat.le_refl _
        · exact Nat.le_add_right _ _
      exact I1.fpOk le (I1.hok.fresh le)
def zipTOf (xs : List D) (h : MH) : Option ((List D × Live) × MH) := match xs with
  | [.tup xs, .tup ys] => some ((pairZ xs ys, none), h)
  | _ => none
/-- zip of two tuples, the pair kept whole -/
def iZipNM (r : AM) : IM := fun Γ h => (r Γ h).bind fun p => R.ofO (zipTOf p.1 p.2)
theorem im_zipN {mr : AM} {q : Pos} (hg : Gl X "zip") (hm : X.mg "zip" = none) (he : PA X [e, e2] (tMa X.K W mr)) (hs : starEach [e, e2] X.env = (false, eval e X.env) :: starEach [e2] X.env := by rfl) (hpl : (backTo pos (starEach [e2] X.env)).any (·.1) = false := by rfl) :
    PI X (.Name nm q) (.Call (.Name "zip" p) [e, e2] [] pos) (tMi X.K W (iZipNM mr)) :=
  (pi_zipN hg hm he hs hpl).imp fun σ H Q o => tX.bind o fun Γ ds h1 vs ι1 H1 g1 x1 o1 => by
    obtain ⟨a, h', e1, kk⟩ := o1.fin
    simp only [zipTOf] at e1
    split at e1
    · cases e1
      obtain ⟨v, w, rfl, x2, x3⟩ := x1.two
      unfold VR at x2 x3
      obtain ⟨p, vs, rfl, q1, q2⟩ := x2
      obtain ⟨p2, vs2, rfl, q3, q4⟩ := x3
      exact ⟨p, p2, vs, vs2, rfl, q1.sq, q3.sq, kk _ ι1 H1 g1.hr (itr_zipT fun ι' H' h' _ ex _ => ⟨⟨vs, (q1.mono ex).sq, VRs.mono ex _ _ q2⟩, vs2, (q3.mono ex).sq, VRs.mono ex _ _ q4⟩) .refl⟩
    · cases e1
end
end Mir
namespace Mir
open PySem L2
open Classical
/-! ## running a mirror -/
theorem R.bind_left {α β : Type} {r r' : R α} {f : α → R β} (e : r = r') : r.bind f = r'.bind f := by rw [e]
theorem set_at {α : Type} {h : List α} {n : Nat} {o x : α} (e : h[n]? = some o) : (h.set n x)[n]? = some x := List.getElem?_set_self (List.getElem?_eq_some_iff.mp e).1
theorem set_twice {α : Type} {h : List α} {n : Nat} {x y : α} : (h.set n x).set n y = h.set n y := List.set_set ..
theorem new_at {α : Type} {h : List α} {x : α} : (h ++ [x])[h.length]? = some x := by simp
theorem new_set {α : Type} {h : List α} {x y : α} : (h ++ [x]).set h.length y = h ++ [y] := by simp
theorem old_at {α : Type} {h t : List α} {n : Nat} {o : α} (e : h[n]? = some o) : (h ++ t)[n]? = some o := by
  rw [List.getElem?_append_left (List.getElem?_eq_some_iff.mp e).1]; exact e
end Mir
namespace Mir
open PySem L2
open Classical
/-! ## loops and comprehensions, run -/
theorem closedDs_iff {n : Nat} : ∀ {xs : List D}, closedDs n xs ↔ ∀ x ∈ xs, closedD n x
  | [] => by simp [closedDs]
  | x :: xs => by simp [closedDs, closedDs_iff (xs := xs)]
@[simp] theorem loop_nil {step : D → Env → MH → R (Ctl × Env × MH)} {Γ : Env} {h : MH} : loop none step [] Γ h = .ok (.nx, Γ, h) := by simp [loop]
theorem loop_nx {l : Live} {step : D → Env → MH → R (Ctl × Env × MH)} {d : D} {ds : List D} {Γ Γ' : Env} {h h' : MH} (hl : liveOk l h) (e : step d Γ h = .ok (.nx, Γ', h')) : loop l step (d :: ds) Γ h = loop l step ds Γ' h' := by
  simp [loop, hl, e]
theorem loop_ct {l : Live} {step : D → Env → MH → R (Ctl × Env × MH)} {d : D} {ds : List D} {Γ Γ' : Env} {h h' : MH} (hl : liveOk l h) (e : step d Γ h = .ok (.ct, Γ', h')) : loop l step (d :: ds) Γ h = loop l step ds Γ' h' := by
  simp [loop, hl, e]
theorem loop_rt {l : Live} {step : D → Env → MH → R (Ctl × Env × MH)} {d x : D} {ds : List D} {Γ Γ' : Env} {h h' : MH} (hl : liveOk l h) (e : step d Γ h = .ok (.rt x, Γ', h')) : loop l step (d :: ds) Γ h = .ok (.rt x, Γ', h') := by
  simp [loop, hl, e]
theorem loop_bk {l : Live} {step : D → Env → MH → R (Ctl × Env × MH)} {d : D} {ds : List D} {Γ Γ' : Env} {h h' : MH} (hl : liveOk l h) (e : step d Γ h = .ok (.bk, Γ', h')) : loop l step (d :: ds) Γ h = .ok (.nx, Γ', h') := by
  simp [loop, hl, e]
section
variable {step : D → Env → MH → R (Ctl × Env × MH)} {d x : D} {ds : List D} {Γ Γ' : Env} {h h' : MH}
theorem loop_nx0 (e : step d Γ h = .ok (.nx, Γ', h')) : loop none step (d :: ds) Γ h = loop none step ds Γ' h' := loop_nx (l := none) trivial e
theorem loop_ct0 (e : step d Γ h = .ok (.ct, Γ', h')) : loop none step (d :: ds) Γ h = loop none step ds Γ' h' := loop_ct (l := none) trivial e
theorem loop_rt0 (e : step d Γ h = .ok (.rt x, Γ', h')) : loop none step (d :: ds) Γ h = .ok (.rt x, Γ', h') := loop_rt (l := none) trivial e
theorem loop_bk0 (e : step d Γ h = .ok (.bk, Γ', h')) : loop none step (d :: ds) Γ h = .ok (.nx, Γ', h') := loop_bk (l := none) trivial e
theorem set_same {α : Type} {h : List α} {n : Nat} {x : α} (e : h[n]? = some x) : h.set n x = h := by
  apply List.ext_getElem?
  intro i
  by_cases q : i = n
  · subst q; rw [set_at e, e]
  · rw [List.getElem?_set_ne (Ne.symm q)]
end
theorem OldOk.same {h : MH} {n : Nat} : OldOk h h n := fun _ _ _ e => .inl e
theorem OldOk.app {h t : MH} : OldOk h (h ++ t) h.length := fun k o hk e => by
  rw [List.getElem?_append_left hk] at e
  exact .inl e
theorem tells_lst {h t : MH} {xs : List D} {r : R (D × MH)} (e : r = .ok (.ref h.length, h ++ .lst xs :: t)) (c : closedDs h.length xs) : Tells h r (.ok (.fl xs, h)) :=
  ⟨_, _, e, Nat.le_refl _, by simp, by simp, .same, .lst (Nat.le_refl _) (by simp) (.same c)⟩
theorem tells_drop {h t : MH} {d : D} {r : R (D × MH)} (e : r = .ok (d, h ++ t)) (c : closedD h.length d) : Tells h r (.ok (d, h)) :=
  ⟨_, _, e, Nat.le_refl _, by simp, by simp, .same, .same c⟩
theorem mB_one {m : EM} {g : List D → MH → Option (D × MH)} {Γ : Env} {h h' : MH} {d : D} (e : m Γ h = .ok (d, h')) : mB g (mCons m mNil) Γ h = R.ofO (g [d] h') := by simp [mB, mCons, mNil, e]
theorem mMeth_one {ok : D → MH → Bool} {o m : EM} {g : D → List D → MH → Option (D × MH)} {Γ : Env} {h h1 h' : MH} {x d : D} (e1 : o Γ h = .ok (x, h1)) (c : ok x h1 = true) (e : m Γ h1 = .ok (d, h')) : mMeth ok g o (mCons m mNil) Γ h = R.ofO (g x [d] h') := by simp [mMeth, mCons, mNil, e, e1, c]
theorem fnM_rt {N : Nat} {body : SM} {ds : List D} {h h' : MH} {d : D} {Γ : Env} (e : body (ds.map some ++ List.replicate (N - ds.length) none) h = .ok (.rt d, Γ, h')) : fnM N body ds h = .ok (d, h') := by simp [fnM, e]
theorem fnM_nx {N : Nat} {body : SM} {ds : List D} {h h' : MH} {Γ : Env} (e : body (ds.map some ++ List.replicate (N - ds.length) none) h = .ok (.nx, Γ, h')) : fnM N body ds h = .ok (.non, h') := by simp [fnM, e]
theorem sRet_ok {m : EM} {Γ : Env} {h h' : MH} {d : D} (e : m Γ h = .ok (d, h')) : sRet m Γ h = .ok (.rt d, Γ, h') := by simp [sRet, e]
theorem sSet_ok {m : EM} {Γ : Env} {h h' : MH} {d : D} {i : Nat} (e : m Γ h = .ok (d, h')) : sSet i m Γ h = .ok (.nx, Γ.set i (some d), h') := by simp [sSet, e]
theorem sSeq_nx {a b : SM} {Γ Γ' : Env} {h h' : MH} (e : a Γ h = .ok (.nx, Γ', h')) : sSeq a b Γ h = b Γ' h' := by simp [sSeq, e]
theorem sSeq_rt {a b : SM} {Γ Γ' : Env} {h h' : MH} {d : D} (e : a Γ h = .ok (.rt d, Γ', h')) : sSeq a b Γ h = .ok (.rt d, Γ', h') := by simp [sSeq, e]
theorem sFor_eq {im : IM} {g : GM} {body : SM} {Γ : Env} {h h' : MH} {ds : List D} {l : Live} (e : im Γ h = .ok ((ds, l), h')) : sFor im g body Γ h = loop l (stepOf g body) ds Γ h' := by simp [sFor, e]
section
variable {im : IM} {g : GM} {t : TM} {e : EM} {vs : List Nat} {Γ : Env} {h : MH} {n : Nat}
/-- a comprehension that changes nothing else -/
theorem compL_pure (b : D → Bool) (v : D → D) : ∀ (ds : List D) (h : MH) (acc : List D), h[n]? = some (.lst acc) → acc.length + ds.length ≤ 1000000 →
    (∀ d ∈ ds, ∀ h' : MH, ∃ Γ1, g d Γ h' = some Γ1 ∧ t Γ1 h' = .ok (b d, h') ∧ (b d = true → e Γ1 h' = .ok (v d, h'))) →
    compL none g t e n Γ ds h = .ok ((), h.set n (.lst (acc ++ (ds.filter b).map v)))
  | [], h, acc, hn, _, _ => by
    have : h.set n (.lst acc) = h := by
      apply List.ext_getElem?
      intro i
      by_cases q : i = n
      · subst q; rw [set_at hn, hn]
      · rw [List.getElem?_set_ne (Ne.symm q)]
    simp [compL, this]
  | d :: ds, h, acc, hn, hl, st => by
    obtain ⟨Γ1, e1, e2, e3⟩ := st d (by simp) h
    have st' := fun d' hd' => st d' (List.mem_cons_of_mem _ hd')
    simp only [List.length_cons] at hl
    unfold compL
    simp only [liveOk_none, if_true, e1, e2, R.nox_ok, R.bind_ok]
    cases hb : b d with
    | false =>
      rw [if_neg (by decide), compL_pure b v ds h acc hn (by omega) st', List.filter_cons, if_neg (by simp [hb])]
    | true =>
      rw [if_pos rfl, e3 hb]
      simp only [R.nox_ok, R.bind_ok, hn]
      rw [if_pos (by omega), compL_pure b v ds _ (acc ++ [v d]) (set_at hn) (by simp; omega) st', set_twice, List.filter_cons, if_pos hb]
      simp
theorem frz_pure (b : D → Bool) (v : D → D) {ds : List D} (hi : im Γ h = .ok ((ds, none), h)) (hl : ds.length ≤ 1000000)
    (st : ∀ d ∈ ds, ∀ h' : MH, ∃ Γ1, g d (wipeΓ Γ vs) h' = some Γ1 ∧ t Γ1 h' = .ok (b d, h') ∧ (b d = true → e Γ1 h' = .ok (v d, h'))) (hc : ∀ d ∈ ds, b d = true → closedD h.length (v d)) :
    mFrz (mCompN im g t e vs) Γ h = .ok (.fl ((ds.filter b).map v), h) := by
  have q := compL_pure (g := g) (t := t) (e := e) (n := h.length) (Γ := wipeΓ Γ vs) b v ds (h ++ [.lst []]) [] new_at (by simpa using hl) st
  unfold mFrz mCompN
  simp only [hi, R.bind_ok, q, new_set, new_at, List.nil_append]
  have c : h.length ≤ h.length ∧ OldOk h (h ++ [.lst ((ds.filter b).map v)]) h.length ∧ closedDs h.length ((ds.filter b).map v) := by
    refine ⟨Nat.le_refl _, fun k o hk ho => ?_, closedDs_iff.mpr fun x hx => ?_⟩
    · rw [List.getElem?_append_left hk] at ho
      exact .inl ho
    · obtain ⟨d, hd, rfl⟩ := List.mem_map.mp hx
      exact hc d (List.mem_filter.mp hd).1 (List.mem_filter.mp hd).2
  rw [if_pos c]
  simp
/-- a comprehension without tests that may change the heap -/
theorem compL_ex (Good : MH → Prop) (V : D → Prop) (hset : ∀ h o, Good h → Good (h.set n o)) : ∀ (ds : List D) (h : MH) (acc : List D), Good h → h[n]? = some (.lst acc) → acc.length + ds.length ≤ 1000000 → (∀ v ∈ acc, V v) →
    (∀ d ∈ ds, ∀ h' : MH, Good h' → (∃ o, h'[n]? = some o) → ∃ Γ1 v h2, g d Γ h' = some Γ1 ∧ t Γ1 h' = .ok (true, h') ∧ e Γ1 h' = .ok (v, h2) ∧ Good h2 ∧ h2[n]? = h'[n]? ∧ V v) →
    ∃ vs h2, compL none g t e n Γ ds h = .ok ((), h2) ∧ Good h2 ∧ h2[n]? = some (.lst vs) ∧ (∀ v ∈ vs, V v) ∧ vs.length = acc.length + ds.length
  | [], h, acc, hg, hn, _, ha, _ => ⟨acc, h, by simp [compL], hg, hn, ha, by simp⟩
  | d :: ds, h, acc, hg, hn, hl, ha, st => by
    obtain ⟨Γ1, v, h2, e1, e2, e3, g2, n2, hv⟩ := st d (by simp) h hg ⟨_, hn⟩
    have st' := fun d' hd' => st d' (List.mem_cons_of_mem _ hd')
    simp only [List.length_cons] at hl
    rw [hn] at n2
    obtain ⟨ws, h3, q1, q2, q3, q4, q5⟩ := compL_ex Good V hset ds (h2.set n (.lst (acc ++ [v]))) (acc ++ [v]) (hset _ _ g2) (set_at n2) (by simp; omega) (by
      intro x hx
      rcases List.mem_append.mp hx with hx | hx
      · exact ha x hx
      · rw [List.mem_singleton.mp hx]; exact hv) st'
    refine ⟨ws, h3, ?_, q2, q3, q4, by simp at q5; simp; omega⟩
    unfold compL
    simp only [liveOk_none, if_true, e1, e2, R.nox_ok, R.bind_ok, e3, n2]
    rw [if_pos (by omega)]
    exact q1
end
end Mir
namespace K01
open PySem L2 Mir PySem.Spec
open Classical
/-! the walk; printed by gen.py -/
def topS (i : Nat) : Stmt := PySem.Challenge.pw_votesaswritten_k01_names_words_lines.main.body.getD i (.Pass ⟨0, 0, 0, 0⟩)
theorem hr_in {k : Nat} {A : Around} (r : Room k A) : A.units + 65 < cLine := by have := r.un; omega
abbrev s__law_pool : Stmt := topS 14
abbrev N__law_pool : List Str := ["script", "mixed", "great", "cell", "number"]
theorem sc__law_pool : FnScope N__law_pool ["script"] (defScope s__law_pool) := ⟨rfl, rfl, rfl, by decide +kernel, rfl, by decide +kernel, by decide +kernel⟩
abbrev s__law_same : Stmt := topS 17
abbrev N__law_same : List Str := ["told", "due", "rows", "one", "other", "pair"]
theorem sc__law_same : FnScope N__law_same ["told", "due"] (defScope s__law_same) := ⟨rfl, rfl, rfl, by decide +kernel, rfl, by decide +kernel, by decide +kernel⟩
abbrev s__law_take : Stmt := topS 15
abbrev N__law_take : List Str := ["pool", "many", "number"]
theorem sc__law_take : FnScope N__law_take ["pool", "many"] (defScope s__law_take) := ⟨rfl, rfl, rfl, by decide +kernel, rfl, by decide +kernel, by decide +kernel⟩
abbrev s__law_word : Stmt := topS 21
abbrev N__law_word : List Str := ["pool", "some", "signs", "k"]
theorem sc__law_word : FnScope N__law_word ["pool"] (defScope s__law_word) := ⟨rfl, rfl, rfl, by decide +kernel, rfl, by decide +kernel, by decide +kernel⟩
abbrev s__law_line : Stmt := topS 22
abbrev N__law_line : List Str := ["pool", "line", "k"]
theorem sc__law_line : FnScope N__law_line ["pool"] (defScope s__law_line) := ⟨rfl, rfl, rfl, by decide +kernel, rfl, by decide +kernel, by decide +kernel⟩
abbrev s__law_words : Stmt := topS 19
abbrev N__law_words : List Str := ["line", "out", "word", "sign"]
theorem sc__law_words : FnScope N__law_words ["line"] (defScope s__law_words) := ⟨rfl, rfl, rfl, by decide +kernel, rfl, by decide +kernel, by decide +kernel⟩
abbrev s_words_of_line : Stmt := topS 2
abbrev N_words_of_line : List Str := ["line", "word"]
theorem sc_words_of_line : FnScope N_words_of_line ["line"] (defScope s_words_of_line) := ⟨rfl, rfl, rfl, by decide +kernel, rfl, by decide +kernel, by decide +kernel⟩
abbrev s_words_of : Stmt := topS 11
abbrev N_words_of : List Str := ["line"]
theorem sc_words_of : FnScope N_words_of ["line"] (defScope s_words_of) := ⟨rfl, rfl, rfl, by decide +kernel, rfl, by decide +kernel, by decide +kernel⟩
abbrev s_lines_of : Stmt := topS 1
abbrev N_lines_of : List Str := ["text", "lines"]
theorem sc_lines_of : FnScope N_lines_of ["text"] (defScope s_lines_of) := ⟨rfl, rfl, rfl, by decide +kernel, rfl, by decide +kernel, by decide +kernel⟩
abbrev s_is_passed_over : Stmt := topS 3
abbrev N_is_passed_over : List Str := ["words"]
theorem sc_is_passed_over : FnScope N_is_passed_over ["words"] (defScope s_is_passed_over) := ⟨rfl, rfl, rfl, by decide +kernel, rfl, by decide +kernel, by decide +kernel⟩
abbrev s_read_lines : Stmt := topS 4
abbrev N_read_lines : List Str := ["text", "found", "at", "line", "words"]
theorem sc_read_lines : FnScope N_read_lines ["text"] (defScope s_read_lines) := ⟨rfl, rfl, rfl, by decide +kernel, rfl, by decide +kernel, by decide +kernel⟩
abbrev s_source_lines : Stmt := topS 12
abbrev N_source_lines : List Str := ["text", "line", "words"]
theorem sc_source_lines : FnScope N_source_lines ["text"] (defScope s_source_lines) := ⟨rfl, rfl, rfl, by decide +kernel, rfl, by decide +kernel, by decide +kernel⟩
abbrev s__law_source : Stmt := topS 20
abbrev N__law_source : List Str := ["text", "out", "line", "number", "sign", "words"]
theorem sc__law_source : FnScope N__law_source ["text"] (defScope s__law_source) := ⟨rfl, rfl, rfl, by decide +kernel, rfl, by decide +kernel, by decide +kernel⟩
abbrev s_is_name : Stmt := topS 10
abbrev N_is_name : List Str := ["thing", "sign"]
theorem sc_is_name : FnScope N_is_name ["thing"] (defScope s_is_name) := ⟨rfl, rfl, rfl, by decide +kernel, rfl, by decide +kernel, by decide +kernel⟩
abbrev s__law_is_name : Stmt := topS 18
abbrev N__law_is_name : List Str := ["thing", "letters", "sign"]
theorem sc__law_is_name : FnScope N__law_is_name ["thing"] (defScope s__law_is_name) := ⟨rfl, rfl, rfl, by decide +kernel, rfl, by decide +kernel, by decide +kernel⟩
abbrev s__law_asked : Stmt := topS 23
abbrev N__law_asked : List Str := ["pool", "lines", "k", "line", "word", "text"]
theorem sc__law_asked : FnScope N__law_asked ["pool"] (defScope s__law_asked) := ⟨rfl, rfl, rfl, by decide +kernel, rfl, by decide +kernel, by decide +kernel⟩
abbrev s_law : Stmt := topS 24
abbrev N_law : List Str := ["script", "pool", "k", "name", "thing", "text"]
theorem sc_law : FnScope N_law ["script"] (defScope s_law) := ⟨rfl, rfl, rfl, by decide +kernel, rfl, by decide +kernel, by decide +kernel⟩
def c_KEYWORDS : D := (.tup [(.str "options"), (.str "part"), (.str "let"), (.str "vote"), (.str "over"), (.str "else"), (.str "end"), (.str "if"), (.str "is"), (.str "repeat"), (.str "take")])
def c_LETTERS : D := (.str "abcdefghijklmnopqrstuvwxyz")
def c_LONGEST_NAME : D := (.int 8)
def c_NAME_SIGNS : D := (.str "abcdefghijklmnopqrstuvwxyz0123456789")
structure Zs (mg : Str → Option Value) : Prop where
  z_abs : mg "abs" = none
  z_bool : mg "bool" = none
  z_enumerate : mg "enumerate" = none
  z_int : mg "int" = none
  z_isinstance : mg "isinstance" = none
  z_len : mg "len" = none
  z_list : mg "list" = none
  z_range : mg "range" = none
  z_str : mg "str" = none
  z_tuple : mg "tuple" = none
  z_zip : mg "zip" = none
structure Cs (K : PySem.W.Frag) (mg : Str → Option Value) : Prop where
  c_KEYWORDS_ : HasC K mg "KEYWORDS" c_KEYWORDS
  c_LETTERS_ : HasC K mg "LETTERS" c_LETTERS
  c_LONGEST_NAME_ : HasC K mg "LONGEST_NAME" c_LONGEST_NAME
  c_NAME_SIGNS_ : HasC K mg "NAME_SIGNS" c_NAME_SIGNS
noncomputable def b__law_pool : SM :=
    (sSeq (sSet 1 (mC (.int 10433)))
    (sSeq (sSet 2 (mNew (mLst mNil)))
    (sSeq (sFor (iAny (mSl fSl (mVar 0) oNone (oSome (mC (.int 63))))) (gNm 3) (sSeq (sSet 4 (mBin fMod (mB gAbs (mCons (mB gInt (mCons (mVar 3) mNil)) mNil)) (mBin fShl (mC (.int 1)) (mC (.int 2000)))))
    (sSeq (sSet 1 (mBin fMod (mB gInt (mCons (mBin fAdd (mBin fAdd (mBin fMul (mVar 1) (mC (.int 211))) (mBin fMod (mVar 4) (mC (.int 1000957)))) (mC (.int 1))) mNil)) (mC (.int 2147483647))))
    (sIf (mTB (mBin fGe (mVar 4) (mBin fPow (mC (.int 10)) (mC (.int 18))))) (sExpr (mMeth okL gAppend (mVar 2) (mCons (mVar 4) mNil))) sNil))))
    (sRet (mNew (mCat (mFz (mLst (mCons (mVar 1) (mCons (mC (.int 0)) mNil)))) (mVar 2)))))))
noncomputable def b__law_same : SM :=
    (sSeq (sSet 2 (mNew (mLst (mCons (mTup (mCons (mVar 0) (mCons (mVar 1) mNil))) mNil))))
    (sSeq (sWhile (mTr (mVar 2)) (sSeq (sAsg (gTp 2 (gsCons (gNm 3) (gsCons (gNm 4) gsNil))) (mMeth okL gPop (mVar 2) mNil))
    (sIf (tOrM (mTB (mIsi "tuple" (mVar 4))) (mTB (mIsi "list" (mVar 4)))) (sSeq (sIf (tOrM (mTB (mBin fNe (mIsi "list" (mVar 4)) (mIsi "list" (mVar 3)))) (mTB (mBin fNe (mIsi "tuple" (mVar 4)) (mIsi "tuple" (mVar 3))))) (sRet (mC (.bl false))) sNil)
    (sSeq (sIf (mTB (mBin fNe (mB gLen (mCons (mVar 3) mNil)) (mB gLen (mCons (mVar 4) mNil)))) (sRet (mC (.bl false))) sNil)
    (sFor (iZipNM (mCons (mVar 3) (mCons (mVar 4) mNil))) (gNm 5) (sExpr (mMeth okL gAppend (mVar 2) (mCons (mVar 5) mNil)))))) (sIf (mTB (mIsi "str" (mVar 4))) (sIf (tOrM (tNotM (mTB (mIsi "str" (mVar 3)))) (mTB (mBin fNe (mVar 3) (mVar 4)))) (sRet (mC (.bl false))) sNil) (sIf (mTB (mBin fIsN (mVar 4) (mC .non))) (sIf (mTB (mBin fNotN (mVar 3) (mC .non))) (sRet (mC (.bl false))) sNil) (sIf (tOrM (mTB (mIsi "bool" (mVar 3))) (mTB (mIsi "bool" (mVar 4)))) (sIf (tOrM (tNotM (mTB (mIsi "bool" (mVar 3)))) (tOrM (tNotM (mTB (mIsi "bool" (mVar 4)))) (mTB (mBin fNe (mVar 3) (mVar 4))))) (sRet (mC (.bl false))) sNil) (sIf (tOrM (tNotM (mTB (mIsi "int" (mVar 3)))) (mTB (mBin fNe (mVar 3) (mVar 4)))) (sRet (mC (.bl false))) sNil)))))))
    (sRet (mC (.bl true)))))
noncomputable def b__law_take : SM :=
    (sSeq (sIf (mTB (mBin fGt (mB gLen (mCons (mVar 0) mNil)) (mC (.int 2)))) (sSeq (sSet 2 (mMeth okL gPop (mVar 0) mNil))
    (sIf (mTB (mBin fGt (mVar 2) (mC (.int 1)))) (sSeq (sExpr (mMeth okL gAppend (mVar 0) (mCons (mBin fDiv (mVar 2) (mVar 1)) mNil)))
    (sRet (mBin fMod (mB gInt (mCons (mVar 2) mNil)) (mVar 1)))) sNil)) sNil)
    (sSeq (sPutI (fun a b => a + b) (mVar 0) (mC (.int 1)) (mC (.int 1)))
    (sSeq (sPut (mVar 0) (mC (.int 0)) (mBin fMod (mB gInt (mCons (mBin fAdd (mBin fAdd (mBin fMul (mBin fIx (mVar 0) (mC (.int 0))) (mC (.int 48271))) (mBin fMul (mBin fIx (mVar 0) (mC (.int 1))) (mC (.int 7489)))) (mC (.int 13))) mNil)) (mC (.int 2147483647))))
    (sRet (mBin fMod (mB gInt (mCons (mBin fDiv (mBin fIx (mVar 0) (mC (.int 0))) (mC (.int 96))) mNil)) (mVar 1))))))
noncomputable def b__law_word (s__law_take : FM) : SM :=
    (sSeq (sSet 1 (mFz (mLst (mCons (mC (.str "options")) (mCons (mC (.str "part")) (mCons (mC (.str "let")) (mCons (mC (.str "vote")) (mCons (mC (.str "over")) (mCons (mC (.str "else")) (mCons (mC (.str "end")) (mCons (mC (.str "if")) (mCons (mC (.str "is")) (mCons (mC (.str "repeat")) (mCons (mC (.str "take")) (mCons (mC (.str "a")) (mCons (mC (.str "x1")) (mCons (mC (.str "1x")) (mCons (mC (.str "A")) (mCons (mC (.str "a_b")) (mCons (mC (.str "()")) (mCons (mC (.str "=")) (mCons (mC (.str "#")) (mCons (mC (.str "#a")) (mCons (mC (.str "a#")) (mCons (mC (.str "eightlet")) (mCons (mC (.str "ninelette")) (mCons (mC (.str "votes")) (mCons (mC (.str "en")) (mCons (mC (.str "le")) (mCons (mC (.str "ends")) (mCons (mC (.str "i")) (mCons (mC (.str "aB")) (mCons (mC (.str "a-")) (mCons (mC (.str "~")) (mCons (mC (.str "!")) (mCons (mC (.str "0")) (mCons (mC (.str "takes")) mNil)))))))))))))))))))))))))))))))))))))
    (sSeq (sIf (mTB (mBin fGt (mCall s__law_take (mCons (mVar 0) (mCons (mC (.int 3)) mNil))) (mC (.int 0)))) (sRet (mBin fIx (mVar 1) (mCall s__law_take (mCons (mVar 0) (mCons (mB gLen (mCons (mVar 1) mNil)) mNil))))) sNil)
    (sSeq (sSet 2 (mC (.str "abcxyz019A_#-=()~!")))
    (sRet (mMeth okS gJoin (mC (.str "")) (mCons (mFrz (mCompN (iRng (mCons (mBin fAdd (mC (.int 1)) (mCall s__law_take (mCons (mVar 0) (mCons (mC (.int 9)) mNil)))) mNil)) (gNm 3) tTrue (mBin fIx (mVar 2) (mCall s__law_take (mCons (mVar 0) (mCons (mB gLen (mCons (mVar 2) mNil)) mNil)))) [3])) mNil))))))
noncomputable def b__law_line (s__law_take s__law_word : FM) : SM :=
    (sSeq (sSet 1 (mBin fRep (mC (.str " ")) (mBin fDiv (mCall s__law_take (mCons (mVar 0) (mCons (mC (.int 4)) mNil))) (mC (.int 2)))))
    (sSeq (sFor (iRng (mCons (mCall s__law_take (mCons (mVar 0) (mCons (mC (.int 6)) mNil))) mNil)) (gNm 2) (sSet 1 (mBin fAdd (mBin fAdd (mVar 1) (mCall s__law_word (mCons (mVar 0) mNil))) (mBin fRep (mC (.str " ")) (mBin fAdd (mC (.int 1)) (mBin fDiv (mCall s__law_take (mCons (mVar 0) (mCons (mC (.int 3)) mNil))) (mC (.int 2))))))))
    (sRet (mIf (mTB (mBin fEq (mCall s__law_take (mCons (mVar 0) (mCons (mC (.int 2)) mNil))) (mC (.int 0)))) (mVar 1) (mMeth okS gRstrip (mVar 1) (mCons (mC (.str " ")) mNil))))))
noncomputable def b__law_words : SM :=
    (sSeq (sSet 1 (mNew (mLst mNil)))
    (sSeq (sSet 2 (mC (.str "")))
    (sSeq (sFor (iAny (mBin fAdd (mVar 0) (mC (.str " ")))) (gNm 3) (sIf (mTB (mBin fNe (mVar 3) (mC (.str " ")))) (sSet 2 (mBin fAdd (mVar 2) (mVar 3))) (sIf (mTB (mBin fNe (mVar 2) (mC (.str "")))) (sSeq (sExpr (mMeth okL gAppend (mVar 1) (mCons (mVar 2) mNil)))
    (sSet 2 (mC (.str "")))) sNil)))
    (sRet (mB gTuple (mCons (mVar 1) mNil))))))
noncomputable def b_words_of_line : SM :=
    (sRet (mFrz (mCompN (iAny (mFz (mSplit (mVar 0) (mC (.str " "))))) (gNm 1) (mTB (mBin fNe (mVar 1) (mC (.str "")))) (mVar 1) [1])))
noncomputable def b_words_of (s_words_of_line : FM) : SM :=
    (sRet (mB gTuple (mCons (mCall s_words_of_line (mCons (mVar 0) mNil)) mNil)))
noncomputable def b_lines_of : SM :=
    (sSeq (sSet 1 (mNew (mSplit (mVar 0) (mC (.str "\n")))))
    (sSeq (sIf (mTB (mBin fEq (mBin fIx (mVar 1) (mUn fNeg (mC (.int 1)))) (mC (.str "")))) (sExpr (mMeth okL gPop (mVar 1) mNil)) sNil)
    (sRet (mVar 1))))
noncomputable def b_is_passed_over : SM :=
    (sRet (mOr (mBin fEq (mB gLen (mCons (mVar 0) mNil)) (mC (.int 0))) (mMeth okS gStarts (mBin fIx (mVar 0) (mC (.int 0))) (mCons (mC (.str "#")) mNil))))
noncomputable def b_read_lines (s_lines_of s_words_of_line s_is_passed_over : FM) : SM :=
    (sSeq (sSet 1 (mNew (mLst mNil)))
    (sSeq (sFor (iEnumM (mCons (mCall s_lines_of (mCons (mVar 0) mNil)) mNil)) (gTp 2 (gsCons (gNm 2) (gsCons (gNm 3) gsNil))) (sSeq (sSet 4 (mCall s_words_of_line (mCons (mVar 3) mNil)))
    (sIf (tNotM (mTB (mCall s_is_passed_over (mCons (mVar 4) mNil)))) (sExpr (mMeth okL gAppend (mVar 1) (mCons (mTup (mCons (mBin fAdd (mVar 2) (mC (.int 1))) (mCons (mVar 4) mNil))) mNil))) sNil)))
    (sRet (mVar 1))))
noncomputable def b_source_lines (s_read_lines : FM) : SM :=
    (sRet (mB gTuple (mCons (mFrz (mCompN (iAny (mCall s_read_lines (mCons (mVar 0) mNil))) (gTp 2 (gsCons (gNm 1) (gsCons (gNm 2) gsNil))) tTrue (mTup (mCons (mVar 1) (mCons (mB gTuple (mCons (mVar 2) mNil)) mNil))) [1, 2])) mNil)))
noncomputable def b__law_source (s__law_words : FM) : SM :=
    (sSeq (sSet 1 (mNew (mLst mNil)))
    (sSeq (sSet 2 (mC (.str "")))
    (sSeq (sSet 3 (mC (.int 1)))
    (sSeq (sFor (iAny (mBin fAdd (mVar 0) (mIf (tOrM (mTB (mBin fEq (mVar 0) (mC (.str "")))) (mTB (mBin fEq (mBin fIx (mVar 0) (mUn fNeg (mC (.int 1)))) (mC (.str "\n"))))) (mC (.str "")) (mC (.str "\n"))))) (gNm 4) (sIf (mTB (mBin fEq (mVar 4) (mC (.str "\n")))) (sSeq (sSet 5 (mCall s__law_words (mCons (mVar 2) mNil)))
    (sSeq (sIf (tAndM (mTr (mVar 5)) (mTB (mBin fNe (mBin fIx (mBin fIx (mVar 5) (mC (.int 0))) (mC (.int 0))) (mC (.str "#"))))) (sExpr (mMeth okL gAppend (mVar 1) (mCons (mTup (mCons (mVar 3) (mCons (mVar 5) mNil))) mNil))) sNil)
    (sSeq (sSet 2 (mC (.str "")))
    (sAug (fun a b => a + b) 3 (mC (.int 1)))))) (sSet 2 (mBin fAdd (mVar 2) (mVar 4)))))
    (sRet (mB gTuple (mCons (mVar 1) mNil)))))))
noncomputable def b_is_name : SM :=
    (sSeq (sIf (tOrM (tNotM (mTB (mIsi "str" (mVar 0)))) (tNotM (mChain fLe fLe (mC (.int 1)) (mB gLen (mCons (mVar 0) mNil)) (mC c_LONGEST_NAME)))) (sRet (mC (.bl false))) sNil)
    (sSeq (sIf (tOrM (mTB (mBin fNotIn (mBin fIx (mVar 0) (mC (.int 0))) (mC c_LETTERS))) (mTB (mBin fIn (mVar 0) (mC c_KEYWORDS)))) (sRet (mC (.bl false))) sNil)
    (sSeq (sFor (iAny (mVar 0)) (gNm 1) (sIf (mTB (mBin fNotIn (mVar 1) (mC c_NAME_SIGNS))) (sRet (mC (.bl false))) sNil))
    (sRet (mC (.bl true))))))
noncomputable def b__law_is_name : SM :=
    (sSeq (sSet 1 (mC (.str "abcdefghijklmnopqrstuvwxyz")))
    (sSeq (sIf (tOrM (tNotM (mTB (mIsi "str" (mVar 0)))) (tOrM (mTB (mBin fLt (mB gLen (mCons (mVar 0) mNil)) (mC (.int 1)))) (tOrM (mTB (mBin fGt (mB gLen (mCons (mVar 0) mNil)) (mC (.int 8)))) (mTB (mBin fNotIn (mBin fIx (mVar 0) (mC (.int 0))) (mVar 1)))))) (sRet (mC (.bl false))) sNil)
    (sSeq (sFor (iAny (mVar 0)) (gNm 2) (sIf (tAndM (mTB (mBin fNotIn (mVar 2) (mVar 1))) (mTB (mBin fNotIn (mVar 2) (mC (.str "0123456789"))))) (sRet (mC (.bl false))) sNil))
    (sRet (mBin fNotIn (mVar 0) (mTup (mCons (mC (.str "options")) (mCons (mC (.str "part")) (mCons (mC (.str "let")) (mCons (mC (.str "vote")) (mCons (mC (.str "over")) (mCons (mC (.str "else")) (mCons (mC (.str "end")) (mCons (mC (.str "if")) (mCons (mC (.str "is")) (mCons (mC (.str "repeat")) (mCons (mC (.str "take")) mNil)))))))))))))))))
noncomputable def b__law_asked (s__law_take s__law_line s__law_same s_words_of s__law_words s_is_name s__law_is_name s_source_lines s__law_source : FM) : SM :=
    (sSeq (sSet 1 (mFrz (mCompN (iRng (mCons (mCall s__law_take (mCons (mVar 0) (mCons (mC (.int 8)) mNil))) mNil)) (gNm 2) tTrue (mCall s__law_line (mCons (mVar 0) mNil)) [2])))
    (sSeq (sFor (iAny (mVar 1)) (gNm 3) (sSeq (sIf (tNotM (mTB (mCall s__law_same (mCons (mCall s_words_of (mCons (mVar 3) mNil)) (mCons (mCall s__law_words (mCons (mVar 3) mNil)) mNil))))) (sRet (mC (.bl false))) sNil)
    (sFor (iAny (mSl fSl (mCall s__law_words (mCons (mVar 3) mNil)) oNone (oSome (mC (.int 3))))) (gNm 4) (sIf (tNotM (mTB (mCall s__law_same (mCons (mCall s_is_name (mCons (mVar 4) mNil)) (mCons (mCall s__law_is_name (mCons (mVar 4) mNil)) mNil))))) (sRet (mC (.bl false))) sNil))))
    (sSeq (sFor (iAny (mTup (mCons (mMeth okS gJoin (mC (.str "\n")) (mCons (mVar 1) mNil)) (mCons (mBin fAdd (mMeth okS gJoin (mC (.str "\n")) (mCons (mVar 1) mNil)) (mC (.str "\n"))) (mCons (mBin fAdd (mC (.str "\n")) (mMeth okS gJoin (mC (.str "\n\n")) (mCons (mVar 1) mNil))) (mCons (mMeth okS gJoin (mC (.str "")) (mCons (mVar 1) mNil)) mNil)))))) (gNm 5) (sIf (tNotM (mTB (mCall s__law_same (mCons (mCall s_source_lines (mCons (mVar 5) mNil)) (mCons (mCall s__law_source (mCons (mVar 5) mNil)) mNil))))) (sRet (mC (.bl false))) sNil))
    (sRet (mC (.bl true))))))
noncomputable def b_law (s__law_pool s__law_asked s__law_take s__law_same s_is_name s__law_is_name s_source_lines s__law_source s_words_of : FM) : SM :=
    (sSeq (sSet 1 (mCall s__law_pool (mCons (mVar 0) mNil)))
    (sSeq (sFor (iRng (mCons (mC (.int 4)) mNil)) (gNm 2) (sIf (tNotM (mTB (mCall s__law_asked (mCons (mVar 1) mNil)))) (sRet (mC (.bl false))) sNil))
    (sSeq (sSet 3 (mSl fSl (mC (.str "abcdefgh")) oNone (oSome (mBin fAdd (mC (.int 1)) (mCall s__law_take (mCons (mVar 1) (mCons (mC (.int 8)) mNil)))))))
    (sSeq (sFor (iAny (mTup (mCons (mVar 3) (mCons (mBin fAdd (mVar 3) (mC (.str "9"))) (mCons (mFz (mLst (mCons (mVar 3) mNil))) (mCons (mTup (mCons (mVar 3) mNil)) (mCons (mC .non) (mCons (mC (.int 0)) (mCons (mC (.int 1)) (mCons (mC (.bl true)) (mCons (mC (.str "")) (mCons (mBin fAdd (mC (.str " ")) (mVar 3)) (mCons (mBin fAdd (mVar 3) (mC (.str " "))) (mCons (mBin fAdd (mVar 3) (mC (.str "\n"))) (mCons (mMeth okS gUpper (mVar 3) mNil) (mCons (mC (.str "\n")) (mCons (mTup (mCons (mC (.str "a")) mNil)) (mCons (mFz (mLst mNil)) (mCons (mSl fSl (mVar 3) oNone (oSome (mC (.int 1)))) (mCons (mC (.str "over")) (mCons (mC (.str "overs")) (mCons (mC (.str "Take")) mNil)))))))))))))))))))))) (gNm 4) (sIf (tNotM (mTB (mCall s__law_same (mCons (mCall s_is_name (mCons (mVar 4) mNil)) (mCons (mCall s__law_is_name (mCons (mVar 4) mNil)) mNil))))) (sRet (mC (.bl false))) sNil))
    (sSeq (sIf (mTB (mBin fEq (mCall s__law_take (mCons (mVar 1) (mCons (mC (.int 13)) mNil))) (mC (.int 6)))) (sSeq (sSet 5 (mMeth okS gJoin (mC (.str "\n")) (mCons (mFrz (mCompN (iRng (mCons (mC (.int 400)) mNil)) (gNm 2) tTrue (mBin fAdd (mBin fAdd (mBin fAdd (mBin fRep (mC (.str " ")) (mBin fDiv (mVar 2) (mC (.int 2)))) (mBin fRep (mC (.str "#")) (mBin fAnd (mVar 2) (mC (.int 1))))) (mC (.str "w"))) (mB gStr (mCons (mVar 2) mNil))) [2])) mNil)))
    (sIf (tOrM (tNotM (mTB (mCall s__law_same (mCons (mCall s_source_lines (mCons (mVar 5) mNil)) (mCons (mCall s__law_source (mCons (mVar 5) mNil)) mNil))))) (tNotM (mTB (mCall s__law_same (mCons (mCall s_words_of (mCons (mBin fRep (mC (.str " x")) (mC (.int 150))) mNil)) (mCons (mBin fRep (mTup (mCons (mC (.str "x")) mNil)) (mC (.int 150))) mNil)))))) (sRet (mC (.bl false))) sNil)) sNil)
    (sRet (mCall s__law_same (mCons (mTup (mCons (mCall s_source_lines (mCons (mC (.str "")) mNil)) (mCons (mCall s_source_lines (mCons (mC (.str "\n")) mNil)) (mCons (mCall s_source_lines (mCons (mC (.str "\n\n a")) mNil)) (mCons (mCall s_words_of (mCons (mC (.str "")) mNil)) (mCons (mCall s_words_of (mCons (mC (.str "   ")) mNil)) mNil)))))) (mCons (mTup (mCons (mTup mNil) (mCons (mTup mNil) (mCons (mTup (mCons (mTup (mCons (mC (.int 3)) (mCons (mTup (mCons (mC (.str "a")) mNil)) mNil))) mNil)) (mCons (mTup mNil) (mCons (mTup mNil) mNil)))))) mNil)))))))))
section
variable {P : Program} {w : World} {K : PySem.W.Frag} {mg : Str → Option Value} {base : Heap}
theorem ok__law_pool {f : Addr} {fd : FuncData} (F : Fun K "_law_pool" "_law_pool" s__law_pool f fd) (Z : Zs mg) (C : Cs K mg) :
    FnOk P w K mg base (L2.CX P w) 1 f fd ["script"] (spM K 1 (fnM 5 (b__law_pool))) :=
  fn_ok (N := N__law_pool) (k := 0) F sc__law_pool (by decide) fun cdv A outer s H E hr =>
    (sm_cons (sm_set (i := 1) sc__law_pool.nd rfl (by first | exact .inl rfl | exact .inr rfl) pm_int)
    (sm_cons (sm_set (i := 2) sc__law_pool.nd rfl (by first | exact .inl rfl | exact .inr rfl) (pm_new (fm_lst am_nil)))
    (sm_cons (sm_for (passes_of rfl) rfl (im_any (pm_sl (pm_var 0 (pv 0)) om_none (om_some pm_int))) (gm_name 3 sc__law_pool.nd rfl (by first | exact .inl rfl | exact .inr rfl)) (sm_cons (sm_set (i := 4) sc__law_pool.nd rfl (by first | exact .inl rfl | exact .inr rfl) (pm_bin opm_mod (pm_callB call_abs' Z.z_abs (am_cons (pm_callT call_int' Z.z_int (am_cons (pm_var 3 (pv 3)) am_nil) (by decide +kernel)) am_nil) (by decide +kernel)) (pm_bin opm_shl pm_int pm_int)))
    (sm_cons (sm_set (i := 1) sc__law_pool.nd rfl (by first | exact .inl rfl | exact .inr rfl) (pm_bin opm_mod (pm_callT call_int' Z.z_int (am_cons (pm_bin opm_add (pm_bin opm_add (pm_bin opm_mul (pm_var 1 (pv 1)) pm_int) (pm_bin opm_mod (pm_var 4 (pv 4)) pm_int)) pm_int) am_nil) (by decide +kernel)) pm_int))
    (sm_one (sm_if (tm_cmp opm_ge (pm_var 4 (pv 4)) (pm_bin opm_pow pm_int pm_int) (nomark _)) (sm_one (sm_expr (pm_lmeth m_append (pm_var 2 (pv 2)) (am_cons (pm_var 4 (pv 4)) am_nil) PySem.F.slot_list_append PySem.F.type_list_append))) sm_nil)))))
    (sm_one (sm_ret (pm_new (fm_cat (pm_fz (fm_lst (am_cons (pm_var 1 (pv 1)) (am_cons pm_int am_nil)))) (pm_var 2 (pv 2)))))))))
theorem ok__law_same {f : Addr} {fd : FuncData} (F : Fun K "_law_same" "_law_same" s__law_same f fd) (Z : Zs mg) (C : Cs K mg) :
    FnOk P w K mg base (L2.CX P w) 1 f fd ["told", "due"] (spM K 2 (fnM 6 (b__law_same))) :=
  fn_ok (N := N__law_same) (k := 0) F sc__law_same (by decide) fun cdv A outer s H E hr =>
    (sm_cons (sm_set (i := 2) sc__law_same.nd rfl (by first | exact .inl rfl | exact .inr rfl) (pm_new (fm_lst (am_cons (pm_tup (am_cons (pm_var 0 (pv 0)) (am_cons (pm_var 1 (pv 1)) am_nil))) am_nil))))
    (sm_cons (sm_while (passes_of rfl) (tm_tr (pm_var 2 (pv 2))) (sm_cons (sm_asg (pm_lmeth0 m_pop (pm_var 2 (pv 2)) PySem.F.slot_list_pop PySem.F.type_list_pop) (gm_tup rfl (gms_cons (gm_name 3 sc__law_same.nd rfl (by first | exact .inl rfl | exact .inr rfl)) (gms_cons (gm_name 4 sc__law_same.nd rfl (by first | exact .inl rfl | exact .inr rfl)) gms_nil))))
    (sm_one (sm_if ((wm_or (tm_val (pm_isi "tuple" Z.z_isinstance Z.z_tuple (pm_var 4 (pv 4)) (by decide +kernel))) (wm_or1 (tm_val (pm_isi "list" Z.z_isinstance Z.z_list (pm_var 4 (pv 4)) (by decide +kernel)))))).pt (sm_cons (sm_if ((wm_or (tm_cmp (opm_ne hr.units) (pm_isi "list" Z.z_isinstance Z.z_list (pm_var 4 (pv 4)) (by decide +kernel)) (pm_isi "list" Z.z_isinstance Z.z_list (pm_var 3 (pv 3)) (by decide +kernel)) (nomark _)) (wm_or1 (tm_cmp (opm_ne hr.units) (pm_isi "tuple" Z.z_isinstance Z.z_tuple (pm_var 4 (pv 4)) (by decide +kernel)) (pm_isi "tuple" Z.z_isinstance Z.z_tuple (pm_var 3 (pv 3)) (by decide +kernel)) (nomark _))))).pt (sm_one (sm_ret pm_bl)) sm_nil)
    (sm_cons (sm_if (tm_cmp (opm_ne hr.units) (pm_callB call_len' Z.z_len (am_cons (pm_var 3 (pv 3)) am_nil) (by decide +kernel)) (pm_callB call_len' Z.z_len (am_cons (pm_var 4 (pv 4)) am_nil) (by decide +kernel)) (nomark _)) (sm_one (sm_ret pm_bl)) sm_nil)
    (sm_one (sm_for (passes_of rfl) rfl (im_zipN (by rfl) Z.z_zip (am_cons (pm_var 3 (pv 3)) (am_cons (pm_var 4 (pv 4)) am_nil))) (gm_name 5 sc__law_same.nd rfl (by first | exact .inl rfl | exact .inr rfl)) (sm_one (sm_expr (pm_lmeth m_append (pm_var 2 (pv 2)) (am_cons (pm_var 5 (pv 5)) am_nil) PySem.F.slot_list_append PySem.F.type_list_append))))))) (sm_one (sm_if (tm_val (pm_isi "str" Z.z_isinstance Z.z_str (pm_var 4 (pv 4)) (by decide +kernel))) (sm_one (sm_if ((wm_or (tm_not (tm_val (pm_isi "str" Z.z_isinstance Z.z_str (pm_var 3 (pv 3)) (by decide +kernel)))) (wm_or1 (tm_cmp (opm_ne hr.units) (pm_var 3 (pv 3)) (pm_var 4 (pv 4)) (nomark _))))).pt (sm_one (sm_ret pm_bl)) sm_nil)) (sm_one (sm_if (tm_cmp opm_isN (pm_var 4 (pv 4)) pm_non (nomark _)) (sm_one (sm_if (tm_cmp opm_notN (pm_var 3 (pv 3)) pm_non (nomark _)) (sm_one (sm_ret pm_bl)) sm_nil)) (sm_one (sm_if ((wm_or (tm_val (pm_isi "bool" Z.z_isinstance Z.z_bool (pm_var 3 (pv 3)) (by decide +kernel))) (wm_or1 (tm_val (pm_isi "bool" Z.z_isinstance Z.z_bool (pm_var 4 (pv 4)) (by decide +kernel)))))).pt (sm_one (sm_if ((wm_or (tm_not (tm_val (pm_isi "bool" Z.z_isinstance Z.z_bool (pm_var 3 (pv 3)) (by decide +kernel)))) (wm_or (tm_not (tm_val (pm_isi "bool" Z.z_isinstance Z.z_bool (pm_var 4 (pv 4)) (by decide +kernel)))) (wm_or1 (tm_cmp (opm_ne hr.units) (pm_var 3 (pv 3)) (pm_var 4 (pv 4)) (nomark _)))))).pt (sm_one (sm_ret pm_bl)) sm_nil)) (sm_one (sm_if ((wm_or (tm_not (tm_val (pm_isi "int" Z.z_isinstance Z.z_int (pm_var 3 (pv 3)) (by decide +kernel)))) (wm_or1 (tm_cmp (opm_ne hr.units) (pm_var 3 (pv 3)) (pm_var 4 (pv 4)) (nomark _))))).pt (sm_one (sm_ret pm_bl)) sm_nil))))))))))))
    (sm_one (sm_ret pm_bl))))
theorem ok__law_take {f : Addr} {fd : FuncData} (F : Fun K "_law_take" "_law_take" s__law_take f fd) (Z : Zs mg) (C : Cs K mg) :
    FnOk P w K mg base (L2.CX P w) 1 f fd ["pool", "many"] (spM K 2 (fnM 3 (b__law_take))) :=
  fn_ok (N := N__law_take) (k := 0) F sc__law_take (by decide) fun cdv A outer s H E hr =>
    (sm_cons (sm_if (tm_cmp opm_gt (pm_callB call_len' Z.z_len (am_cons (pm_var 0 (pv 0)) am_nil) (by decide +kernel)) pm_int (nomark _)) (sm_cons (sm_set (i := 2) sc__law_take.nd rfl (by first | exact .inl rfl | exact .inr rfl) (pm_lmeth0 m_pop (pm_var 0 (pv 0)) PySem.F.slot_list_pop PySem.F.type_list_pop))
    (sm_one (sm_if (tm_cmp opm_gt (pm_var 2 (pv 2)) pm_int (nomark _)) (sm_cons (sm_expr (pm_lmeth m_append (pm_var 0 (pv 0)) (am_cons (pm_bin opm_div (pm_var 2 (pv 2)) (pm_var 1 (pv 1))) am_nil) PySem.F.slot_list_append PySem.F.type_list_append))
    (sm_one (sm_ret (pm_bin opm_mod (pm_callT call_int' Z.z_int (am_cons (pm_var 2 (pv 2)) am_nil) (by decide +kernel)) (pm_var 1 (pv 1)))))) sm_nil))) sm_nil)
    (sm_cons (sm_putI ip_add (pm_var 0 (pv 0)) pm_int pm_int)
    (sm_cons (sm_put (pm_bin opm_mod (pm_callT call_int' Z.z_int (am_cons (pm_bin opm_add (pm_bin opm_add (pm_bin opm_mul (pm_ix (pm_var 0 (pv 0)) pm_int) pm_int) (pm_bin opm_mul (pm_ix (pm_var 0 (pv 0)) pm_int) pm_int)) pm_int) am_nil) (by decide +kernel)) pm_int) (pm_var 0 (pv 0)) pm_int)
    (sm_one (sm_ret (pm_bin opm_mod (pm_callT call_int' Z.z_int (am_cons (pm_bin opm_div (pm_ix (pm_var 0 (pv 0)) pm_int) pm_int) am_nil) (by decide +kernel)) (pm_var 1 (pv 1))))))))
theorem ok__law_word {s__law_take : FM} {f : Addr} {fd : FuncData} (F : Fun K "_law_word" "_law_word" s__law_word f fd) (Z : Zs mg) (C : Cs K mg) (F__law_take : HasF P w K mg base 1 "_law_take" 2 s__law_take) :
    FnOk P w K mg base (L2.CX P w) 2 f fd ["pool"] (spM K 1 (fnM 4 (b__law_word s__law_take))) :=
  fn_ok (N := N__law_word) (k := 1) F sc__law_word (by decide) fun cdv A outer s H E hr =>
    (sm_cons (sm_set (i := 1) sc__law_word.nd rfl (by first | exact .inl rfl | exact .inr rfl) (pm_fz (fm_lst (am_cons pm_str (am_cons pm_str (am_cons pm_str (am_cons pm_str (am_cons pm_str (am_cons pm_str (am_cons pm_str (am_cons pm_str (am_cons pm_str (am_cons pm_str (am_cons pm_str (am_cons pm_str (am_cons pm_str (am_cons pm_str (am_cons pm_str (am_cons pm_str (am_cons pm_str (am_cons pm_str (am_cons pm_str (am_cons pm_str (am_cons pm_str (am_cons pm_str (am_cons pm_str (am_cons pm_str (am_cons pm_str (am_cons pm_str (am_cons pm_str (am_cons pm_str (am_cons pm_str (am_cons pm_str (am_cons pm_str (am_cons pm_str (am_cons pm_str (am_cons pm_str am_nil)))))))))))))))))))))))))))))))))))))
    (sm_cons (sm_if (tm_cmp opm_gt (pm_callF F__law_take hr (by decide) (takes_of rfl rfl rfl rfl) (am_cons (pm_var 0 (pv 0)) (am_cons pm_int am_nil)) (mCons_len (mCons_len (fun _ _ _ => mNil_len)))) pm_int (nomark _)) (sm_one (sm_ret (pm_ix (pm_var 1 (pv 1)) (pm_callF F__law_take hr (by decide) (takes_of rfl rfl rfl rfl) (am_cons (pm_var 0 (pv 0)) (am_cons (pm_callB call_len' Z.z_len (am_cons (pm_var 1 (pv 1)) am_nil) (by decide +kernel)) am_nil)) (mCons_len (mCons_len (fun _ _ _ => mNil_len))))))) sm_nil)
    (sm_cons (sm_set (i := 2) sc__law_word.nd rfl (by first | exact .inl rfl | exact .inr rfl) pm_str)
    (sm_one (sm_ret (pm_smeth1 m_join pm_str (pm_frz (pm_comp (own := [("k", 3)]) rfl sc__law_word.nd (im_range1 (by rfl) Z.z_range (am_cons (pm_bin opm_add pm_int (pm_callF F__law_take hr (by decide) (takes_of rfl rfl rfl rfl) (am_cons (pm_var 0 (pv 0)) (am_cons pm_int am_nil)) (mCons_len (mCons_len (fun _ _ _ => mNil_len))))) am_nil)) (blkOk_by (own := [("k", 3)]) (N := N__law_word) (sc := defScope s__law_word) (by decide +kernel)) (fun _ _ _ _ _ => (gm_name 3 sc__law_word.nd rfl (by first | exact .inl rfl | exact .inr rfl))) (fun _ _ _ _ _ => tms_nil) (fun _ _ _ _ _ => (pm_ix (pm_var 2 (pv 2)) (pm_callF F__law_take hr (by decide) takes0 (am_cons (pm_var 0 (pv 0)) (am_cons (pm_callB call_len' Z.z_len (am_cons (pm_var 2 (pv 2)) am_nil) (by decide +kernel)) am_nil)) (mCons_len (mCons_len (fun _ _ _ => mNil_len)))))) (by simp))) PySem.F.slot_str_join PySem.F.type_str_join))))))
theorem ok__law_line {s__law_take s__law_word : FM} {f : Addr} {fd : FuncData} (F : Fun K "_law_line" "_law_line" s__law_line f fd) (Z : Zs mg) (C : Cs K mg) (F__law_take : HasF P w K mg base 1 "_law_take" 2 s__law_take) (F__law_word : HasF P w K mg base 2 "_law_word" 1 s__law_word) :
    FnOk P w K mg base (L2.CX P w) 3 f fd ["pool"] (spM K 1 (fnM 3 (b__law_line s__law_take s__law_word))) :=
  fn_ok (N := N__law_line) (k := 2) F sc__law_line (by decide) fun cdv A outer s H E hr =>
    (sm_cons (sm_set (i := 1) sc__law_line.nd rfl (by first | exact .inl rfl | exact .inr rfl) (pm_bin opm_rep pm_str (pm_bin opm_div (pm_callF F__law_take hr (by decide) (takes_of rfl rfl rfl rfl) (am_cons (pm_var 0 (pv 0)) (am_cons pm_int am_nil)) (mCons_len (mCons_len (fun _ _ _ => mNil_len)))) pm_int)))
    (sm_cons (sm_for (passes_of rfl) rfl (im_range1 (by rfl) Z.z_range (am_cons (pm_callF F__law_take hr (by decide) (takes_of rfl rfl rfl rfl) (am_cons (pm_var 0 (pv 0)) (am_cons pm_int am_nil)) (mCons_len (mCons_len (fun _ _ _ => mNil_len)))) am_nil)) (gm_name 2 sc__law_line.nd rfl (by first | exact .inl rfl | exact .inr rfl)) (sm_one (sm_set (i := 1) sc__law_line.nd rfl (by first | exact .inl rfl | exact .inr rfl) (pm_bin opm_add (pm_bin opm_add (pm_var 1 (pv 1)) (pm_callF F__law_word hr (by decide) (takes_of rfl rfl rfl rfl) (am_cons (pm_var 0 (pv 0)) am_nil) (mCons_len (fun _ _ _ => mNil_len)))) (pm_bin opm_rep pm_str (pm_bin opm_add pm_int (pm_bin opm_div (pm_callF F__law_take hr (by decide) (takes_of rfl rfl rfl rfl) (am_cons (pm_var 0 (pv 0)) (am_cons pm_int am_nil)) (mCons_len (mCons_len (fun _ _ _ => mNil_len)))) pm_int)))))))
    (sm_one (sm_ret (pm_if (tm_cmp (opm_eq hr.units) (pm_callF F__law_take hr (by decide) (takes_of rfl rfl rfl rfl) (am_cons (pm_var 0 (pv 0)) (am_cons pm_int am_nil)) (mCons_len (mCons_len (fun _ _ _ => mNil_len)))) pm_int (nomark _)) (pm_var 1 (pv 1)) (pm_smeth1 m_rstrip (pm_var 1 (pv 1)) pm_str PySem.F.slot_str_rstrip PySem.F.type_str_rstrip))))))
theorem ok__law_words {f : Addr} {fd : FuncData} (F : Fun K "_law_words" "_law_words" s__law_words f fd) (Z : Zs mg) (C : Cs K mg) :
    FnOk P w K mg base (L2.CX P w) 1 f fd ["line"] (spM K 1 (fnM 4 (b__law_words))) :=
  fn_ok (N := N__law_words) (k := 0) F sc__law_words (by decide) fun cdv A outer s H E hr =>
    (sm_cons (sm_set (i := 1) sc__law_words.nd rfl (by first | exact .inl rfl | exact .inr rfl) (pm_new (fm_lst am_nil)))
    (sm_cons (sm_set (i := 2) sc__law_words.nd rfl (by first | exact .inl rfl | exact .inr rfl) pm_str)
    (sm_cons (sm_for (passes_of rfl) rfl (im_any (pm_bin opm_add (pm_var 0 (pv 0)) pm_str)) (gm_name 3 sc__law_words.nd rfl (by first | exact .inl rfl | exact .inr rfl)) (sm_one (sm_if (tm_cmp (opm_ne hr.units) (pm_var 3 (pv 3)) pm_str (nomark _)) (sm_one (sm_set (i := 2) sc__law_words.nd rfl (by first | exact .inl rfl | exact .inr rfl) (pm_bin opm_add (pm_var 2 (pv 2)) (pm_var 3 (pv 3))))) (sm_one (sm_if (tm_cmp (opm_ne hr.units) (pm_var 2 (pv 2)) pm_str (nomark _)) (sm_cons (sm_expr (pm_lmeth m_append (pm_var 1 (pv 1)) (am_cons (pm_var 2 (pv 2)) am_nil) PySem.F.slot_list_append PySem.F.type_list_append))
    (sm_one (sm_set (i := 2) sc__law_words.nd rfl (by first | exact .inl rfl | exact .inr rfl) pm_str))) sm_nil)))))
    (sm_one (sm_ret (pm_callT call_tuple' Z.z_tuple (am_cons (pm_var 1 (pv 1)) am_nil) (by decide +kernel)))))))
theorem ok_words_of_line {f : Addr} {fd : FuncData} (F : Fun K "words_of_line" "words_of_line" s_words_of_line f fd) (Z : Zs mg) (C : Cs K mg) :
    FnOk P w K mg base (L2.CX P w) 1 f fd ["line"] (spM K 1 (fnM 2 (b_words_of_line))) :=
  fn_ok (N := N_words_of_line) (k := 0) F sc_words_of_line (by decide) fun cdv A outer s H E hr =>
    (sm_one (sm_ret (pm_frz (pm_comp (own := [("word", 1)]) rfl sc_words_of_line.nd (im_any (pm_fz (fm_split (pm_var 0 (pv 0)) pm_str))) (blkOk_by (own := [("word", 1)]) (N := N_words_of_line) (sc := defScope s_words_of_line) (by decide +kernel)) (fun _ _ _ _ _ => (gm_name 1 sc_words_of_line.nd rfl (by first | exact .inl rfl | exact .inr rfl))) (fun _ _ _ _ _ => (tms_one (tm_cmp (opm_ne hr.units) (pm_var 1 (pv 1)) pm_str (nomark _)))) (fun _ _ _ _ _ => (pm_var 1 (pv 1))) (by simp)))))
theorem ok_words_of {s_words_of_line : FM} {f : Addr} {fd : FuncData} (F : Fun K "words_of" "words_of" s_words_of f fd) (Z : Zs mg) (C : Cs K mg) (F_words_of_line : HasF P w K mg base 1 "words_of_line" 1 s_words_of_line) :
    FnOk P w K mg base (L2.CX P w) 2 f fd ["line"] (spM K 1 (fnM 1 (b_words_of s_words_of_line))) :=
  fn_ok (N := N_words_of) (k := 1) F sc_words_of (by decide) fun cdv A outer s H E hr =>
    (sm_one (sm_ret (pm_callT call_tuple' Z.z_tuple (am_cons (pm_callF F_words_of_line hr (by decide) (takes_of rfl rfl rfl rfl) (am_cons (pm_var 0 (pv 0)) am_nil) (mCons_len (fun _ _ _ => mNil_len))) am_nil) (by decide +kernel))))
theorem ok_lines_of {f : Addr} {fd : FuncData} (F : Fun K "lines_of" "lines_of" s_lines_of f fd) (Z : Zs mg) (C : Cs K mg) :
    FnOk P w K mg base (L2.CX P w) 1 f fd ["text"] (spM K 1 (fnM 2 (b_lines_of))) :=
  fn_ok (N := N_lines_of) (k := 0) F sc_lines_of (by decide) fun cdv A outer s H E hr =>
    (sm_cons (sm_set (i := 1) sc_lines_of.nd rfl (by first | exact .inl rfl | exact .inr rfl) (pm_new (fm_split (pm_var 0 (pv 0)) pm_str)))
    (sm_cons (sm_if (tm_cmp (opm_eq hr.units) (pm_ix (pm_var 1 (pv 1)) (pm_un unm_neg pm_int)) pm_str (nomark _)) (sm_one (sm_expr (pm_lmeth0 m_pop (pm_var 1 (pv 1)) PySem.F.slot_list_pop PySem.F.type_list_pop))) sm_nil)
    (sm_one (sm_ret (pm_var 1 (pv 1))))))
theorem ok_is_passed_over {f : Addr} {fd : FuncData} (F : Fun K "is_passed_over" "is_passed_over" s_is_passed_over f fd) (Z : Zs mg) (C : Cs K mg) :
    FnOk P w K mg base (L2.CX P w) 1 f fd ["words"] (spM K 1 (fnM 1 (b_is_passed_over))) :=
  fn_ok (N := N_is_passed_over) (k := 0) F sc_is_passed_over (by decide) fun cdv A outer s H E hr =>
    (sm_one (sm_ret (pm_or (pm_cmp (opm_eq hr.units) (pm_callB call_len' Z.z_len (am_cons (pm_var 0 (pv 0)) am_nil) (by decide +kernel)) pm_int (nomark _)) (pm_one (pm_smeth1 m_starts (pm_ix (pm_var 0 (pv 0)) pm_int) pm_str PySem.F.slot_str_startswith PySem.F.type_str_startswith)))))
theorem ok_read_lines {s_lines_of s_words_of_line s_is_passed_over : FM} {f : Addr} {fd : FuncData} (F : Fun K "read_lines" "read_lines" s_read_lines f fd) (Z : Zs mg) (C : Cs K mg) (F_lines_of : HasF P w K mg base 1 "lines_of" 1 s_lines_of) (F_words_of_line : HasF P w K mg base 1 "words_of_line" 1 s_words_of_line) (F_is_passed_over : HasF P w K mg base 1 "is_passed_over" 1 s_is_passed_over) :
    FnOk P w K mg base (L2.CX P w) 2 f fd ["text"] (spM K 1 (fnM 5 (b_read_lines s_lines_of s_words_of_line s_is_passed_over))) :=
  fn_ok (N := N_read_lines) (k := 1) F sc_read_lines (by decide) fun cdv A outer s H E hr =>
    (sm_cons (sm_set (i := 1) sc_read_lines.nd rfl (by first | exact .inl rfl | exact .inr rfl) (pm_new (fm_lst am_nil)))
    (sm_cons (sm_for (passes_of rfl) rfl (im_enum (by rfl) Z.z_enumerate (am_cons (pm_callF F_lines_of hr (by decide) (takes_of rfl rfl rfl rfl) (am_cons (pm_var 0 (pv 0)) am_nil) (mCons_len (fun _ _ _ => mNil_len))) am_nil)) (gm_tup rfl (gms_cons (gm_name 2 sc_read_lines.nd rfl (by first | exact .inl rfl | exact .inr rfl)) (gms_cons (gm_name 3 sc_read_lines.nd rfl (by first | exact .inl rfl | exact .inr rfl)) gms_nil))) (sm_cons (sm_set (i := 4) sc_read_lines.nd rfl (by first | exact .inl rfl | exact .inr rfl) (pm_callF F_words_of_line hr (by decide) (takes_of rfl rfl rfl rfl) (am_cons (pm_var 3 (pv 3)) am_nil) (mCons_len (fun _ _ _ => mNil_len))))
    (sm_one (sm_if (tm_not (tm_val (pm_callF F_is_passed_over hr (by decide) (takes_of rfl rfl rfl rfl) (am_cons (pm_var 4 (pv 4)) am_nil) (mCons_len (fun _ _ _ => mNil_len))))) (sm_one (sm_expr (pm_lmeth m_append (pm_var 1 (pv 1)) (am_cons (pm_tup (am_cons (pm_bin opm_add (pm_var 2 (pv 2)) pm_int) (am_cons (pm_var 4 (pv 4)) am_nil))) am_nil) PySem.F.slot_list_append PySem.F.type_list_append))) sm_nil))))
    (sm_one (sm_ret (pm_var 1 (pv 1))))))
theorem ok_source_lines {s_read_lines : FM} {f : Addr} {fd : FuncData} (F : Fun K "source_lines" "source_lines" s_source_lines f fd) (Z : Zs mg) (C : Cs K mg) (F_read_lines : HasF P w K mg base 2 "read_lines" 1 s_read_lines) :
    FnOk P w K mg base (L2.CX P w) 3 f fd ["text"] (spM K 1 (fnM 3 (b_source_lines s_read_lines))) :=
  fn_ok (N := N_source_lines) (k := 2) F sc_source_lines (by decide) fun cdv A outer s H E hr =>
    (sm_one (sm_ret (pm_callT call_tuple' Z.z_tuple (am_cons (pm_frz (pm_comp (own := [("line", 1), ("words", 2)]) rfl sc_source_lines.nd (im_any (pm_callF F_read_lines hr (by decide) (takes_of rfl rfl rfl rfl) (am_cons (pm_var 0 (pv 0)) am_nil) (mCons_len (fun _ _ _ => mNil_len)))) (blkOk_by (own := [("line", 1), ("words", 2)]) (N := N_source_lines) (sc := defScope s_source_lines) (by decide +kernel)) (fun _ _ _ _ _ => (gm_tup rfl (gms_cons (gm_name 1 sc_source_lines.nd rfl (by first | exact .inl rfl | exact .inr rfl)) (gms_cons (gm_name 2 sc_source_lines.nd rfl (by first | exact .inl rfl | exact .inr rfl)) gms_nil)))) (fun _ _ _ _ _ => tms_nil) (fun _ _ _ _ _ => (pm_tup (am_cons (pm_var 1 (pv 1)) (am_cons (pm_callT call_tuple' Z.z_tuple (am_cons (pm_var 2 (pv 2)) am_nil) (by decide +kernel)) am_nil)))) (by simp))) am_nil) (by decide +kernel))))
theorem ok__law_source {s__law_words : FM} {f : Addr} {fd : FuncData} (F : Fun K "_law_source" "_law_source" s__law_source f fd) (Z : Zs mg) (C : Cs K mg) (F__law_words : HasF P w K mg base 1 "_law_words" 1 s__law_words) :
    FnOk P w K mg base (L2.CX P w) 2 f fd ["text"] (spM K 1 (fnM 6 (b__law_source s__law_words))) :=
  fn_ok (N := N__law_source) (k := 1) F sc__law_source (by decide) fun cdv A outer s H E hr =>
    (sm_cons (sm_set (i := 1) sc__law_source.nd rfl (by first | exact .inl rfl | exact .inr rfl) (pm_new (fm_lst am_nil)))
    (sm_cons (sm_set (i := 2) sc__law_source.nd rfl (by first | exact .inl rfl | exact .inr rfl) pm_str)
    (sm_cons (sm_set (i := 3) sc__law_source.nd rfl (by first | exact .inl rfl | exact .inr rfl) pm_int)
    (sm_cons (sm_for (passes_of rfl) rfl (im_any (pm_bin opm_add (pm_var 0 (pv 0)) (pm_if ((wm_or (tm_cmp (opm_eq hr.units) (pm_var 0 (pv 0)) pm_str (nomark _)) (wm_or1 (tm_cmp (opm_eq hr.units) (pm_ix (pm_var 0 (pv 0)) (pm_un unm_neg pm_int)) pm_str (nomark _))))).pt pm_str pm_str))) (gm_name 4 sc__law_source.nd rfl (by first | exact .inl rfl | exact .inr rfl)) (sm_one (sm_if (tm_cmp (opm_eq hr.units) (pm_var 4 (pv 4)) pm_str (nomark _)) (sm_cons (sm_set (i := 5) sc__law_source.nd rfl (by first | exact .inl rfl | exact .inr rfl) (pm_callF F__law_words hr (by decide) (takes_of rfl rfl rfl rfl) (am_cons (pm_var 2 (pv 2)) am_nil) (mCons_len (fun _ _ _ => mNil_len))))
    (sm_cons (sm_if ((wm_and (tm_tr (pm_var 5 (pv 5))) (wm_and1 (tm_cmp (opm_ne hr.units) (pm_ix (pm_ix (pm_var 5 (pv 5)) pm_int) pm_int) pm_str (nomark _))))).pt (sm_one (sm_expr (pm_lmeth m_append (pm_var 1 (pv 1)) (am_cons (pm_tup (am_cons (pm_var 3 (pv 3)) (am_cons (pm_var 5 (pv 5)) am_nil))) am_nil) PySem.F.slot_list_append PySem.F.type_list_append))) sm_nil)
    (sm_cons (sm_set (i := 2) sc__law_source.nd rfl (by first | exact .inl rfl | exact .inr rfl) pm_str)
    (sm_one (sm_aug (k := 3) ip_add sc__law_source.nd rfl (by first | exact .inl rfl | exact .inr rfl) pm_int))))) (sm_one (sm_set (i := 2) sc__law_source.nd rfl (by first | exact .inl rfl | exact .inr rfl) (pm_bin opm_add (pm_var 2 (pv 2)) (pm_var 4 (pv 4))))))))
    (sm_one (sm_ret (pm_callT call_tuple' Z.z_tuple (am_cons (pm_var 1 (pv 1)) am_nil) (by decide +kernel))))))))
theorem ok_is_name {f : Addr} {fd : FuncData} (F : Fun K "is_name" "is_name" s_is_name f fd) (Z : Zs mg) (C : Cs K mg) :
    FnOk P w K mg base (L2.CX P w) 1 f fd ["thing"] (spM K 1 (fnM 2 (b_is_name))) :=
  fn_ok (N := N_is_name) (k := 0) F sc_is_name (by decide) fun cdv A outer s H E hr =>
    (sm_cons (sm_if ((wm_or (tm_not (tm_val (pm_isi "str" Z.z_isinstance Z.z_str (pm_var 0 (pv 0)) (by decide +kernel)))) (wm_or1 (tm_not (tm_chain opm_le opm_le pm_int (pm_callB call_len' Z.z_len (am_cons (pm_var 0 (pv 0)) am_nil) (by decide +kernel)) (pm_glob C.c_LONGEST_NAME_)))))).pt (sm_one (sm_ret pm_bl)) sm_nil)
    (sm_cons (sm_if ((wm_or (tm_cmp (opm_notIn (hr_in hr)) (pm_ix (pm_var 0 (pv 0)) pm_int) (pm_glob C.c_LETTERS_) (by with_unfolding_all rfl)) (wm_or1 (tm_cmp (opm_in (hr_in hr)) (pm_var 0 (pv 0)) (pm_glob C.c_KEYWORDS_) (by with_unfolding_all rfl))))).pt (sm_one (sm_ret pm_bl)) sm_nil)
    (sm_cons (sm_for (passes_of rfl) rfl (im_any (pm_var 0 (pv 0))) (gm_name 1 sc_is_name.nd rfl (by first | exact .inl rfl | exact .inr rfl)) (sm_one (sm_if (tm_cmp (opm_notIn (hr_in hr)) (pm_var 1 (pv 1)) (pm_glob C.c_NAME_SIGNS_) (by with_unfolding_all rfl)) (sm_one (sm_ret pm_bl)) sm_nil)))
    (sm_one (sm_ret pm_bl)))))
theorem ok__law_is_name {f : Addr} {fd : FuncData} (F : Fun K "_law_is_name" "_law_is_name" s__law_is_name f fd) (Z : Zs mg) (C : Cs K mg) :
    FnOk P w K mg base (L2.CX P w) 1 f fd ["thing"] (spM K 1 (fnM 3 (b__law_is_name))) :=
  fn_ok (N := N__law_is_name) (k := 0) F sc__law_is_name (by decide) fun cdv A outer s H E hr =>
    (sm_cons (sm_set (i := 1) sc__law_is_name.nd rfl (by first | exact .inl rfl | exact .inr rfl) pm_str)
    (sm_cons (sm_if ((wm_or (tm_not (tm_val (pm_isi "str" Z.z_isinstance Z.z_str (pm_var 0 (pv 0)) (by decide +kernel)))) (wm_or (tm_cmp opm_lt (pm_callB call_len' Z.z_len (am_cons (pm_var 0 (pv 0)) am_nil) (by decide +kernel)) pm_int (nomark _)) (wm_or (tm_cmp opm_gt (pm_callB call_len' Z.z_len (am_cons (pm_var 0 (pv 0)) am_nil) (by decide +kernel)) pm_int (nomark _)) (wm_or1 (tm_cmp (opm_notIn (hr_in hr)) (pm_ix (pm_var 0 (pv 0)) pm_int) (pm_var 1 (pv 1)) (by with_unfolding_all rfl))))))).pt (sm_one (sm_ret pm_bl)) sm_nil)
    (sm_cons (sm_for (passes_of rfl) rfl (im_any (pm_var 0 (pv 0))) (gm_name 2 sc__law_is_name.nd rfl (by first | exact .inl rfl | exact .inr rfl)) (sm_one (sm_if ((wm_and (tm_cmp (opm_notIn (hr_in hr)) (pm_var 2 (pv 2)) (pm_var 1 (pv 1)) (by with_unfolding_all rfl)) (wm_and1 (tm_cmp (opm_notIn (hr_in hr)) (pm_var 2 (pv 2)) pm_str (by with_unfolding_all rfl))))).pt (sm_one (sm_ret pm_bl)) sm_nil)))
    (sm_one (sm_ret (pm_cmp (opm_notIn (hr_in hr)) (pm_var 0 (pv 0)) (pm_tup (am_cons pm_str (am_cons pm_str (am_cons pm_str (am_cons pm_str (am_cons pm_str (am_cons pm_str (am_cons pm_str (am_cons pm_str (am_cons pm_str (am_cons pm_str (am_cons pm_str am_nil)))))))))))) (by with_unfolding_all rfl)))))))
theorem ok__law_asked {s__law_take s__law_line s__law_same s_words_of s__law_words s_is_name s__law_is_name s_source_lines s__law_source : FM} {f : Addr} {fd : FuncData} (F : Fun K "_law_asked" "_law_asked" s__law_asked f fd) (Z : Zs mg) (C : Cs K mg) (F__law_take : HasF P w K mg base 1 "_law_take" 2 s__law_take) (F__law_line : HasF P w K mg base 3 "_law_line" 1 s__law_line) (F__law_same : HasF P w K mg base 1 "_law_same" 2 s__law_same) (F_words_of : HasF P w K mg base 2 "words_of" 1 s_words_of) (F__law_words : HasF P w K mg base 1 "_law_words" 1 s__law_words) (F_is_name : HasF P w K mg base 1 "is_name" 1 s_is_name) (F__law_is_name : HasF P w K mg base 1 "_law_is_name" 1 s__law_is_name) (F_source_lines : HasF P w K mg base 3 "source_lines" 1 s_source_lines) (F__law_source : HasF P w K mg base 2 "_law_source" 1 s__law_source) :
    FnOk P w K mg base (L2.CX P w) 4 f fd ["pool"] (spM K 1 (fnM 6 (b__law_asked s__law_take s__law_line s__law_same s_words_of s__law_words s_is_name s__law_is_name s_source_lines s__law_source))) :=
  fn_ok (N := N__law_asked) (k := 3) F sc__law_asked (by decide) fun cdv A outer s H E hr =>
    (sm_cons (sm_setCompF (i := 1) (own := [("k", 2)]) rfl sc__law_asked.nd rfl rfl (sw_true rfl rfl rfl (by decide +kernel)) (im_range1 (by rfl) Z.z_range (am_cons (pm_callF F__law_take hr (by decide) (takes_of rfl rfl rfl rfl) (am_cons (pm_var 0 (pv 0)) (am_cons pm_int am_nil)) (mCons_len (mCons_len (fun _ _ _ => mNil_len)))) am_nil)) (blkOk_by (own := [("k", 2)]) (N := N__law_asked) (sc := defScope s__law_asked) (by decide +kernel)) (fun _ _ _ _ _ => (gm_name 2 sc__law_asked.nd rfl (by first | exact .inl rfl | exact .inr rfl))) (fun _ _ _ _ _ => tms_nil) (fun _ _ _ _ _ => (pm_callF F__law_line hr (by decide) takes0 (am_cons (pm_var 0 (pv 0)) am_nil) (mCons_len (fun _ _ _ => mNil_len)))) (by simp))
    (sm_cons (sm_for (passes_of rfl) rfl (im_any (pm_var 1 (pv 1))) (gm_name 3 sc__law_asked.nd rfl (by first | exact .inl rfl | exact .inr rfl)) (sm_cons (sm_if (tm_not (tm_val (pm_callF F__law_same hr (by decide) (takes_of rfl rfl rfl rfl) (am_cons (pm_callF F_words_of hr (by decide) (takes_of rfl rfl rfl rfl) (am_cons (pm_var 3 (pv 3)) am_nil) (mCons_len (fun _ _ _ => mNil_len))) (am_cons (pm_callF F__law_words hr (by decide) (takes_of rfl rfl rfl rfl) (am_cons (pm_var 3 (pv 3)) am_nil) (mCons_len (fun _ _ _ => mNil_len))) am_nil)) (mCons_len (mCons_len (fun _ _ _ => mNil_len)))))) (sm_one (sm_ret pm_bl)) sm_nil)
    (sm_one (sm_for (passes_of rfl) rfl (im_any (pm_sl (pm_callF F__law_words hr (by decide) (takes_of rfl rfl rfl rfl) (am_cons (pm_var 3 (pv 3)) am_nil) (mCons_len (fun _ _ _ => mNil_len))) om_none (om_some pm_int))) (gm_name 4 sc__law_asked.nd rfl (by first | exact .inl rfl | exact .inr rfl)) (sm_one (sm_if (tm_not (tm_val (pm_callF F__law_same hr (by decide) (takes_of rfl rfl rfl rfl) (am_cons (pm_callF F_is_name hr (by decide) (takes_of rfl rfl rfl rfl) (am_cons (pm_var 4 (pv 4)) am_nil) (mCons_len (fun _ _ _ => mNil_len))) (am_cons (pm_callF F__law_is_name hr (by decide) (takes_of rfl rfl rfl rfl) (am_cons (pm_var 4 (pv 4)) am_nil) (mCons_len (fun _ _ _ => mNil_len))) am_nil)) (mCons_len (mCons_len (fun _ _ _ => mNil_len)))))) (sm_one (sm_ret pm_bl)) sm_nil))))))
    (sm_cons (sm_for (passes_of rfl) rfl (im_any (pm_tup (am_cons (pm_smeth1 m_join pm_str (pm_var 1 (pv 1)) PySem.F.slot_str_join PySem.F.type_str_join) (am_cons (pm_bin opm_add (pm_smeth1 m_join pm_str (pm_var 1 (pv 1)) PySem.F.slot_str_join PySem.F.type_str_join) pm_str) (am_cons (pm_bin opm_add pm_str (pm_smeth1 m_join pm_str (pm_var 1 (pv 1)) PySem.F.slot_str_join PySem.F.type_str_join)) (am_cons (pm_smeth1 m_join pm_str (pm_var 1 (pv 1)) PySem.F.slot_str_join PySem.F.type_str_join) am_nil)))))) (gm_name 5 sc__law_asked.nd rfl (by first | exact .inl rfl | exact .inr rfl)) (sm_one (sm_if (tm_not (tm_val (pm_callF F__law_same hr (by decide) (takes_of rfl rfl rfl rfl) (am_cons (pm_callF F_source_lines hr (by decide) (takes_of rfl rfl rfl rfl) (am_cons (pm_var 5 (pv 5)) am_nil) (mCons_len (fun _ _ _ => mNil_len))) (am_cons (pm_callF F__law_source hr (by decide) (takes_of rfl rfl rfl rfl) (am_cons (pm_var 5 (pv 5)) am_nil) (mCons_len (fun _ _ _ => mNil_len))) am_nil)) (mCons_len (mCons_len (fun _ _ _ => mNil_len)))))) (sm_one (sm_ret pm_bl)) sm_nil)))
    (sm_one (sm_ret pm_bl)))))
theorem ok_law {s__law_pool s__law_asked s__law_take s__law_same s_is_name s__law_is_name s_source_lines s__law_source s_words_of : FM} {f : Addr} {fd : FuncData} (F : Fun K "law" "law" s_law f fd) (Z : Zs mg) (C : Cs K mg) (F__law_pool : HasF P w K mg base 1 "_law_pool" 1 s__law_pool) (F__law_asked : HasF P w K mg base 4 "_law_asked" 1 s__law_asked) (F__law_take : HasF P w K mg base 1 "_law_take" 2 s__law_take) (F__law_same : HasF P w K mg base 1 "_law_same" 2 s__law_same) (F_is_name : HasF P w K mg base 1 "is_name" 1 s_is_name) (F__law_is_name : HasF P w K mg base 1 "_law_is_name" 1 s__law_is_name) (F_source_lines : HasF P w K mg base 3 "source_lines" 1 s_source_lines) (F__law_source : HasF P w K mg base 2 "_law_source" 1 s__law_source) (F_words_of : HasF P w K mg base 2 "words_of" 1 s_words_of) :
    FnOk P w K mg base (L2.CX P w) 5 f fd ["script"] (spM K 1 (fnM 6 (b_law s__law_pool s__law_asked s__law_take s__law_same s_is_name s__law_is_name s_source_lines s__law_source s_words_of))) :=
  fn_ok (N := N_law) (k := 4) F sc_law (by decide) fun cdv A outer s H E hr =>
    (sm_cons (sm_set (i := 1) sc_law.nd rfl (by first | exact .inl rfl | exact .inr rfl) (pm_callF F__law_pool hr (by decide) (takes_of rfl rfl rfl rfl) (am_cons (pm_var 0 (pv 0)) am_nil) (mCons_len (fun _ _ _ => mNil_len))))
    (sm_cons (sm_for (passes_of rfl) rfl (im_range1 (by rfl) Z.z_range (am_cons pm_int am_nil)) (gm_name 2 sc_law.nd rfl (by first | exact .inl rfl | exact .inr rfl)) (sm_one (sm_if (tm_not (tm_val (pm_callF F__law_asked hr (by decide) (takes_of rfl rfl rfl rfl) (am_cons (pm_var 1 (pv 1)) am_nil) (mCons_len (fun _ _ _ => mNil_len))))) (sm_one (sm_ret pm_bl)) sm_nil)))
    (sm_cons (sm_set (i := 3) sc_law.nd rfl (by first | exact .inl rfl | exact .inr rfl) (pm_sl pm_str om_none (om_some (pm_bin opm_add pm_int (pm_callF F__law_take hr (by decide) (takes_of rfl rfl rfl rfl) (am_cons (pm_var 1 (pv 1)) (am_cons pm_int am_nil)) (mCons_len (mCons_len (fun _ _ _ => mNil_len))))))))
    (sm_cons (sm_for (passes_of rfl) rfl (im_any (pm_tup (am_cons (pm_var 3 (pv 3)) (am_cons (pm_bin opm_add (pm_var 3 (pv 3)) pm_str) (am_cons (pm_fz (fm_lst (am_cons (pm_var 3 (pv 3)) am_nil))) (am_cons (pm_tup (am_cons (pm_var 3 (pv 3)) am_nil)) (am_cons pm_non (am_cons pm_int (am_cons pm_int (am_cons pm_bl (am_cons pm_str (am_cons (pm_bin opm_add pm_str (pm_var 3 (pv 3))) (am_cons (pm_bin opm_add (pm_var 3 (pv 3)) pm_str) (am_cons (pm_bin opm_add (pm_var 3 (pv 3)) pm_str) (am_cons (pm_smeth0 m_upper (pm_var 3 (pv 3)) PySem.F.slot_str_upper PySem.F.type_str_upper) (am_cons pm_str (am_cons (pm_tup (am_cons pm_str am_nil)) (am_cons (pm_fz (fm_lst am_nil)) (am_cons (pm_sl (pm_var 3 (pv 3)) om_none (om_some pm_int)) (am_cons pm_str (am_cons pm_str (am_cons pm_str am_nil)))))))))))))))))))))) (gm_name 4 sc_law.nd rfl (by first | exact .inl rfl | exact .inr rfl)) (sm_one (sm_if (tm_not (tm_val (pm_callF F__law_same hr (by decide) (takes_of rfl rfl rfl rfl) (am_cons (pm_callF F_is_name hr (by decide) (takes_of rfl rfl rfl rfl) (am_cons (pm_var 4 (pv 4)) am_nil) (mCons_len (fun _ _ _ => mNil_len))) (am_cons (pm_callF F__law_is_name hr (by decide) (takes_of rfl rfl rfl rfl) (am_cons (pm_var 4 (pv 4)) am_nil) (mCons_len (fun _ _ _ => mNil_len))) am_nil)) (mCons_len (mCons_len (fun _ _ _ => mNil_len)))))) (sm_one (sm_ret pm_bl)) sm_nil)))
    (sm_cons (sm_if (tm_cmp (opm_eq hr.units) (pm_callF F__law_take hr (by decide) (takes_of rfl rfl rfl rfl) (am_cons (pm_var 1 (pv 1)) (am_cons pm_int am_nil)) (mCons_len (mCons_len (fun _ _ _ => mNil_len)))) pm_int (nomark _)) (sm_cons (sm_set (i := 5) sc_law.nd rfl (by first | exact .inl rfl | exact .inr rfl) (pm_smeth1 m_join pm_str (pm_frz (pm_comp (own := [("k", 2)]) rfl sc_law.nd (im_range1 (by rfl) Z.z_range (am_cons pm_int am_nil)) (blkOk_by (own := [("k", 2)]) (N := N_law) (sc := defScope s_law) (by decide +kernel)) (fun _ _ _ _ _ => (gm_name 2 sc_law.nd rfl (by first | exact .inl rfl | exact .inr rfl))) (fun _ _ _ _ _ => tms_nil) (fun _ _ _ _ _ => (pm_bin opm_add (pm_bin opm_add (pm_bin opm_add (pm_bin opm_rep pm_str (pm_bin opm_div (pm_var 2 (pv 2)) pm_int)) (pm_bin opm_rep pm_str (pm_bin opm_and (pm_var 2 (pv 2)) pm_int))) pm_str) (pm_callT call_str' Z.z_str (am_cons (pm_var 2 (pv 2)) am_nil) (by decide +kernel)))) (by simp))) PySem.F.slot_str_join PySem.F.type_str_join))
    (sm_one (sm_if ((wm_or (tm_not (tm_val (pm_callF F__law_same hr (by decide) (takes_of rfl rfl rfl rfl) (am_cons (pm_callF F_source_lines hr (by decide) (takes_of rfl rfl rfl rfl) (am_cons (pm_var 5 (pv 5)) am_nil) (mCons_len (fun _ _ _ => mNil_len))) (am_cons (pm_callF F__law_source hr (by decide) (takes_of rfl rfl rfl rfl) (am_cons (pm_var 5 (pv 5)) am_nil) (mCons_len (fun _ _ _ => mNil_len))) am_nil)) (mCons_len (mCons_len (fun _ _ _ => mNil_len)))))) (wm_or1 (tm_not (tm_val (pm_callF F__law_same hr (by decide) (takes_of rfl rfl rfl rfl) (am_cons (pm_callF F_words_of hr (by decide) (takes_of rfl rfl rfl rfl) (am_cons (pm_bin opm_rep pm_str pm_int) am_nil) (mCons_len (fun _ _ _ => mNil_len))) (am_cons (pm_bin opm_rep (pm_tup (am_cons pm_str am_nil)) pm_int) am_nil)) (mCons_len (mCons_len (fun _ _ _ => mNil_len))))))))).pt (sm_one (sm_ret pm_bl)) sm_nil))) sm_nil)
    (sm_one (sm_ret (pm_callF F__law_same hr (by decide) (takes_of rfl rfl rfl rfl) (am_cons (pm_tup (am_cons (pm_callF F_source_lines hr (by decide) (takes_of rfl rfl rfl rfl) (am_cons pm_str am_nil) (mCons_len (fun _ _ _ => mNil_len))) (am_cons (pm_callF F_source_lines hr (by decide) (takes_of rfl rfl rfl rfl) (am_cons pm_str am_nil) (mCons_len (fun _ _ _ => mNil_len))) (am_cons (pm_callF F_source_lines hr (by decide) (takes_of rfl rfl rfl rfl) (am_cons pm_str am_nil) (mCons_len (fun _ _ _ => mNil_len))) (am_cons (pm_callF F_words_of hr (by decide) (takes_of rfl rfl rfl rfl) (am_cons pm_str am_nil) (mCons_len (fun _ _ _ => mNil_len))) (am_cons (pm_callF F_words_of hr (by decide) (takes_of rfl rfl rfl rfl) (am_cons pm_str am_nil) (mCons_len (fun _ _ _ => mNil_len))) am_nil)))))) (am_cons (pm_tup (am_cons (pm_tup am_nil) (am_cons (pm_tup am_nil) (am_cons (pm_tup (am_cons (pm_tup (am_cons pm_int (am_cons (pm_tup (am_cons pm_str am_nil)) am_nil))) am_nil)) (am_cons (pm_tup am_nil) (am_cons (pm_tup am_nil) am_nil)))))) am_nil)) (mCons_len (mCons_len (fun _ _ _ => mNil_len)))))))))))
end
end K01
namespace K01
open PySem L2 Mir
open Classical
/-! ## drawing -/
def IL (xs : List Int) : List D := xs.map D.int
abbrev takeTail : SM := (sSeq (sPutI (fun a b => a + b) (mVar 0) (mC (.int 1)) (mC (.int 1)))
    (sSeq (sPut (mVar 0) (mC (.int 0)) (mBin fMod (mB gInt (mCons (mBin fAdd (mBin fAdd (mBin fMul (mBin fIx (mVar 0) (mC (.int 0))) (mC (.int 48271))) (mBin fMul (mBin fIx (mVar 0) (mC (.int 1))) (mC (.int 7489)))) (mC (.int 13))) mNil)) (mC (.int 2147483647))))
    (sRet (mBin fMod (mB gInt (mCons (mBin fDiv (mBin fIx (mVar 0) (mC (.int 0))) (mC (.int 96))) mNil)) (mVar 1)))))
theorem take_tail (h : MH) (n : Nat) (a b many : Int) (gs : List Int) (v : Option D) (hp : h[n]? = some (.lst (IL (a :: b :: gs)))) (m0 : 0 < many) (m1 : many < 1073741824) :
    ∃ a' b' r Γ, takeTail [some (.ref n), some (.int many), v] h = .ok (.rt (.int r), Γ, h.set n (.lst (IL (a' :: b' :: gs)))) ∧ 0 ≤ r ∧ r < many := by
  have e0 : ixN (gs.length + 1 + 1) 1 = some 1 := by simp [ixN]; omega
  have e1 : ixN (gs.length + 1 + 1) 0 = some 0 := by simp [ixN]; omega
  have s1 := fun x : O => set_at (x := x) hp
  refine ⟨(a * 48271 + (b + 1) * 7489 + 13) % 2147483647, b + 1, (a * 48271 + (b + 1) * 7489 + 13) % 2147483647 / 96 % many, [some (.ref n), some (.int many), v], ?_, Int.emod_nonneg _ (by omega), Int.emod_lt_of_pos _ m0⟩
  simp [fnM, sSeq, sSet, sIf, sRet, sRetN, sExpr, sNil, sAsg, sPut, sPutI, sAug, sPar, sBreak, sCont, mVar, mC, mBin, mUn, mIf, mNil, mCons, mTup, mFz, mNew, mLst, mTr, mTB, mB, mBF, mMeth, mIsi, mCall, mSl, mChain, mAnd, mOr, mNot, tAndM, tOrM, tNotM, okL, okS, asBl, truthD, gNm, gTp, gsCons, gsNil, hp, getI, setD, fIx, seqOf, atI, IL, e0, e1, fMul, fMod, fDiv, fAdd, gInt, CMul, CDiv, m0, s1]
/-- pools: at least two ints -/
def Pool (h : MH) (n : Nat) : Prop := ∃ a b gs, h[n]? = some (.lst (IL (a :: b :: gs))) ∧ gs.length ≤ 63
theorem take_run (h : MH) (n : Nat) (many : Int) (hp : Pool h n) (m0 : 0 < many) (m1 : many < 1073741824) :
    ∃ r h', fnM 3 b__law_take [.ref n, .int many] h = .ok (.int r, h') ∧ 0 ≤ r ∧ r < many ∧ Pool h' n ∧ ∃ o, h' = h.set n o := by
  obtain ⟨a, b, gs, hp, hl⟩ := hp
  have s1 := fun x : O => set_at (x := x) hp
  rcases List.eq_nil_or_concat gs with rfl | ⟨g0, g, rfl⟩
  · obtain ⟨a', b', r, Γ, e, r0, r1⟩ := take_tail h n a b many [] none hp m0 m1
    refine ⟨r, _, ?_, r0, r1, ⟨a', b', [], s1 _, by simp⟩, _, rfl⟩
    have : b__law_take = sSeq _ takeTail := rfl
    rw [this]
    generalize takeTail = T at e
    simp [fnM, sSeq, sSet, sIf, sRet, sRetN, sExpr, sNil, sAsg, sPut, sPutI, sAug, sPar, sBreak, sCont, mVar, mC, mBin, mUn, mIf, mNil, mCons, mTup, mFz, mNew, mLst, mTr, mTB, mB, mBF, mMeth, mIsi, mCall, mSl, mChain, mAnd, mOr, mNot, tAndM, tOrM, tNotM, okL, okS, asBl, truthD, gNm, gTp, gsCons, gsNil, hp, lenD, gLen, seqOf, IL, fGt, e]
  · have len : ((g0.concat g).length : Int) = g0.length + 1 := by simp
    have hc : IL (a :: b :: g0.concat g) = IL (a :: b :: g0) ++ [.int g] := by simp [IL]
    have hp2 := hp
    rw [hc] at hp2
    have hd : (IL (a :: b :: g0)).length = g0.length + 2 := by simp [IL]
    simp only [List.length_concat] at hl
    have q0 : (2 : Int) < g0.length + 2 + 1 := by omega
    by_cases hg : 1 < g
    · refine ⟨g % many, h.set n (.lst (IL (a :: b :: g0.concat (g / many)))), ?_, Int.emod_nonneg _ (by omega), Int.emod_lt_of_pos _ m0, ⟨a, b, _, s1 _, by simp; omega⟩, _, rfl⟩
      have hc2 : IL (a :: b :: g0.concat (g / many)) = IL (a :: b :: g0) ++ [.int (g / many)] := by simp [IL]
      rw [hc2]
      have q1 : g0.length + 2 < 1000000 := by omega
      simp [fnM, sSeq, sSet, sIf, sRet, sRetN, sExpr, sNil, sAsg, sPut, sPutI, sAug, sPar, sBreak, sCont, mVar, mC, mBin, mUn, mIf, mNil, mCons, mTup, mFz, mNew, mLst, mTr, mTB, mB, mBF, mMeth, mIsi, mCall, mSl, mChain, mAnd, mOr, mNot, tAndM, tOrM, tNotM, okL, okS, asBl, truthD, gNm, gTp, gsCons, gsNil, b__law_take, hp2, lenD, gLen, seqOf, lstOf, hd, fGt, gPop, gAppend, fDiv, CDiv, fMod, gInt, m0, m1, hg, s1, q0, q1]
    · obtain ⟨a', b', r, Γ, e, r0, r1⟩ := take_tail (h.set n (.lst (IL (a :: b :: g0)))) n a b many g0 (some (.int g)) (s1 _) m0 m1
      refine ⟨r, _, ?_, r0, r1, ⟨a', b', g0, s1 _, by omega⟩, _, rfl⟩
      have : b__law_take = sSeq _ takeTail := rfl
      rw [this]
      rw [set_twice] at e
      generalize takeTail = T at e
      simp [fnM, sSeq, sSet, sIf, sRet, sRetN, sExpr, sNil, sAsg, sPut, sPutI, sAug, sPar, sBreak, sCont, mVar, mC, mBin, mUn, mIf, mNil, mCons, mTup, mFz, mNew, mLst, mTr, mTB, mB, mBF, mMeth, mIsi, mCall, mSl, mChain, mAnd, mOr, mNot, tAndM, tOrM, tNotM, okL, okS, asBl, truthD, gNm, gTp, gsCons, gsNil, hp2, lenD, gLen, seqOf, lstOf, hd, fGt, gPop, hg, s1, q0, e]
end K01
namespace K01
open PySem L2 Mir
open Classical
/-! ## texts, in plain lists -/
abbrev toS (l : List Nat) : Str := ⟨l.toArray⟩
theorem toS_tl (s : Str) : toS s.cps.toList = s := by cases s; rfl
def splitA (c : Nat) : List Nat → List Nat → List (List Nat)
  | [], cur => [cur]
  | x :: r, cur => if x = c then cur :: splitA c r [] else splitA c r (cur ++ [x])
def glue (c : Nat) : List (List Nat) → List Nat
  | [] => []
  | [p] => p
  | p :: q :: r => p ++ c :: glue c (q :: r)
theorem splitA_cons {c x : Nat} {r cur : List Nat} : splitA c (x :: r) cur = if x = c then cur :: splitA c r [] else splitA c r (cur ++ [x]) := rfl
theorem splitA_free {c : Nat} : ∀ (p rest cur : List Nat), c ∉ p → splitA c (p ++ rest) cur = splitA c rest (cur ++ p)
  | [], rest, cur, _ => by simp
  | x :: p, rest, cur, h => by
    have h1 : x ≠ c := fun e => h (by simp [e])
    have h2 : c ∉ p := fun e => h (by simp [e])
    rw [List.cons_append, splitA_cons, if_neg h1, splitA_free p rest _ h2, List.append_assoc]
    rfl
theorem splitA_glue {c : Nat} : ∀ (ps : List (List Nat)), ps ≠ [] → (∀ p ∈ ps, c ∉ p) → splitA c (glue c ps) [] = ps
  | [], h, _ => absurd rfl h
  | [p], _, h => by
    have := splitA_free p [] [] (h p (by simp))
    rw [List.append_nil] at this
    simp [glue, this, splitA]
  | p :: q :: r, _, h => by
    unfold glue
    rw [splitA_free p _ [] (h p (by simp))]
    unfold splitA
    rw [if_pos rfl, splitA_glue (q :: r) (by simp) fun x hx => h x (List.mem_cons_of_mem _ hx)]
    simp
theorem join_glue {c : Nat} : ∀ (ps : List Str), (Str.join (toS [c]) ps).cps.toList = glue c (ps.map fun p => p.cps.toList)
  | [] => rfl
  | [p] => rfl
  | p :: q :: r => by
    show (p ++ toS [c] ++ Str.join (toS [c]) (q :: r)).cps.toList = _
    have e := join_glue (c := c) (q :: r)
    show (p.cps ++ (toS [c]).cps ++ (Str.join (toS [c]) (q :: r)).cps).toList = _
    rw [Array.toList_append, Array.toList_append, e]
    simp [glue]
theorem split_is (s : Str) (c : Nat) : Txt.split s (toS [c]) = (splitA c s.cps.toList []).map toS := by
  have h1 := StrLaws.join_split s (toS [c])
  have h2 := StrLaws.split_free s c
  have h3 := PyProof.Rows.split_pos s (toS [c])
  generalize Txt.split s (toS [c]) = ps at *
  have e := join_glue (c := c) ps
  rw [h1] at e
  rw [e, splitA_glue]
  · rw [List.map_map]
    have : (toS ∘ fun p : Str => p.cps.toList) = id := funext fun p => toS_tl p
    rw [this, List.map_id]
  · intro z
    have : ps = [] := List.map_eq_nil_iff.mp z
    rw [this] at h3; simp at h3
  · intro p hp
    obtain ⟨q, hq, rfl⟩ := List.mem_map.mp hp
    exact h2 q hq
/-- the words of a line, with the word that has begun -/
def scanW : List Nat → List Nat → List (List Nat)
  | [], cur => if cur = [] then [] else [cur]
  | c :: r, cur => if c = 32 then (if cur = [] then scanW r [] else cur :: scanW r []) else scanW r (cur ++ [c])
theorem words_same : ∀ (l cur : List Nat), (splitA 32 l cur).filter (fun w => decide (w ≠ [])) = scanW l cur
  | [], cur => by
    unfold splitA scanW
    by_cases h : cur = [] <;> simp [h]
  | c :: r, cur => by
    unfold splitA scanW
    by_cases h : c = 32
    · rw [if_pos h, if_pos h]
      by_cases h2 : cur = []
      · rw [List.filter_cons, if_pos h2, if_neg (by simp [h2]), words_same r []]
      · rw [List.filter_cons, if_neg h2, if_pos (by simp [h2]), words_same r []]
    · rw [if_neg h, if_neg h, words_same r]
def live (ws : List (List Nat)) : Bool := match ws with
  | (c :: _) :: _ => c != 35
  | _ => false
def srcL : List (List Nat) → Nat → List (Nat × List (List Nat))
  | [], _ => []
  | l :: ls, k => if live (scanW l []) = true then (k, scanW l []) :: srcL ls (k + 1) else srcL ls (k + 1)
/-- the lines of a text -/
def linesA (t : List Nat) : List (List Nat) := if (splitA 10 t []).getLast? = some [] then (splitA 10 t []).dropLast else splitA 10 t []
def scanS : List Nat → List Nat → Nat → List (Nat × List (List Nat))
  | [], _, _ => []
  | c :: r, cur, k => if c = 10 then (if live (scanW cur []) = true then (k, scanW cur []) :: scanS r [] (k + 1) else scanS r [] (k + 1)) else scanS r (cur ++ [c]) k
theorem scanS_lines : ∀ (t cur : List Nat) (k : Nat), scanS (t ++ [10]) cur k = srcL (splitA 10 t cur) k
  | [], cur, k => by simp [scanS, splitA, srcL]
  | c :: t, cur, k => by
    rw [List.cons_append]
    unfold scanS splitA
    by_cases h : c = 10
    · rw [if_pos h, if_pos h, scanS_lines t [] (k + 1)]
      rfl
    · rw [if_neg h, if_neg h, scanS_lines t _ k]
theorem splitA_nl : ∀ (t cur : List Nat), splitA 10 (t ++ [10]) cur = splitA 10 t cur ++ [[]]
  | [], cur => by simp [splitA]
  | c :: t, cur => by
    rw [List.cons_append]
    unfold splitA
    by_cases h : c = 10
    · rw [if_pos h, if_pos h, splitA_nl t, List.cons_append]
    · rw [if_neg h, if_neg h, splitA_nl t]
theorem splitA_ne (c : Nat) : ∀ (t cur : List Nat), splitA c t cur ≠ []
  | [], cur => by simp [splitA]
  | x :: t, cur => by
    unfold splitA
    split
    · simp
    · exact splitA_ne c t _
theorem splitA_last : ∀ (t cur : List Nat) (x : Nat), x ≠ 10 → (splitA 10 (t ++ [x]) cur).getLast? ≠ some []
  | [], cur, x, h => by simp [splitA, h]
  | c :: t, cur, x, h => by
    rw [List.cons_append]
    unfold splitA
    split
    · rw [List.getLast?_cons_of_ne_nil (splitA_ne 10 _ _)]
      exact splitA_last t [] x h
    · exact splitA_last t _ x h
/-- text', as the law has it -/
def ended (t : List Nat) : List Nat := if t = [] ∨ t.getLast? = some 10 then t else t ++ [10]
theorem src_same (t : List Nat) : scanS (ended t) [] 1 = srcL (linesA t) 1 := by
  rcases List.eq_nil_or_concat t with rfl | ⟨u, x, rfl⟩
  · simp [ended, linesA, splitA, scanS, srcL]
  · rw [List.concat_eq_append]
    by_cases h : x = 10
    · subst h
      rw [ended, if_pos (by simp), scanS_lines]
      unfold linesA
      rw [splitA_nl, if_pos (by simp), List.dropLast_concat]
    · rw [ended, if_neg (by simp [h]), scanS_lines]
      unfold linesA
      rw [if_neg (splitA_last u [] x h)]
/-! as data -/
def wD (ws : List (List Nat)) : List D := ws.map fun w => .str (toS w)
def srcD (xs : List (Nat × List (List Nat))) : List D := xs.map fun p => .tup [.int p.1, .tup (wD p.2)]
end K01
namespace K01
open PySem L2 Mir
open Classical
/-! ## the program's own functions, run -/
theorem sp_ : (" " : Str) = toS [32] := by decide +kernel
theorem nl_ : ("\n" : Str) = toS [10] := by decide +kernel
theorem em_ : ("" : Str) = toS [] := by decide +kernel
theorem ha_ : ("#" : Str) = toS [35] := by decide +kernel
theorem str_inj {a b : List Nat} : toS a = toS b ↔ a = b := ⟨fun h => by simpa using congrArg (fun x : Str => x.cps.toList) h, fun h => by rw [h]⟩
theorem toS_len (a : List Nat) : (toS a).length = a.length := by simp [Str.length, toS]
theorem splitA_len (c : Nat) : ∀ (l cur : List Nat), (splitA c l cur).length ≤ l.length + 1
  | [], cur => by simp [splitA]
  | x :: l, cur => by
    rw [splitA_cons]
    split
    · have := splitA_len c l []
      simp; omega
    · have := splitA_len c l (cur ++ [x])
      simp; omega
theorem run_split {Γ : Mir.Env} {h : MH} {i : Nat} {s : Str} {t : Str} {c : Nat} (hv : Γ[i]? = some (some (D.str s))) (ht : t = toS [c]) (hs : s.length ≤ 100000) :
    mSplit (mVar i) (mC (.str t)) Γ h = .ok ((splitA c s.cps.toList []).map fun w => D.str (toS w), h) := by
  have h1 : (toS [c]).length ≠ 0 := by rw [toS_len]; simp
  have h2 : s.length + 2 ≤ 1000000 := by omega
  subst ht
  simp only [mSplit, mVar, hv, R.bind_ok, okS, if_true, mC, gSplit]
  rw [if_pos ⟨h1, h2⟩]
  simp only [R.ofO_some, R.bind_ok]
  rw [split_is, List.map_map]
  rfl
theorem run_wol (s : Str) (h : MH) (hs : s.length ≤ 100000) : fnM 2 b_words_of_line [.str s] h = .ok (.fl (wD (scanW s.cps.toList [])), h) := by
  have key : mFrz (mCompN (iAny (mFz (mSplit (mVar 0) (mC (.str " "))))) (gNm 1) (mTB (mBin fNe (mVar 1) (mC (.str "")))) (mVar 1) [1]) [some (.str s), none] h = .ok (.fl (wD (scanW s.cps.toList [])), h) := by
    rw [frz_pure (ds := (splitA 32 s.cps.toList []).map fun w => D.str (toS w)) (fun d => !deq d (.str "")) id]
    · rw [← words_same, List.map_id, List.filter_map, wD]
      congr 5
      funext w
      simp only [Function.comp, deq, em_, ne_eq]
      by_cases z : w = []
      · subst z; simp
      · simp [z, str_inj]
    · have e := run_split (Γ := [some (D.str s), none]) (h := h) (i := 0) (t := " ") rfl sp_ hs
      simp [fnM, sSeq, sSet, sIf, sRet, sRetN, sExpr, sNil, sAsg, sPut, sPutI, sAug, sPar, sBreak, sCont, mVar, mC, mBin, mUn, mIf, mNil, mCons, mTup, mFz, mNew, mLst, mTr, mTB, mB, mBF, mMeth, mIsi, mCall, mSl, mChain, mAnd, mOr, mNot, tAndM, tOrM, tNotM, okL, okS, asBl, truthD, gNm, gTp, gsCons, gsNil, iAny, e, itemsOf, liveOf]
    · have := splitA_len 32 s.cps.toList []
      have l : s.cps.toList.length = s.length := by simp [Str.length]
      rw [List.length_map]; omega
    · intro d hd h'
      obtain ⟨w, _, rfl⟩ := List.mem_map.mp hd
      simp [fnM, sSeq, sSet, sIf, sRet, sRetN, sExpr, sNil, sAsg, sPut, sPutI, sAug, sPar, sBreak, sCont, mVar, mC, mBin, mUn, mIf, mNil, mCons, mTup, mFz, mNew, mLst, mTr, mTB, mB, mBF, mMeth, mIsi, mCall, mSl, mChain, mAnd, mOr, mNot, tAndM, tOrM, tNotM, okL, okS, asBl, truthD, gNm, gTp, gsCons, gsNil, wipeΓ, fNe, scalD]
    · intro d hd _
      obtain ⟨w, _, rfl⟩ := List.mem_map.mp hd
      simp [closedD]
  exact fnM_rt (sRet_ok key)
end K01
namespace K01
open PySem L2 Mir
open Classical
theorem re_ok {α : Type} {r : R α} {Γ : Mir.Env} {a : α} (e : r = .ok a) : r.re Γ = .ok a := by rw [e]; rfl
theorem run_words_of {S : FM} {s : Str} {h : MH} {ws : List D} (hS : S [.str s] h = .ok (.fl ws, h)) : fnM 1 (b_words_of S) [.str s] h = .ok (.tup ws, h) := by
  simp [fnM, sSeq, sSet, sIf, sRet, sRetN, sExpr, sNil, sAsg, sPut, sPutI, sAug, sPar, sBreak, sCont, mVar, mC, mBin, mUn, mIf, mNil, mCons, mTup, mFz, mNew, mLst, mTr, mTB, mB, mBF, mMeth, mIsi, mCall, mSl, mChain, mAnd, mOr, mNot, tAndM, tOrM, tNotM, okL, okS, asBl, truthD, gNm, gTp, gsCons, gsNil, b_words_of, hS, gTuple, seqOf]
theorem atI_neg1 {α : Type} (xs : List α) : atI xs (-1) = xs.getLast? := by
  rcases List.eq_nil_or_concat xs with rfl | ⟨ys, y, rfl⟩
  · rfl
  · rw [List.concat_eq_append, atI_last]; simp
def strD (ls : List (List Nat)) : List D := ls.map fun w => .str (toS w)
theorem run_lines_of {s : Str} {h : MH} (hs : s.length ≤ 100000) : fnM 2 b_lines_of [.str s] h = .ok (.ref h.length, h ++ [.lst (strD (linesA s.cps.toList))]) := by
  have e := run_split (Γ := [some (D.str s), none]) (h := h) (i := 0) (t := "\n") rfl nl_ hs
  have e : mSplit (mVar 0) (mC (.str "\n")) [some (D.str s), none] h = .ok (strD (splitA 10 s.cps.toList []), h) := e
  unfold linesA
  have ne := splitA_ne 10 s.cps.toList []
  generalize splitA 10 s.cps.toList [] = ls at *
  rcases List.eq_nil_or_concat ls with rfl | ⟨ys, y, rfl⟩
  · exact absurd rfl ne
  · rw [List.concat_eq_append] at *
    have e2 : strD (ys ++ [y]) = strD ys ++ [.str (toS y)] := by simp [strD]
    have a1 : atI (strD ys ++ [D.str (toS y)]) (-1) = some (.str (toS y)) := by rw [atI_neg1]; simp
    by_cases hy : y = []
    · subst hy
      simp [fnM, sSeq, sSet, sIf, sRet, sRetN, sExpr, sNil, sAsg, sPut, sPutI, sAug, sPar, sBreak, sCont, mVar, mC, mBin, mUn, mIf, mNil, mCons, mTup, mFz, mNew, mLst, mTr, mTB, mB, mBF, mMeth, mIsi, mCall, mSl, mChain, mAnd, mOr, mNot, tAndM, tOrM, tNotM, okL, okS, asBl, truthD, gNm, gTp, gsCons, gsNil, b_lines_of, e, fIx, seqOf, new_at, fNeg, a1, e2, fEq, scalD, deq, em_, gPop, lstOf, new_set]
    · simp [fnM, sSeq, sSet, sIf, sRet, sRetN, sExpr, sNil, sAsg, sPut, sPutI, sAug, sPar, sBreak, sCont, mVar, mC, mBin, mUn, mIf, mNil, mCons, mTup, mFz, mNew, mLst, mTr, mTB, mB, mBF, mMeth, mIsi, mCall, mSl, mChain, mAnd, mOr, mNot, tAndM, tOrM, tNotM, okL, okS, asBl, truthD, gNm, gTp, gsCons, gsNil, b_lines_of, e, fIx, seqOf, new_at, fNeg, a1, e2, fEq, scalD, deq, em_, str_inj, hy]
end K01
namespace K01
open PySem L2 Mir
open Classical
theorem scanW_ne : ∀ (l cur : List Nat), ∀ w ∈ scanW l cur, w ≠ []
  | [], cur, w, h => by
    unfold scanW at h
    split at h
    · simp at h
    · rename_i hc; rw [List.mem_singleton.mp h]; exact hc
  | c :: r, cur, w, h => by
    unfold scanW at h
    split at h
    · split at h
      · exact scanW_ne r [] w h
      · rename_i hc
        rcases List.mem_cons.mp h with rfl | h
        · exact hc
        · exact scanW_ne r [] w h
    · exact scanW_ne r _ w h
theorem scanW_len : ∀ (l cur : List Nat), (scanW l cur).length ≤ l.length + 1
  | [], cur => by unfold scanW; split <;> simp
  | c :: r, cur => by
    unfold scanW
    have h1 := scanW_len r []
    have h2 := scanW_len r (cur ++ [c])
    split
    · split
      · simp; omega
      · simp; omega
    · simp; omega
theorem scanW_size : ∀ (l cur : List Nat), ∀ w ∈ scanW l cur, w.length ≤ cur.length + l.length
  | [], cur, w, h => by
    unfold scanW at h
    split at h
    · simp at h
    · rw [List.mem_singleton.mp h]; simp
  | c :: r, cur, w, h => by
    unfold scanW at h
    split at h
    · split at h
      · have := scanW_size r [] w h; simp at this; simp; omega
      · rcases List.mem_cons.mp h with rfl | h
        · simp
        · have := scanW_size r [] w h; simp at this; simp; omega
    · have := scanW_size r _ w h; simp at this; simp; omega
theorem starts_one (c x : Nat) (r : List Nat) : Txt.startswith (toS (x :: r)) (toS [c]) = (x == c) := by
  unfold Txt.startswith Builtin.Str.subAt
  simp only [toS_len]
  have e : (Array.extract (toS (x :: r)).cps 0 (0 + [c].length)) = #[x] := by
    apply Array.toList_inj.mp
    simp [Array.toList_extract]
  rw [e]
  have l : decide (0 + [c].length ≤ (x :: r).length) = true := by simp
  rw [l, Bool.true_and]
  show (#[x] == #[c]) = _
  by_cases q : x = c
  · subst q; simp
  · simp [q]
theorem run_passed {ws : List (List Nat)} {h : MH} (hw : ∀ w ∈ ws, w ≠ []) : fnM 1 b_is_passed_over [.fl (wD ws)] h = .ok (.bl (!live ws), h) := by
  cases ws with
  | nil => simp [fnM, sSeq, sSet, sIf, sRet, sRetN, sExpr, sNil, sAsg, sPut, sPutI, sAug, sPar, sBreak, sCont, mVar, mC, mBin, mUn, mIf, mNil, mCons, mTup, mFz, mNew, mLst, mTr, mTB, mB, mBF, mMeth, mIsi, mCall, mSl, mChain, mAnd, mOr, mNot, tAndM, tOrM, tNotM, okL, okS, asBl, truthD, gNm, gTp, gsCons, gsNil, b_is_passed_over, lenD, gLen, seqOf, wD, fEq, scalD, deq, live]
  | cons w ws =>
    cases w with
    | nil => exact absurd rfl (hw [] (by simp))
    | cons c r =>
      have e0 : atI (D.str (toS (c :: r)) :: wD ws) 0 = some (.str (toS (c :: r))) := atI_nat (j := 0) rfl
      have e1 : ((wD ws).length : Int) + 1 ≠ 0 := by omega
      have hw' : wD ((c :: r) :: ws) = D.str (toS (c :: r)) :: wD ws := rfl
      simp [fnM, sSeq, sSet, sIf, sRet, sRetN, sExpr, sNil, sAsg, sPut, sPutI, sAug, sPar, sBreak, sCont, mVar, mC, mBin, mUn, mIf, mNil, mCons, mTup, mFz, mNew, mLst, mTr, mTB, mB, mBF, mMeth, mIsi, mCall, mSl, mChain, mAnd, mOr, mNot, tAndM, tOrM, tNotM, okL, okS, asBl, truthD, gNm, gTp, gsCons, gsNil, b_is_passed_over, lenD, gLen, seqOf, hw', fEq, scalD, deq, live, e1, fIx, e0, gStarts, ha_, starts_one, bne]
def readD (xs : List (Nat × List (List Nat))) : List D := xs.map fun p => .tup [.int p.1, .fl (wD p.2)]
theorem pairI_go (f : Nat → D → D) : ∀ (xs : List D) (k : Nat), (xs.mapIdx fun i d => f (i + k) d) = match xs with | [] => [] | x :: r => f k x :: (r.mapIdx fun i d => f (i + (k + 1)) d)
  | [], k => rfl
  | x :: r, k => by
    rw [List.mapIdx_cons]
    simp only [Nat.zero_add]
    congr 1
    congr 1
    funext i d
    congr 1
    omega
/-- the rows of read_lines from line k on -/
def rowsF (k : Nat) (ls : List (List Nat)) : List D := (strD ls).mapIdx fun i d => .tup [.int ((i + k : Nat) : Int), d]
theorem rowsF_cons (k : Nat) (l : List Nat) (ls : List (List Nat)) : rowsF k (l :: ls) = .tup [.int k, .str (toS l)] :: rowsF (k + 1) ls := by
  unfold rowsF strD
  rw [List.map_cons, pairI_go (fun i d => D.tup [.int (i : Nat), d])]
abbrev readBody (Sw Sp : FM) : SM := (sSeq (sSet 4 (mCall Sw (mCons (mVar 3) mNil)))
    (sIf (tNotM (mTB (mCall Sp (mCons (mVar 4) mNil)))) (sExpr (mMeth okL gAppend (mVar 1) (mCons (mTup (mCons (mBin fAdd (mVar 2) (mC (.int 1))) (mCons (mVar 4) mNil))) mNil))) sNil))
theorem read_loop {Sw Sp : FM} {x0 : Option D} {n : Nat} (hSw : ∀ (l : List Nat) h, l.length ≤ 100000 → Sw [.str (toS l)] h = .ok (.fl (wD (scanW l [])), h)) (hSp : ∀ (ws : List (List Nat)) h, (∀ w ∈ ws, w ≠ []) → Sp [.fl (wD ws)] h = .ok (.bl (!live ws), h)) :
    ∀ (ls : List (List Nat)) (k : Nat) (acc : List (Nat × List (List Nat))) (h : MH) (x2 x3 x4 : Option D), (∀ l ∈ ls, l.length ≤ 100000) → h[n]? = some (.lst (readD acc)) → acc.length + ls.length ≤ 500000 →
    ∃ y2 y3 y4, loop none (stepOf (gTp 2 (gsCons (gNm 2) (gsCons (gNm 3) gsNil))) (readBody Sw Sp)) (rowsF k ls) [x0, some (.ref n), x2, x3, x4] h = .ok (.nx, [x0, some (.ref n), y2, y3, y4], h.set n (.lst (readD (acc ++ srcL ls (k + 1)))))
  | [], k, acc, h, x2, x3, x4, _, hn, _ => ⟨x2, x3, x4, by
      have : h.set n (.lst (readD acc)) = h := by
        apply List.ext_getElem?
        intro i
        by_cases q : i = n
        · subst q; rw [set_at hn, hn]
        · rw [List.getElem?_set_ne (Ne.symm q)]
      simp [rowsF, strD, srcL, this]⟩
  | l :: ls, k, acc, h, x2, x3, x4, hl, hn, hc => by
    have l0 : l.length ≤ 100000 := hl l (by simp)
    have hl' : ∀ l ∈ ls, l.length ≤ 100000 := fun x hx => hl x (List.mem_cons_of_mem _ hx)
    simp only [List.length_cons] at hc
    rw [rowsF_cons]
    have w1 := hSw l h l0
    have w2 := hSp (scanW l []) h (scanW_ne l [])
    cases hv : live (scanW l []) with
    | false =>
      have st : stepOf (gTp 2 (gsCons (gNm 2) (gsCons (gNm 3) gsNil))) (readBody Sw Sp) (.tup [.int k, .str (toS l)]) [x0, some (.ref n), x2, x3, x4] h = .ok (.nx, [x0, some (.ref n), some (.int k), some (.str (toS l)), some (.fl (wD (scanW l [])))], h) := by
        simp [fnM, sSeq, sSet, sIf, sRet, sRetN, sExpr, sNil, sAsg, sPut, sPutI, sAug, sPar, sBreak, sCont, mVar, mC, mBin, mUn, mIf, mNil, mCons, mTup, mFz, mNew, mLst, mTr, mTB, mB, mBF, mMeth, mIsi, mCall, mSl, mChain, mAnd, mOr, mNot, tAndM, tOrM, tNotM, okL, okS, asBl, truthD, gNm, gTp, gsCons, gsNil, stepOf, w1, w2, hv]
      rw [loop_nx0 st]
      obtain ⟨y2, y3, y4, e⟩ := read_loop hSw hSp ls (k + 1) acc h _ _ _ hl' hn (by omega)
      refine ⟨y2, y3, y4, ?_⟩
      rw [e]
      have : srcL (l :: ls) (k + 1) = srcL ls (k + 1 + 1) := by rw [srcL, if_neg (by simp [hv])]
      rw [this]
    | true =>
      have lt : (readD acc).length < 1000000 := by simp [readD]; omega
      have st : stepOf (gTp 2 (gsCons (gNm 2) (gsCons (gNm 3) gsNil))) (readBody Sw Sp) (.tup [.int k, .str (toS l)]) [x0, some (.ref n), x2, x3, x4] h = .ok (.nx, [x0, some (.ref n), some (.int k), some (.str (toS l)), some (.fl (wD (scanW l [])))], h.set n (.lst (readD (acc ++ [(k + 1, scanW l [])])))) := by
        have e : readD (acc ++ [(k + 1, scanW l [])]) = readD acc ++ [.tup [.int ((k : Int) + 1), .fl (wD (scanW l []))]] := by simp [readD]
        rw [e]
        simp [fnM, sSeq, sSet, sIf, sRet, sRetN, sExpr, sNil, sAsg, sPut, sPutI, sAug, sPar, sBreak, sCont, mVar, mC, mBin, mUn, mIf, mNil, mCons, mTup, mFz, mNew, mLst, mTr, mTB, mB, mBF, mMeth, mIsi, mCall, mSl, mChain, mAnd, mOr, mNot, tAndM, tOrM, tNotM, okL, okS, asBl, truthD, gNm, gTp, gsCons, gsNil, stepOf, w1, w2, hv, fAdd, lstOf, hn, gAppend, lt]
      rw [loop_nx0 st]
      obtain ⟨y2, y3, y4, e⟩ := read_loop hSw hSp ls (k + 1) (acc ++ [(k + 1, scanW l [])]) (h.set n (.lst (readD (acc ++ [(k + 1, scanW l [])])))) (some (.int k)) (some (.str (toS l))) (some (.fl (wD (scanW l [])))) hl' (set_at hn) (by simp; omega)
      refine ⟨y2, y3, y4, ?_⟩
      rw [e, set_twice]
      have : srcL (l :: ls) (k + 1) = (k + 1, scanW l []) :: srcL ls (k + 1 + 1) := by rw [srcL, if_pos hv]
      rw [this]
      simp
end K01
namespace K01
open PySem L2 Mir
open Classical
theorem splitA_size (c : Nat) : ∀ (l cur : List Nat), ∀ w ∈ splitA c l cur, w.length ≤ cur.length + l.length
  | [], cur, w, h => by simp [splitA] at h; subst h; simp
  | x :: l, cur, w, h => by
    rw [splitA_cons] at h
    split at h
    · rcases List.mem_cons.mp h with rfl | h
      · simp
      · have := splitA_size c l [] w h; simp at this; simp; omega
    · have := splitA_size c l _ w h; simp at this; simp; omega
theorem linesA_size {t : List Nat} : ∀ w ∈ linesA t, w.length ≤ t.length := fun w hw => by
  have hw : w ∈ splitA 10 t [] := by
    unfold linesA at hw
    split at hw
    · exact (List.dropLast_sublist _).subset hw
    · exact hw
  simpa using splitA_size 10 t [] w hw
theorem linesA_len {t : List Nat} : (linesA t).length ≤ t.length + 1 := by
  have := splitA_len 10 t []
  unfold linesA
  split
  · simp; omega
  · exact this
theorem srcL_len : ∀ (ls : List (List Nat)) (k : Nat), (srcL ls k).length ≤ ls.length
  | [], k => by simp [srcL]
  | l :: ls, k => by
    have := srcL_len ls (k + 1)
    unfold srcL
    split
    · simp; omega
    · simp; omega
theorem run_read {Sl Sw Sp : FM} {s : Str} {h : MH} (hs : s.length ≤ 100000) (hSl : ∀ h, Sl [.str s] h = .ok (.fl (strD (linesA s.cps.toList)), h))
    (hSw : ∀ (l : List Nat) h, l.length ≤ 100000 → Sw [.str (toS l)] h = .ok (.fl (wD (scanW l [])), h)) (hSp : ∀ (ws : List (List Nat)) h, (∀ w ∈ ws, w ≠ []) → Sp [.fl (wD ws)] h = .ok (.bl (!live ws), h)) :
    fnM 5 (b_read_lines Sl Sw Sp) [.str s] h = .ok (.ref h.length, h ++ [.lst (readD (srcL (linesA s.cps.toList) 1))]) := by
  have l0 : s.cps.toList.length = s.length := by simp [Str.length]
  have ll := linesA_len (t := s.cps.toList)
  obtain ⟨y2, y3, y4, e⟩ := read_loop (x0 := some (.str s)) (n := h.length) hSw hSp (linesA s.cps.toList) 0 [] (h ++ [.lst []]) none none none (fun l hl => by have := linesA_size l hl; omega) new_at (by simp; omega)
  refine fnM_rt (Γ := [some (.str s), some (.ref h.length), y2, y3, y4]) ?_
  have b : b_read_lines Sl Sw Sp = sSeq (sSet 1 (mNew (mLst mNil))) (sSeq (sFor (iEnumM (mCons (mCall Sl (mCons (mVar 0) mNil)) mNil)) (gTp 2 (gsCons (gNm 2) (gsCons (gNm 3) gsNil))) (readBody Sw Sp)) (sRet (mVar 1))) := rfl
  rw [b]
  have p : pairI (strD (linesA s.cps.toList)) = rowsF 0 (linesA s.cps.toList) := rfl
  have e1 : iEnumM (mCons (mCall Sl (mCons (mVar 0) mNil)) mNil) [some (.str s), some (.ref h.length), none, none, none] (h ++ [.lst []]) = .ok ((rowsF 0 (linesA s.cps.toList), none), h ++ [.lst []]) := by
    simp [fnM, sSeq, sSet, sIf, sRet, sRetN, sExpr, sNil, sAsg, sPut, sPutI, sAug, sPar, sBreak, sCont, mVar, mC, mBin, mUn, mIf, mNil, mCons, mTup, mFz, mNew, mLst, mTr, mTB, mB, mBF, mMeth, mIsi, mCall, mSl, mChain, mAnd, mOr, mNot, tAndM, tOrM, tNotM, okL, okS, asBl, truthD, gNm, gTp, gsCons, gsNil, iEnumM, hSl, enumOf, p]
  have e2 : sSet 1 (mNew (mLst mNil)) ([D.str s].map some ++ List.replicate (5 - [D.str s].length) none) h = .ok (.nx, [some (.str s), some (.ref h.length), none, none, none], h ++ [.lst []]) := by simp [fnM, sSeq, sSet, sIf, sRet, sRetN, sExpr, sNil, sAsg, sPut, sPutI, sAug, sPar, sBreak, sCont, mVar, mC, mBin, mUn, mIf, mNil, mCons, mTup, mFz, mNew, mLst, mTr, mTB, mB, mBF, mMeth, mIsi, mCall, mSl, mChain, mAnd, mOr, mNot, tAndM, tOrM, tNotM, okL, okS, asBl, truthD, gNm, gTp, gsCons, gsNil]
  rw [sSeq_nx e2]
  rw [sSeq_nx ((sFor_eq e1).trans e)]
  simp [fnM, sSeq, sSet, sIf, sRet, sRetN, sExpr, sNil, sAsg, sPut, sPutI, sAug, sPar, sBreak, sCont, mVar, mC, mBin, mUn, mIf, mNil, mCons, mTup, mFz, mNew, mLst, mTr, mTB, mB, mBF, mMeth, mIsi, mCall, mSl, mChain, mAnd, mOr, mNot, tAndM, tOrM, tNotM, okL, okS, asBl, truthD, gNm, gTp, gsCons, gsNil, new_set]
/-- what the callers of read_lines see -/
noncomputable def sp_lines : FM := fun ds h => match ds with
  | [.str s] => if s.length ≤ 100000 then .ok (.fl (strD (linesA s.cps.toList)), h) else .stuck
  | _ => .stuck
noncomputable def sp_read : FM := fun ds h => match ds with
  | [.str s] => if s.length ≤ 100000 then .ok (.fl (readD (srcL (linesA s.cps.toList) 1)), h) else .stuck
  | _ => .stuck
theorem tells_stuck {h : MH} {r : R (D × MH)} : Tells h r .stuck := trivial
theorem closed_wD {n : Nat} (ws : List (List Nat)) : closedDs n (wD ws) := closedDs_iff.mpr fun x hx => by
  obtain ⟨w, _, rfl⟩ := List.mem_map.mp hx
  simp [closedD]
theorem closed_readD {n : Nat} (xs : List (Nat × List (List Nat))) : closedDs n (readD xs) := closedDs_iff.mpr fun x hx => by
  obtain ⟨w, _, rfl⟩ := List.mem_map.mp hx
  simp [closedD, closedDs, closed_wD]
theorem closed_srcD {n : Nat} (xs : List (Nat × List (List Nat))) : closedDs n (srcD xs) := closedDs_iff.mpr fun x hx => by
  obtain ⟨w, _, rfl⟩ := List.mem_map.mp hx
  simp [closedD, closedDs, closed_wD]
theorem lines_tells (ds : List D) (h : MH) (hl : ds.length = 1) : Tells h (fnM 2 b_lines_of ds h) (sp_lines ds h) := by
  unfold sp_lines
  split
  · split
    · rename_i hs
      exact tells_lst (run_lines_of hs) (closed_wD _)
    · exact trivial
  · exact trivial
theorem read_tells {Sw Sp : FM} (hSw : ∀ (l : List Nat) h, l.length ≤ 100000 → Sw [.str (toS l)] h = .ok (.fl (wD (scanW l [])), h)) (hSp : ∀ (ws : List (List Nat)) h, (∀ w ∈ ws, w ≠ []) → Sp [.fl (wD ws)] h = .ok (.bl (!live ws), h))
    (ds : List D) (h : MH) (hl : ds.length = 1) : Tells h (fnM 5 (b_read_lines sp_lines Sw Sp) ds h) (sp_read ds h) := by
  unfold sp_read
  split
  · split
    · rename_i hs
      exact tells_lst (run_read hs (fun h => by simp [sp_lines, hs]) hSw hSp) (closed_readD _)
    · exact trivial
  · exact trivial
theorem run_source {s : Str} {h : MH} (hs : s.length ≤ 100000) : fnM 3 (b_source_lines sp_read) [.str s] h = .ok (.tup (srcD (srcL (linesA s.cps.toList) 1)), h) := by
  have l0 : s.cps.toList.length = s.length := by simp [Str.length]
  have ll := linesA_len (t := s.cps.toList)
  have l2 := srcL_len (linesA s.cps.toList) 1
  generalize hX : srcL (linesA s.cps.toList) 1 = X at *
  have key : mFrz (mCompN (iAny (mCall sp_read (mCons (mVar 0) mNil))) (gTp 2 (gsCons (gNm 1) (gsCons (gNm 2) gsNil))) tTrue (mTup (mCons (mVar 1) (mCons (mB gTuple (mCons (mVar 2) mNil)) mNil))) [1, 2]) [some (.str s), none, none] h = .ok (.fl (srcD X), h) := by
    rw [frz_pure (ds := readD X) (fun _ => true) (fun d => match d with | .tup [.int k, .fl ws] => .tup [.int k, .tup ws] | d => d)]
    · have : (readD X).filter (fun _ => true) = readD X := by simp
      rw [this, readD, srcD, List.map_map]
      rfl
    · simp [fnM, sSeq, sSet, sIf, sRet, sRetN, sExpr, sNil, sAsg, sPut, sPutI, sAug, sPar, sBreak, sCont, mVar, mC, mBin, mUn, mIf, mNil, mCons, mTup, mFz, mNew, mLst, mTr, mTB, mB, mBF, mMeth, mIsi, mCall, mSl, mChain, mAnd, mOr, mNot, tAndM, tOrM, tNotM, okL, okS, asBl, truthD, gNm, gTp, gsCons, gsNil, iAny, sp_read, hs, hX, itemsOf, liveOf]
    · simp [readD]; omega
    · intro d hd h'
      obtain ⟨w, _, rfl⟩ := List.mem_map.mp hd
      simp [fnM, sSeq, sSet, sIf, sRet, sRetN, sExpr, sNil, sAsg, sPut, sPutI, sAug, sPar, sBreak, sCont, mVar, mC, mBin, mUn, mIf, mNil, mCons, mTup, mFz, mNew, mLst, mTr, mTB, mB, mBF, mMeth, mIsi, mCall, mSl, mChain, mAnd, mOr, mNot, tAndM, tOrM, tNotM, okL, okS, asBl, truthD, gNm, gTp, gsCons, gsNil, wipeΓ, tTrue, gTuple, seqOf]
    · intro d hd _
      obtain ⟨w, _, rfl⟩ := List.mem_map.mp hd
      simp [closedD, closedDs, closed_wD]
  exact fnM_rt (sRet_ok ((mB_one key).trans rfl))
end K01
namespace K01
open PySem L2 Mir
open Classical
theorem chars_toS (l : List Nat) : chars (toS l) = l.map fun c => .str (toS [c]) := by simp [chars, toS]
theorem toS_app (a b : List Nat) : toS a ++ toS b = toS (a ++ b) := by
  show Str.mk (a.toArray ++ b.toArray) = _
  simp [toS]
noncomputable abbrev wordsBody : SM := (sIf (mTB (mBin fNe (mVar 3) (mC (.str " ")))) (sSet 2 (mBin fAdd (mVar 2) (mVar 3))) (sIf (mTB (mBin fNe (mVar 2) (mC (.str "")))) (sSeq (sExpr (mMeth okL gAppend (mVar 1) (mCons (mVar 2) mNil)))
    (sSet 2 (mC (.str "")))) sNil))
theorem words_loop {x0 : Option D} {n : Nat} : ∀ (l cur : List Nat) (acc : List (List Nat)) (h : MH) (x3 : Option D), h[n]? = some (.lst (wD acc)) → acc.length + l.length ≤ 500000 → cur.length + l.length ≤ 500000 →
    ∃ y2 y3, loop none (stepOf (gNm 3) wordsBody) ((l ++ [32]).map fun c => D.str (toS [c])) [x0, some (.ref n), some (.str (toS cur)), x3] h = .ok (.nx, [x0, some (.ref n), y2, y3], h.set n (.lst (wD (acc ++ scanW l cur))))
  | [], cur, acc, h, x3, hn, ha, hc => by
    have lt : (wD acc).length < 1000000 := by simp [wD] at *; omega
    by_cases hcur : cur = []
    · subst hcur
      have st : stepOf (gNm 3) wordsBody (.str (toS [32])) [x0, some (.ref n), some (.str (toS [])), x3] h = .ok (.nx, [x0, some (.ref n), some (.str (toS [])), some (.str (toS [32]))], h) := by
        simp [fnM, sSeq, sSet, sIf, sRet, sRetN, sExpr, sNil, sAsg, sPut, sPutI, sAug, sPar, sBreak, sCont, mVar, mC, mBin, mUn, mIf, mNil, mCons, mTup, mFz, mNew, mLst, mTr, mTB, mB, mBF, mMeth, mIsi, mCall, mSl, mChain, mAnd, mOr, mNot, tAndM, tOrM, tNotM, okL, okS, asBl, truthD, gNm, gTp, gsCons, gsNil, stepOf, fNe, scalD, deq, sp_, em_]
      refine ⟨some (.str (toS [])), some (.str (toS [32])), ?_⟩
      rw [List.nil_append, List.map_cons, List.map_nil, loop_nx0 st, loop_nil]
      simp [scanW, set_same hn]
    · have st : stepOf (gNm 3) wordsBody (.str (toS [32])) [x0, some (.ref n), some (.str (toS cur)), x3] h = .ok (.nx, [x0, some (.ref n), some (.str (toS [])), some (.str (toS [32]))], h.set n (.lst (wD acc ++ [.str (toS cur)]))) := by
        simp [fnM, sSeq, sSet, sIf, sRet, sRetN, sExpr, sNil, sAsg, sPut, sPutI, sAug, sPar, sBreak, sCont, mVar, mC, mBin, mUn, mIf, mNil, mCons, mTup, mFz, mNew, mLst, mTr, mTB, mB, mBF, mMeth, mIsi, mCall, mSl, mChain, mAnd, mOr, mNot, tAndM, tOrM, tNotM, okL, okS, asBl, truthD, gNm, gTp, gsCons, gsNil, stepOf, fNe, scalD, deq, sp_, em_, str_inj, hcur, lstOf, hn, gAppend, lt]
      refine ⟨some (.str (toS [])), some (.str (toS [32])), ?_⟩
      rw [List.nil_append, List.map_cons, List.map_nil, loop_nx0 st, loop_nil]
      simp [scanW, hcur, wD]
  | c :: l, cur, acc, h, x3, hn, ha, hc => by
    have lt : (wD acc).length < 1000000 := by simp [wD] at *; omega
    simp only [List.length_cons] at ha hc
    rw [List.cons_append, List.map_cons]
    by_cases h32 : c = 32
    · subst h32
      by_cases hcur : cur = []
      · subst hcur
        have st : stepOf (gNm 3) wordsBody (.str (toS [32])) [x0, some (.ref n), some (.str (toS [])), x3] h = .ok (.nx, [x0, some (.ref n), some (.str (toS [])), some (.str (toS [32]))], h) := by
          simp [fnM, sSeq, sSet, sIf, sRet, sRetN, sExpr, sNil, sAsg, sPut, sPutI, sAug, sPar, sBreak, sCont, mVar, mC, mBin, mUn, mIf, mNil, mCons, mTup, mFz, mNew, mLst, mTr, mTB, mB, mBF, mMeth, mIsi, mCall, mSl, mChain, mAnd, mOr, mNot, tAndM, tOrM, tNotM, okL, okS, asBl, truthD, gNm, gTp, gsCons, gsNil, stepOf, fNe, scalD, deq, sp_, em_]
        obtain ⟨y2, y3, e⟩ := words_loop l [] acc h (some (.str (toS [32]))) hn (by omega) (by simp; omega)
        refine ⟨y2, y3, ?_⟩
        rw [loop_nx0 st, e]
        simp [scanW]
      · have st : stepOf (gNm 3) wordsBody (.str (toS [32])) [x0, some (.ref n), some (.str (toS cur)), x3] h = .ok (.nx, [x0, some (.ref n), some (.str (toS [])), some (.str (toS [32]))], h.set n (.lst (wD (acc ++ [cur])))) := by
          have : wD (acc ++ [cur]) = wD acc ++ [.str (toS cur)] := by simp [wD]
          rw [this]
          simp [fnM, sSeq, sSet, sIf, sRet, sRetN, sExpr, sNil, sAsg, sPut, sPutI, sAug, sPar, sBreak, sCont, mVar, mC, mBin, mUn, mIf, mNil, mCons, mTup, mFz, mNew, mLst, mTr, mTB, mB, mBF, mMeth, mIsi, mCall, mSl, mChain, mAnd, mOr, mNot, tAndM, tOrM, tNotM, okL, okS, asBl, truthD, gNm, gTp, gsCons, gsNil, stepOf, fNe, scalD, deq, sp_, em_, str_inj, hcur, lstOf, hn, gAppend, lt]
        obtain ⟨y2, y3, e⟩ := words_loop l [] (acc ++ [cur]) (h.set n (.lst (wD (acc ++ [cur])))) (some (.str (toS [32]))) (set_at hn) (by simp; omega) (by simp; omega)
        refine ⟨y2, y3, ?_⟩
        rw [loop_nx0 st, e, set_twice]
        simp [scanW, hcur]
    · have sz : (toS cur).length + (toS [c]).length ≤ 1000000 := by rw [toS_len, toS_len]; simp; omega
      have st : stepOf (gNm 3) wordsBody (.str (toS [c])) [x0, some (.ref n), some (.str (toS cur)), x3] h = .ok (.nx, [x0, some (.ref n), some (.str (toS (cur ++ [c]))), some (.str (toS [c]))], h) := by
        have a := toS_app cur [c]
        simp [fnM, sSeq, sSet, sIf, sRet, sRetN, sExpr, sNil, sAsg, sPut, sPutI, sAug, sPar, sBreak, sCont, mVar, mC, mBin, mUn, mIf, mNil, mCons, mTup, mFz, mNew, mLst, mTr, mTB, mB, mBF, mMeth, mIsi, mCall, mSl, mChain, mAnd, mOr, mNot, tAndM, tOrM, tNotM, okL, okS, asBl, truthD, gNm, gTp, gsCons, gsNil, stepOf, fNe, scalD, deq, sp_, str_inj, h32, fAdd, sz, a]
      obtain ⟨y2, y3, e⟩ := words_loop l (cur ++ [c]) acc h (some (.str (toS [c]))) hn (by omega) (by simp; omega)
      refine ⟨y2, y3, ?_⟩
      rw [loop_nx0 st, e]
      simp [scanW, h32]
theorem run_law_words {l : List Nat} {h : MH} (hs : l.length ≤ 100000) : ∃ t, fnM 4 b__law_words [.str (toS l)] h = .ok (.tup (wD (scanW l [])), h ++ t) := by
  obtain ⟨y2, y3, e⟩ := words_loop (x0 := some (.str (toS l))) (n := h.length) l [] [] (h ++ [.lst []]) none new_at (by simp; omega) (by simp; omega)
  refine ⟨[.lst (wD (scanW l []))], fnM_rt (Γ := [some (.str (toS l)), some (.ref h.length), y2, y3]) ?_⟩
  have b : b__law_words = sSeq (sSet 1 (mNew (mLst mNil))) (sSeq (sSet 2 (mC (.str ""))) (sSeq (sFor (iAny (mBin fAdd (mVar 0) (mC (.str " ")))) (gNm 3) wordsBody) (sRet (mB gTuple (mCons (mVar 1) mNil))))) := rfl
  have sz : (toS l).length + (toS [32]).length ≤ 1000000 := by rw [toS_len, toS_len]; simp; omega
  have e1 : iAny (mBin fAdd (mVar 0) (mC (.str " "))) [some (.str (toS l)), some (.ref h.length), some (.str (toS [])), none] (h ++ [.lst []]) = .ok (((l ++ [32]).map fun c => D.str (toS [c]), none), h ++ [.lst []]) := by
    have a := toS_app l [32]
    simp [fnM, sSeq, sSet, sIf, sRet, sRetN, sExpr, sNil, sAsg, sPut, sPutI, sAug, sPar, sBreak, sCont, mVar, mC, mBin, mUn, mIf, mNil, mCons, mTup, mFz, mNew, mLst, mTr, mTB, mB, mBF, mMeth, mIsi, mCall, mSl, mChain, mAnd, mOr, mNot, tAndM, tOrM, tNotM, okL, okS, asBl, truthD, gNm, gTp, gsCons, gsNil, iAny, fAdd, sp_, sz, a, itemsOf, chars_toS]
  have e2 : sSet 1 (mNew (mLst mNil)) ([D.str (toS l)].map some ++ List.replicate (4 - [D.str (toS l)].length) none) h = .ok (.nx, [some (.str (toS l)), some (.ref h.length), none, none], h ++ [.lst []]) := by simp [fnM, sSeq, sSet, sIf, sRet, sRetN, sExpr, sNil, sAsg, sPut, sPutI, sAug, sPar, sBreak, sCont, mVar, mC, mBin, mUn, mIf, mNil, mCons, mTup, mFz, mNew, mLst, mTr, mTB, mB, mBF, mMeth, mIsi, mCall, mSl, mChain, mAnd, mOr, mNot, tAndM, tOrM, tNotM, okL, okS, asBl, truthD, gNm, gTp, gsCons, gsNil]
  have e3 : sSet 2 (mC (.str "")) [some (.str (toS l)), some (.ref h.length), none, none] (h ++ [.lst []]) = .ok (.nx, [some (.str (toS l)), some (.ref h.length), some (.str (toS [])), none], h ++ [.lst []]) := by simp [fnM, sSeq, sSet, sIf, sRet, sRetN, sExpr, sNil, sAsg, sPut, sPutI, sAug, sPar, sBreak, sCont, mVar, mC, mBin, mUn, mIf, mNil, mCons, mTup, mFz, mNew, mLst, mTr, mTB, mB, mBF, mMeth, mIsi, mCall, mSl, mChain, mAnd, mOr, mNot, tAndM, tOrM, tNotM, okL, okS, asBl, truthD, gNm, gTp, gsCons, gsNil, em_]
  rw [b, sSeq_nx e2, sSeq_nx e3, sSeq_nx ((sFor_eq e1).trans e)]
  simp [fnM, sSeq, sSet, sIf, sRet, sRetN, sExpr, sNil, sAsg, sPut, sPutI, sAug, sPar, sBreak, sCont, mVar, mC, mBin, mUn, mIf, mNil, mCons, mTup, mFz, mNew, mLst, mTr, mTB, mB, mBF, mMeth, mIsi, mCall, mSl, mChain, mAnd, mOr, mNot, tAndM, tOrM, tNotM, okL, okS, asBl, truthD, gNm, gTp, gsCons, gsNil, new_set, new_at, gTuple, seqOf]
noncomputable def sp_words : FM := fun ds h => match ds with
  | [.str s] => if s.length ≤ 100000 then .ok (.tup (wD (scanW s.cps.toList [])), h) else .stuck
  | _ => .stuck
theorem len_tl (s : Str) : s.cps.toList.length = s.length := by simp [Str.length]
theorem law_words_tells (ds : List D) (h : MH) (hl : ds.length = 1) : Tells h (fnM 4 b__law_words ds h) (sp_words ds h) := by
  unfold sp_words
  split
  · rename_i s
    split
    · rename_i hs
      obtain ⟨t, e⟩ := run_law_words (l := s.cps.toList) (h := h) (by rw [len_tl]; exact hs)
      rw [toS_tl] at e
      exact tells_drop e (by unfold closedD; exact closed_wD _)
    · exact trivial
  · exact trivial
/-! the law's own reading of a text -/
noncomputable abbrev srcBody (Sw : FM) : SM := (sIf (mTB (mBin fEq (mVar 4) (mC (.str "\n")))) (sSeq (sSet 5 (mCall Sw (mCons (mVar 2) mNil)))
    (sSeq (sIf (tAndM (mTr (mVar 5)) (mTB (mBin fNe (mBin fIx (mBin fIx (mVar 5) (mC (.int 0))) (mC (.int 0))) (mC (.str "#"))))) (sExpr (mMeth okL gAppend (mVar 1) (mCons (mTup (mCons (mVar 3) (mCons (mVar 5) mNil))) mNil))) sNil)
    (sSeq (sSet 2 (mC (.str "")))
    (sAug (fun a b => a + b) 3 (mC (.int 1)))))) (sSet 2 (mBin fAdd (mVar 2) (mVar 4))))
theorem atI_zero {α : Type} {x : α} {xs : List α} : atI (x :: xs) 0 = some x := atI_nat (j := 0) rfl
theorem scanS_cons {c : Nat} {r cur : List Nat} {k : Nat} : scanS (c :: r) cur k = if c = 10 then (if live (scanW cur []) = true then (k, scanW cur []) :: scanS r [] (k + 1) else scanS r [] (k + 1)) else scanS r (cur ++ [c]) k := rfl
theorem src_loop {x0 : Option D} {n : Nat} : ∀ (l cur : List Nat) (k : Nat) (acc : List (Nat × List (List Nat))) (h : MH) (x4 x5 : Option D), h[n]? = some (.lst (srcD acc)) → acc.length + l.length ≤ 200000 → cur.length + l.length ≤ 100000 →
    ∃ y2 y3 y4 y5, loop none (stepOf (gNm 4) (srcBody sp_words)) (l.map fun c => D.str (toS [c])) [x0, some (.ref n), some (.str (toS cur)), some (.int k), x4, x5] h = .ok (.nx, [x0, some (.ref n), y2, y3, y4, y5], h.set n (.lst (srcD (acc ++ scanS l cur k))))
  | [], cur, k, acc, h, x4, x5, hn, ha, hc => by
    refine ⟨some (.str (toS cur)), some (.int k), x4, x5, ?_⟩
    rw [List.map_nil, loop_nil]
    simp [scanS, set_same hn]
  | c :: l, cur, k, acc, h, x4, x5, hn, ha, hc => by
    have lt : (srcD acc).length < 1000000 := by simp [srcD] at *; omega
    simp only [List.length_cons] at ha hc
    rw [List.map_cons]
    by_cases h10 : c = 10
    · subst h10
      have w : sp_words [.str (toS cur)] h = .ok (.tup (wD (scanW cur [])), h) := by
        have : (toS cur).length ≤ 100000 := by rw [toS_len]; omega
        simp only [sp_words]
        rw [if_pos this]
      have hne := scanW_ne cur []
      have hsz := scanW_size cur []
      have hk : ((k + 1 : Nat) : Int) = (k : Int) + 1 := by omega
      have st : stepOf (gNm 4) (srcBody sp_words) (.str (toS [10])) [x0, some (.ref n), some (.str (toS cur)), some (.int k), x4, x5] h =
          .ok (.nx, [x0, some (.ref n), some (.str (toS [])), some (.int ((k + 1 : Nat) : Int)), some (.str (toS [10])), some (.tup (wD (scanW cur [])))], h.set n (.lst (srcD (acc ++ if live (scanW cur []) = true then [(k, scanW cur [])] else [])))) := by
        generalize scanW cur [] = ws at *
        rw [hk]
        cases ws with
        | nil =>
          simp [fnM, sSeq, sSet, sIf, sRet, sRetN, sExpr, sNil, sAsg, sPut, sPutI, sAug, sPar, sBreak, sCont, mVar, mC, mBin, mUn, mIf, mNil, mCons, mTup, mFz, mNew, mLst, mTr, mTB, mB, mBF, mMeth, mIsi, mCall, mSl, mChain, mAnd, mOr, mNot, tAndM, tOrM, tNotM, okL, okS, asBl, truthD, gNm, gTp, gsCons, gsNil, stepOf, fEq, scalD, deq, nl_, em_, w, wD, live, set_same hn]
        | cons v vs =>
          cases v with
          | nil => exact absurd rfl (hne [] (by simp))
          | cons z zs =>
            have hw' : wD ((z :: zs) :: vs) = D.str (toS (z :: zs)) :: wD vs := rfl
            rw [hw'] at w
            rw [hw']
            have a1 : atI (D.str (toS (z :: zs)) :: wD vs) 0 = some (.str (toS (z :: zs))) := atI_zero
            have a2 : atI (z :: zs) 0 = some z := atI_zero
            have szz : (toS (z :: zs)).length ≤ 1000000 := by
              have := hsz (z :: zs) (by simp)
              rw [toS_len]; simp at this; simp; omega
            by_cases h35 : z = 35
            · subst h35
              simp [fnM, sSeq, sSet, sIf, sRet, sRetN, sExpr, sNil, sAsg, sPut, sPutI, sAug, sPar, sBreak, sCont, mVar, mC, mBin, mUn, mIf, mNil, mCons, mTup, mFz, mNew, mLst, mTr, mTB, mB, mBF, mMeth, mIsi, mCall, mSl, mChain, mAnd, mOr, mNot, tAndM, tOrM, tNotM, okL, okS, asBl, truthD, gNm, gTp, gsCons, gsNil, stepOf, fEq, fNe, scalD, deq, nl_, em_, ha_, w, live, set_same hn, fIx, seqOf, a1, a2, szz]
            · have hs : srcD (acc ++ [(k, (z :: zs) :: vs)]) = srcD acc ++ [.tup [.int k, .tup (D.str (toS (z :: zs)) :: wD vs)]] := by simp [srcD, wD]
              have hb : live ((z :: zs) :: vs) = true := by simp [live, h35]
              rw [if_pos hb, hs]
              simp [fnM, sSeq, sSet, sIf, sRet, sRetN, sExpr, sNil, sAsg, sPut, sPutI, sAug, sPar, sBreak, sCont, mVar, mC, mBin, mUn, mIf, mNil, mCons, mTup, mFz, mNew, mLst, mTr, mTB, mB, mBF, mMeth, mIsi, mCall, mSl, mChain, mAnd, mOr, mNot, tAndM, tOrM, tNotM, okL, okS, asBl, truthD, gNm, gTp, gsCons, gsNil, stepOf, fEq, fNe, scalD, deq, nl_, em_, ha_, w, fIx, seqOf, a1, a2, szz, h35, lstOf, hn, gAppend, lt]
      obtain ⟨y2, y3, y4, y5, e⟩ := src_loop l [] (k + 1) (acc ++ if live (scanW cur []) = true then [(k, scanW cur [])] else []) _ (some (.str (toS [10]))) (some (.tup (wD (scanW cur [])))) (set_at hn) (by simp; split <;> simp <;> omega) (by simp; omega)
      refine ⟨y2, y3, y4, y5, ?_⟩
      rw [loop_nx0 st, e, set_twice]
      have : scanS (10 :: l) cur k = (if live (scanW cur []) = true then [(k, scanW cur [])] else []) ++ scanS l [] (k + 1) := by
        rw [scanS_cons, if_pos rfl]
        split <;> simp
      rw [this, List.append_assoc]
    · have sz : (toS cur).length + (toS [c]).length ≤ 1000000 := by rw [toS_len, toS_len]; simp; omega
      have st : stepOf (gNm 4) (srcBody sp_words) (.str (toS [c])) [x0, some (.ref n), some (.str (toS cur)), some (.int k), x4, x5] h = .ok (.nx, [x0, some (.ref n), some (.str (toS (cur ++ [c]))), some (.int k), some (.str (toS [c])), x5], h) := by
        have a := toS_app cur [c]
        simp [fnM, sSeq, sSet, sIf, sRet, sRetN, sExpr, sNil, sAsg, sPut, sPutI, sAug, sPar, sBreak, sCont, mVar, mC, mBin, mUn, mIf, mNil, mCons, mTup, mFz, mNew, mLst, mTr, mTB, mB, mBF, mMeth, mIsi, mCall, mSl, mChain, mAnd, mOr, mNot, tAndM, tOrM, tNotM, okL, okS, asBl, truthD, gNm, gTp, gsCons, gsNil, stepOf, fEq, scalD, deq, nl_, str_inj, h10, fAdd, sz, a]
      obtain ⟨y2, y3, y4, y5, e⟩ := src_loop l (cur ++ [c]) k acc h (some (.str (toS [c]))) x5 hn (by omega) (by simp; omega)
      refine ⟨y2, y3, y4, y5, ?_⟩
      rw [loop_nx0 st, e]
      simp [scanS, h10]
end K01
namespace K01
open PySem L2 Mir
open Classical
theorem run_law_source {t : List Nat} {h : MH} (hs : t.length ≤ 90000) : ∃ g, fnM 6 (b__law_source sp_words) [.str (toS t)] h = .ok (.tup (srcD (srcL (linesA t) 1)), h ++ g) := by
  have le : (ended t).length ≤ t.length + 1 := by unfold ended; split <;> simp
  obtain ⟨y2, y3, y4, y5, e⟩ := src_loop (x0 := some (.str (toS t))) (n := h.length) (ended t) [] 1 [] (h ++ [.lst []]) none none new_at (by simp; omega) (by simp; omega)
  refine ⟨[.lst (srcD (scanS (ended t) [] 1))], fnM_rt (Γ := [some (.str (toS t)), some (.ref h.length), y2, y3, y4, y5]) ?_⟩
  have b : b__law_source sp_words = sSeq (sSet 1 (mNew (mLst mNil))) (sSeq (sSet 2 (mC (.str ""))) (sSeq (sSet 3 (mC (.int 1))) (sSeq (sFor (iAny (mBin fAdd (mVar 0) (mIf (tOrM (mTB (mBin fEq (mVar 0) (mC (.str "")))) (mTB (mBin fEq (mBin fIx (mVar 0) (mUn fNeg (mC (.int 1)))) (mC (.str "\n"))))) (mC (.str "")) (mC (.str "\n"))))) (gNm 4) (srcBody sp_words)) (sRet (mB gTuple (mCons (mVar 1) mNil)))))) := rfl
  have e1 : iAny (mBin fAdd (mVar 0) (mIf (tOrM (mTB (mBin fEq (mVar 0) (mC (.str "")))) (mTB (mBin fEq (mBin fIx (mVar 0) (mUn fNeg (mC (.int 1)))) (mC (.str "\n"))))) (mC (.str "")) (mC (.str "\n")))) [some (.str (toS t)), some (.ref h.length), some (.str (toS [])), some (.int 1), none, none] (h ++ [.lst []]) =
      .ok (((ended t).map fun c => D.str (toS [c]), none), h ++ [.lst []]) := by
    have sz : (toS t).length ≤ 1000000 := by rw [toS_len]; omega
    have sz2 : (toS t).length + (toS []).length ≤ 1000000 := by rw [toS_len, toS_len]; simp; omega
    have sz3 : (toS t).length + (toS [10]).length ≤ 1000000 := by rw [toS_len, toS_len]; simp; omega
    have a := toS_app t []
    have a2 := toS_app t [10]
    rcases List.eq_nil_or_concat t with rfl | ⟨u, x, rfl⟩
    · simp [fnM, sSeq, sSet, sIf, sRet, sRetN, sExpr, sNil, sAsg, sPut, sPutI, sAug, sPar, sBreak, sCont, mVar, mC, mBin, mUn, mIf, mNil, mCons, mTup, mFz, mNew, mLst, mTr, mTB, mB, mBF, mMeth, mIsi, mCall, mSl, mChain, mAnd, mOr, mNot, tAndM, tOrM, tNotM, okL, okS, asBl, truthD, gNm, gTp, gsCons, gsNil, iAny, fAdd, em_, nl_, fEq, scalD, deq, sz2, a, itemsOf, chars_toS, ended]
    · rw [List.concat_eq_append] at *
      have ne : u ++ [x] ≠ [] := by simp
      have l1 : atI (u ++ [x]) (-1) = some x := by rw [atI_neg1]; simp
      by_cases h10 : x = 10
      · subst h10
        have e0 : ended (u ++ [10]) = u ++ [10] := by rw [ended, if_pos (.inr (by simp))]
        rw [List.append_nil] at a
        simp [fnM, sSeq, sSet, sIf, sRet, sRetN, sExpr, sNil, sAsg, sPut, sPutI, sAug, sPar, sBreak, sCont, mVar, mC, mBin, mUn, mIf, mNil, mCons, mTup, mFz, mNew, mLst, mTr, mTB, mB, mBF, mMeth, mIsi, mCall, mSl, mChain, mAnd, mOr, mNot, tAndM, tOrM, tNotM, okL, okS, asBl, truthD, gNm, gTp, gsCons, gsNil, iAny, fAdd, em_, nl_, fEq, scalD, deq, sz, sz2, a, itemsOf, chars_toS, e0, str_inj, ne, fIx, fNeg, l1]
      · have e0 : ended (u ++ [x]) = u ++ [x] ++ [10] := by rw [ended, if_neg (by simp [h10])]
        simp [fnM, sSeq, sSet, sIf, sRet, sRetN, sExpr, sNil, sAsg, sPut, sPutI, sAug, sPar, sBreak, sCont, mVar, mC, mBin, mUn, mIf, mNil, mCons, mTup, mFz, mNew, mLst, mTr, mTB, mB, mBF, mMeth, mIsi, mCall, mSl, mChain, mAnd, mOr, mNot, tAndM, tOrM, tNotM, okL, okS, asBl, truthD, gNm, gTp, gsCons, gsNil, iAny, fAdd, em_, nl_, fEq, scalD, deq, sz, sz3, a2, itemsOf, chars_toS, e0, str_inj, ne, fIx, fNeg, l1, h10]
  have e2 : sSet 1 (mNew (mLst mNil)) ([D.str (toS t)].map some ++ List.replicate (6 - [D.str (toS t)].length) none) h = .ok (.nx, [some (.str (toS t)), some (.ref h.length), none, none, none, none], h ++ [.lst []]) := by simp [fnM, sSeq, sSet, sIf, sRet, sRetN, sExpr, sNil, sAsg, sPut, sPutI, sAug, sPar, sBreak, sCont, mVar, mC, mBin, mUn, mIf, mNil, mCons, mTup, mFz, mNew, mLst, mTr, mTB, mB, mBF, mMeth, mIsi, mCall, mSl, mChain, mAnd, mOr, mNot, tAndM, tOrM, tNotM, okL, okS, asBl, truthD, gNm, gTp, gsCons, gsNil]
  have e3 : sSet 2 (mC (.str "")) [some (.str (toS t)), some (.ref h.length), none, none, none, none] (h ++ [.lst []]) = .ok (.nx, [some (.str (toS t)), some (.ref h.length), some (.str (toS [])), none, none, none], h ++ [.lst []]) := by simp [fnM, sSeq, sSet, sIf, sRet, sRetN, sExpr, sNil, sAsg, sPut, sPutI, sAug, sPar, sBreak, sCont, mVar, mC, mBin, mUn, mIf, mNil, mCons, mTup, mFz, mNew, mLst, mTr, mTB, mB, mBF, mMeth, mIsi, mCall, mSl, mChain, mAnd, mOr, mNot, tAndM, tOrM, tNotM, okL, okS, asBl, truthD, gNm, gTp, gsCons, gsNil, em_]
  have e4 : sSet 3 (mC (.int 1)) [some (.str (toS t)), some (.ref h.length), some (.str (toS [])), none, none, none] (h ++ [.lst []]) = .ok (.nx, [some (.str (toS t)), some (.ref h.length), some (.str (toS [])), some (.int 1), none, none], h ++ [.lst []]) := by simp [fnM, sSeq, sSet, sIf, sRet, sRetN, sExpr, sNil, sAsg, sPut, sPutI, sAug, sPar, sBreak, sCont, mVar, mC, mBin, mUn, mIf, mNil, mCons, mTup, mFz, mNew, mLst, mTr, mTB, mB, mBF, mMeth, mIsi, mCall, mSl, mChain, mAnd, mOr, mNot, tAndM, tOrM, tNotM, okL, okS, asBl, truthD, gNm, gTp, gsCons, gsNil]
  have e : loop none (stepOf (gNm 4) (srcBody sp_words)) ((ended t).map fun c => D.str (toS [c])) [some (.str (toS t)), some (.ref h.length), some (.str (toS [])), some (.int 1), none, none] (h ++ [.lst []]) = _ := e
  rw [b, sSeq_nx e2, sSeq_nx e3, sSeq_nx e4, sSeq_nx ((sFor_eq e1).trans e)]
  simp [fnM, sSeq, sSet, sIf, sRet, sRetN, sExpr, sNil, sAsg, sPut, sPutI, sAug, sPar, sBreak, sCont, mVar, mC, mBin, mUn, mIf, mNil, mCons, mTup, mFz, mNew, mLst, mTr, mTB, mB, mBF, mMeth, mIsi, mCall, mSl, mChain, mAnd, mOr, mNot, tAndM, tOrM, tNotM, okL, okS, asBl, truthD, gNm, gTp, gsCons, gsNil, new_set, new_at, gTuple, seqOf, src_same]
noncomputable def sp_source : FM := fun ds h => match ds with
  | [.str s] => if s.length ≤ 90000 then .ok (.tup (srcD (srcL (linesA s.cps.toList) 1)), h) else .stuck
  | _ => .stuck
theorem law_source_tells (ds : List D) (h : MH) (hl : ds.length = 1) : Tells h (fnM 6 (b__law_source sp_words) ds h) (sp_source ds h) := by
  unfold sp_source
  split
  · rename_i s
    split
    · rename_i hs
      obtain ⟨t, e⟩ := run_law_source (t := s.cps.toList) (h := h) (by rw [len_tl]; exact hs)
      rw [toS_tl] at e
      exact tells_drop e (by unfold closedD; exact closed_srcD _)
    · exact trivial
  · exact trivial
/-! ## the comparison -/
mutual
def plainD : D → Bool
  | .non => true
  | .bl _ => true
  | .int _ => true
  | .str _ => true
  | .tup xs => plainDs xs
  | .fl _ => false
  | .ref _ => false
def plainDs : List D → Bool
  | [] => true
  | x :: xs => plainD x && plainDs xs
end
mutual
def nodes : D → Nat
  | .tup xs => 1 + nodess xs
  | _ => 1
def nodess : List D → Nat
  | [] => 0
  | x :: xs => nodes x + nodess xs
end
theorem nodess_app : ∀ (a b : List D), nodess (a ++ b) = nodess a + nodess b
  | [], b => by simp [nodess]
  | x :: a, b => by simp [nodess, nodess_app a b]; omega
theorem plainDs_app : ∀ (a b : List D), plainDs (a ++ b) = (plainDs a && plainDs b)
  | [], b => by simp [plainDs]
  | x :: a, b => by simp [plainDs, plainDs_app a b, Bool.and_assoc]
theorem nodes_pos : ∀ d : D, 1 ≤ nodes d := fun d => by cases d <;> simp [nodes]
theorem len_nodess : ∀ xs : List D, xs.length ≤ nodess xs
  | [] => by simp [nodess]
  | x :: xs => by have := len_nodess xs; have := nodes_pos x; simp [nodess]; omega
def twin (xs : List D) : List D := xs.map fun x => .tup [x, x]
def kids : D → List D
  | .tup xs => xs
  | _ => []
noncomputable abbrev sameBody : SM := (sSeq (sAsg (gTp 2 (gsCons (gNm 3) (gsCons (gNm 4) gsNil))) (mMeth okL gPop (mVar 2) mNil))
    (sIf (tOrM (mTB (mIsi "tuple" (mVar 4))) (mTB (mIsi "list" (mVar 4)))) (sSeq (sIf (tOrM (mTB (mBin fNe (mIsi "list" (mVar 4)) (mIsi "list" (mVar 3)))) (mTB (mBin fNe (mIsi "tuple" (mVar 4)) (mIsi "tuple" (mVar 3))))) (sRet (mC (.bl false))) sNil)
    (sSeq (sIf (mTB (mBin fNe (mB gLen (mCons (mVar 3) mNil)) (mB gLen (mCons (mVar 4) mNil)))) (sRet (mC (.bl false))) sNil)
    (sFor (iZipNM (mCons (mVar 3) (mCons (mVar 4) mNil))) (gNm 5) (sExpr (mMeth okL gAppend (mVar 2) (mCons (mVar 5) mNil)))))) (sIf (mTB (mIsi "str" (mVar 4))) (sIf (tOrM (tNotM (mTB (mIsi "str" (mVar 3)))) (mTB (mBin fNe (mVar 3) (mVar 4)))) (sRet (mC (.bl false))) sNil) (sIf (mTB (mBin fIsN (mVar 4) (mC .non))) (sIf (mTB (mBin fNotN (mVar 3) (mC .non))) (sRet (mC (.bl false))) sNil) (sIf (tOrM (mTB (mIsi "bool" (mVar 3))) (mTB (mIsi "bool" (mVar 4)))) (sIf (tOrM (tNotM (mTB (mIsi "bool" (mVar 3)))) (tOrM (tNotM (mTB (mIsi "bool" (mVar 4)))) (mTB (mBin fNe (mVar 3) (mVar 4))))) (sRet (mC (.bl false))) sNil) (sIf (tOrM (tNotM (mTB (mIsi "int" (mVar 3)))) (mTB (mBin fNe (mVar 3) (mVar 4)))) (sRet (mC (.bl false))) sNil))))))
theorem pairZ_self : ∀ xs : List D, pairZ xs xs = twin xs
  | [] => rfl
  | x :: xs => by
    have := pairZ_self xs
    unfold pairZ twin at *
    simp [this]
theorem same_zip {x0 x1 x3 x4 : Option D} {n : Nat} : ∀ (ys : List D) (acc : List D) (h : MH) (x5 : Option D), h[n]? = some (.lst acc) → acc.length + ys.length ≤ 500000 →
    ∃ y5, loop none (stepOf (gNm 5) (sExpr (mMeth okL gAppend (mVar 2) (mCons (mVar 5) mNil)))) ys [x0, x1, some (.ref n), x3, x4, x5] h = .ok (.nx, [x0, x1, some (.ref n), x3, x4, y5], h.set n (.lst (acc ++ ys)))
  | [], acc, h, x5, hn, _ => ⟨x5, by simp [set_same hn]⟩
  | y :: ys, acc, h, x5, hn, hl => by
    simp only [List.length_cons] at hl
    have lt : acc.length < 1000000 := by omega
    have st : stepOf (gNm 5) (sExpr (mMeth okL gAppend (mVar 2) (mCons (mVar 5) mNil))) y [x0, x1, some (.ref n), x3, x4, x5] h = .ok (.nx, [x0, x1, some (.ref n), x3, x4, some y], h.set n (.lst (acc ++ [y]))) := by
      simp [fnM, sSeq, sSet, sIf, sRet, sRetN, sExpr, sNil, sAsg, sPut, sPutI, sAug, sPar, sBreak, sCont, mVar, mC, mBin, mUn, mIf, mNil, mCons, mTup, mFz, mNew, mLst, mTr, mTB, mB, mBF, mMeth, mIsi, mCall, mSl, mChain, mAnd, mOr, mNot, tAndM, tOrM, tNotM, okL, okS, asBl, truthD, gNm, gTp, gsCons, gsNil, stepOf, lstOf, hn, gAppend, lt]
    obtain ⟨y5, e⟩ := same_zip ys (acc ++ [y]) (h.set n (.lst (acc ++ [y]))) (some y) (set_at hn) (by simp; omega)
    refine ⟨y5, ?_⟩
    rw [loop_nx0 st, e, set_twice]
    simp
theorem same_step {x0 x1 : Option D} {n : Nat} (st : List D) (x : D) (h : MH) (x3 x4 x5 : Option D) (hn : h[n]? = some (.lst (twin (st ++ [x])))) (hp : plainD x = true) (hl : nodess (st ++ [x]) ≤ 400000) :
    ∃ y3 y4 y5, sameBody [x0, x1, some (.ref n), x3, x4, x5] h = .ok (.nx, [x0, x1, some (.ref n), y3, y4, y5], h.set n (.lst (twin (st ++ kids x)))) := by
  have e1 : twin (st ++ [x]) = twin st ++ [.tup [x, x]] := by simp [twin]
  rw [e1] at hn
  have s1 := fun o : O => set_at (x := o) hn
  cases x with
  | tup ys =>
    have l1 := len_nodess st
    have l2 := len_nodess ys
    rw [nodess_app] at hl
    simp only [nodess, nodes] at hl
    obtain ⟨y5, e⟩ := same_zip (x0 := x0) (x1 := x1) (x3 := some (.tup ys)) (x4 := some (.tup ys)) (n := n) (twin ys) (twin st) (h.set n (.lst (twin st))) x5 (s1 _) (by simp [twin]; omega)
    refine ⟨some (.tup ys), some (.tup ys), y5, ?_⟩
    rw [set_twice] at e
    have e3 : twin (st ++ kids (.tup ys)) = twin st ++ twin ys := by simp [twin, kids]
    rw [e3]
    simp [fnM, sSeq, sSet, sIf, sRet, sRetN, sExpr, sNil, sAsg, sPut, sPutI, sAug, sPar, sBreak, sCont, mVar, mC, mBin, mUn, mIf, mNil, mCons, mTup, mFz, mNew, mLst, mTr, mTB, mB, mBF, mMeth, mIsi, mCall, mSl, mChain, mAnd, mOr, mNot, tAndM, tOrM, tNotM, okL, okS, asBl, truthD, gNm, gTp, gsCons, gsNil, lstOf, hn, gPop, tyD, isiD, fNe, scalD, deq, gLen, lenD, seqOf, sFor, iZipNM, zipTOf, pairZ_self, e]
  | non => 
    refine ⟨some .non, some .non, x5, ?_⟩
    have e3 : twin (st ++ kids .non) = twin st := by simp [kids]
    rw [e3]
    simp [fnM, sSeq, sSet, sIf, sRet, sRetN, sExpr, sNil, sAsg, sPut, sPutI, sAug, sPar, sBreak, sCont, mVar, mC, mBin, mUn, mIf, mNil, mCons, mTup, mFz, mNew, mLst, mTr, mTB, mB, mBF, mMeth, mIsi, mCall, mSl, mChain, mAnd, mOr, mNot, tAndM, tOrM, tNotM, okL, okS, asBl, truthD, gNm, gTp, gsCons, gsNil, lstOf, hn, gPop, tyD, isiD, fNe, scalD, deq, fIsN, fNotN]
  | bl b =>
    refine ⟨some (.bl b), some (.bl b), x5, ?_⟩
    have e3 : twin (st ++ kids (.bl b)) = twin st := by simp [kids]
    rw [e3]
    simp [fnM, sSeq, sSet, sIf, sRet, sRetN, sExpr, sNil, sAsg, sPut, sPutI, sAug, sPar, sBreak, sCont, mVar, mC, mBin, mUn, mIf, mNil, mCons, mTup, mFz, mNew, mLst, mTr, mTB, mB, mBF, mMeth, mIsi, mCall, mSl, mChain, mAnd, mOr, mNot, tAndM, tOrM, tNotM, okL, okS, asBl, truthD, gNm, gTp, gsCons, gsNil, lstOf, hn, gPop, tyD, isiD, fNe, scalD, deq, fIsN, fNotN]
  | int i =>
    refine ⟨some (.int i), some (.int i), x5, ?_⟩
    have e3 : twin (st ++ kids (.int i)) = twin st := by simp [kids]
    rw [e3]
    simp [fnM, sSeq, sSet, sIf, sRet, sRetN, sExpr, sNil, sAsg, sPut, sPutI, sAug, sPar, sBreak, sCont, mVar, mC, mBin, mUn, mIf, mNil, mCons, mTup, mFz, mNew, mLst, mTr, mTB, mB, mBF, mMeth, mIsi, mCall, mSl, mChain, mAnd, mOr, mNot, tAndM, tOrM, tNotM, okL, okS, asBl, truthD, gNm, gTp, gsCons, gsNil, lstOf, hn, gPop, tyD, isiD, fNe, scalD, deq, fIsN, fNotN]
  | str s =>
    refine ⟨some (.str s), some (.str s), x5, ?_⟩
    have e3 : twin (st ++ kids (.str s)) = twin st := by simp [kids]
    rw [e3]
    simp [fnM, sSeq, sSet, sIf, sRet, sRetN, sExpr, sNil, sAsg, sPut, sPutI, sAug, sPar, sBreak, sCont, mVar, mC, mBin, mUn, mIf, mNil, mCons, mTup, mFz, mNew, mLst, mTr, mTB, mB, mBF, mMeth, mIsi, mCall, mSl, mChain, mAnd, mOr, mNot, tAndM, tOrM, tNotM, okL, okS, asBl, truthD, gNm, gTp, gsCons, gsNil, lstOf, hn, gPop, tyD, isiD, fNe, scalD, deq, fIsN, fNotN]
  | fl ys => simp [plainD] at hp
  | ref k => simp [plainD] at hp
theorem same_while {x0 x1 : Option D} {n : Nat} : ∀ (N : Nat) (st : List D) (h : MH) (x3 x4 x5 : Option D), nodess st ≤ N → N ≤ 400000 → plainDs st = true → h[n]? = some (.lst (twin st)) →
    ∃ y3 y4 y5, sWhile (mTr (mVar 2)) sameBody [x0, x1, some (.ref n), x3, x4, x5] h = .ok (.nx, [x0, x1, some (.ref n), y3, y4, y5], h.set n (.lst []))
  | N, st, h, x3, x4, x5, hN, hm, hp, hn => by
    rcases List.eq_nil_or_concat st with rfl | ⟨st', x, rfl⟩
    · refine ⟨x3, x4, x5, ?_⟩
      rw [sWhile_eq]
      have hn : h[n]? = some (.lst []) := hn
      simp [fnM, sSeq, sSet, sIf, sRet, sRetN, sExpr, sNil, sAsg, sPut, sPutI, sAug, sPar, sBreak, sCont, mVar, mC, mBin, mUn, mIf, mNil, mCons, mTup, mFz, mNew, mLst, mTr, mTB, mB, mBF, mMeth, mIsi, mCall, mSl, mChain, mAnd, mOr, mNot, tAndM, tOrM, tNotM, okL, okS, asBl, truthD, gNm, gTp, gsCons, gsNil, hn, set_same hn]
    · rw [List.concat_eq_append] at *
      have hN' := hN
      rw [nodess_app] at hN'
      rw [plainDs_app] at hp
      simp only [nodess, plainDs, Bool.and_true, Bool.and_eq_true] at hN' hp
      have np := nodes_pos x
      obtain ⟨y3, y4, y5, e⟩ := same_step (x0 := x0) (x1 := x1) st' x h x3 x4 x5 hn hp.2 (by omega)
      have hk : nodess (kids x) + 1 ≤ nodes x := by cases x <;> simp [kids, nodess, nodes]; omega
      have pk : plainDs (kids x) = true := by
        have := hp.2
        cases x <;> simp [kids, plainDs] <;> simpa [plainD] using this
      cases N with
      | zero => omega
      | succ N =>
        obtain ⟨z3, z4, z5, e2⟩ := same_while (x0 := x0) (x1 := x1) N (st' ++ kids x) (h.set n (.lst (twin (st' ++ kids x)))) y3 y4 y5 (by rw [nodess_app]; omega) (by omega) (by rw [plainDs_app, hp.1, pk]; rfl) (set_at hn)
        refine ⟨z3, z4, z5, ?_⟩
        rw [sWhile_eq]
        have tw : twin (st' ++ [x]) = twin st' ++ [.tup [x, x]] := by simp [twin]
        rw [tw] at hn
        have t1 : mTr (mVar 2) [x0, x1, some (.ref n), x3, x4, x5] h = .ok (true, h) := by simp [fnM, sSeq, sSet, sIf, sRet, sRetN, sExpr, sNil, sAsg, sPut, sPutI, sAug, sPar, sBreak, sCont, mVar, mC, mBin, mUn, mIf, mNil, mCons, mTup, mFz, mNew, mLst, mTr, mTB, mB, mBF, mMeth, mIsi, mCall, mSl, mChain, mAnd, mOr, mNot, tAndM, tOrM, tNotM, okL, okS, asBl, truthD, gNm, gTp, gsCons, gsNil, hn]
        rw [t1]
        simp only [R.bind_ok, if_true, e, e2, set_twice]
noncomputable def sp_same : FM := fun ds h => match ds with
  | [a, b] => if a = b ∧ plainD a = true ∧ nodes a ≤ 400000 then .ok (.bl true, h) else .stuck
  | _ => .stuck
theorem same_tells (ds : List D) (h : MH) (hl : ds.length = 2) : Tells h (fnM 6 b__law_same ds h) (sp_same ds h) := by
  unfold sp_same
  split
  · rename_i a b
    split
    · rename_i hc
      obtain ⟨rfl, hp, hn⟩ := hc
      obtain ⟨y3, y4, y5, e⟩ := same_while (x0 := some a) (x1 := some a) (n := h.length) 400000 [a] (h ++ [.lst [.tup [a, a]]]) none none none (by simp [nodess]; omega) (Nat.le_refl _) (by simp [plainDs, hp]) new_at
      refine tells_drop (t := [.lst []]) (fnM_rt (Γ := [some a, some a, some (.ref h.length), y3, y4, y5]) ?_) (by simp [closedD])
      have b : b__law_same = sSeq (sSet 2 (mNew (mLst (mCons (mTup (mCons (mVar 0) (mCons (mVar 1) mNil))) mNil)))) (sSeq (sWhile (mTr (mVar 2)) sameBody) (sRet (mC (.bl true)))) := rfl
      have e2 : sSet 2 (mNew (mLst (mCons (mTup (mCons (mVar 0) (mCons (mVar 1) mNil))) mNil))) ([a, a].map some ++ List.replicate (6 - [a, a].length) none) h = .ok (.nx, [some a, some a, some (.ref h.length), none, none, none], h ++ [.lst [.tup [a, a]]]) := by simp [fnM, sSeq, sSet, sIf, sRet, sRetN, sExpr, sNil, sAsg, sPut, sPutI, sAug, sPar, sBreak, sCont, mVar, mC, mBin, mUn, mIf, mNil, mCons, mTup, mFz, mNew, mLst, mTr, mTB, mB, mBF, mMeth, mIsi, mCall, mSl, mChain, mAnd, mOr, mNot, tAndM, tOrM, tNotM, okL, okS, asBl, truthD, gNm, gTp, gsCons, gsNil]
      rw [b, sSeq_nx e2, sSeq_nx e, new_set]
      simp [fnM, sSeq, sSet, sIf, sRet, sRetN, sExpr, sNil, sAsg, sPut, sPutI, sAug, sPar, sBreak, sCont, mVar, mC, mBin, mUn, mIf, mNil, mCons, mTup, mFz, mNew, mLst, mTr, mTB, mB, mBF, mMeth, mIsi, mCall, mSl, mChain, mAnd, mOr, mNot, tAndM, tOrM, tNotM, okL, okS, asBl, truthD, gNm, gTp, gsCons, gsNil]
    · exact trivial
  · exact trivial
end K01
namespace K01
open PySem L2 Mir
open Classical
/-! ## names -/
def lettersL : List Nat := List.range' 97 26
def digitsL : List Nat := List.range' 48 10
theorem letters_ : ("abcdefghijklmnopqrstuvwxyz" : Str) = toS lettersL := by decide +kernel
theorem signs_ : ("abcdefghijklmnopqrstuvwxyz0123456789" : Str) = toS (lettersL ++ digitsL) := by decide +kernel
theorem digits_ : ("0123456789" : Str) = toS digitsL := by decide +kernel
def kwD : List D := [(.str "options"), (.str "part"), (.str "let"), (.str "vote"), (.str "over"), (.str "else"), (.str "end"), (.str "if"), (.str "is"), (.str "repeat"), (.str "take")]
theorem kw_ : c_KEYWORDS = .tup kwD := rfl
noncomputable def nameL (l : List Nat) : Bool := decide (1 ≤ l.length) && decide (l.length ≤ 8) && (match l with | c :: _ => decide (c ∈ lettersL) | [] => false) && !(kwD.any fun y => deq y (.str (toS l))) && l.all fun c => decide (c ∈ lettersL ++ digitsL)
noncomputable def nameB : D → Bool
  | .str s => nameL s.cps.toList
  | _ => false
theorem oneSign_toS (c : Nat) : oneSign (toS [c]) = some c := by simp [oneSign, toS]
theorem in_toS {c : Nat} {l : List Nat} {h : MH} : inD (.str (toS [c])) (.str (toS l)) h = some (decide (c ∈ l)) := by simp [inD, oneSign_toS]
theorem in_kw {s : Str} {h : MH} : inD (.str s) (.tup kwD) h = some (kwD.any fun y => deq y (.str s)) := by
  unfold inD
  simp only [seqOf, Option.bind_some]
  unfold inSeq
  rw [if_pos]
  left
  constructor
  · rfl
  · rfl
abbrev chL (l : List Nat) : List D := l.map fun c => .str (toS [c])
theorem name_loop1 {x0 : Option D} : ∀ (l : List Nat) (x1 : Option D) (h : MH),
    (l.all (fun c => decide (c ∈ lettersL ++ digitsL)) = true → ∃ y, loop none (stepOf (gNm 1) (sIf (mTB (mBin fNotIn (mVar 1) (mC c_NAME_SIGNS))) (sRet (mC (.bl false))) sNil)) (chL l) [x0, x1] h = .ok (.nx, [x0, y], h)) ∧
    (l.all (fun c => decide (c ∈ lettersL ++ digitsL)) = false → ∃ Γ, loop none (stepOf (gNm 1) (sIf (mTB (mBin fNotIn (mVar 1) (mC c_NAME_SIGNS))) (sRet (mC (.bl false))) sNil)) (chL l) [x0, x1] h = .ok (.rt (.bl false), Γ, h))
  | [], x1, h => ⟨fun _ => ⟨x1, by simp [chL]⟩, fun z => by simp at z⟩
  | c :: l, x1, h => by
    have ih := name_loop1 (x0 := x0) l (some (.str (toS [c]))) h
    have cs : c_NAME_SIGNS = .str (toS (lettersL ++ digitsL)) := by unfold c_NAME_SIGNS; rw [signs_]
    by_cases hc : c ∈ lettersL ++ digitsL
    · have st : stepOf (gNm 1) (sIf (mTB (mBin fNotIn (mVar 1) (mC c_NAME_SIGNS))) (sRet (mC (.bl false))) sNil) (.str (toS [c])) [x0, x1] h = .ok (.nx, [x0, some (.str (toS [c]))], h) := by
        have i := in_toS (c := c) (l := lettersL ++ digitsL) (h := h)
        rw [decide_eq_true hc] at i
        simp [fnM, sSeq, sSet, sIf, sRet, sRetN, sExpr, sNil, sAsg, sPut, sPutI, sAug, sPar, sBreak, sCont, mVar, mC, mBin, mUn, mIf, mNil, mCons, mTup, mFz, mNew, mLst, mTr, mTB, mB, mBF, mMeth, mIsi, mCall, mSl, mChain, mAnd, mOr, mNot, tAndM, tOrM, tNotM, okL, okS, asBl, truthD, gNm, gTp, gsCons, gsNil, stepOf, fNotIn, cs, i]
      rw [chL, List.map_cons, loop_nx0 st, List.all_cons, decide_eq_true hc, Bool.true_and]
      exact ih
    · have st : stepOf (gNm 1) (sIf (mTB (mBin fNotIn (mVar 1) (mC c_NAME_SIGNS))) (sRet (mC (.bl false))) sNil) (.str (toS [c])) [x0, x1] h = .ok (.rt (.bl false), [x0, some (.str (toS [c]))], h) := by
        have i := in_toS (c := c) (l := lettersL ++ digitsL) (h := h)
        rw [decide_eq_false hc] at i
        simp [fnM, sSeq, sSet, sIf, sRet, sRetN, sExpr, sNil, sAsg, sPut, sPutI, sAug, sPar, sBreak, sCont, mVar, mC, mBin, mUn, mIf, mNil, mCons, mTup, mFz, mNew, mLst, mTr, mTB, mB, mBF, mMeth, mIsi, mCall, mSl, mChain, mAnd, mOr, mNot, tAndM, tOrM, tNotM, okL, okS, asBl, truthD, gNm, gTp, gsCons, gsNil, stepOf, fNotIn, cs, i]
      rw [chL, List.map_cons, loop_rt0 st, List.all_cons, decide_eq_false hc, Bool.false_and]
      exact ⟨fun z => by simp at z, fun _ => ⟨_, rfl⟩⟩
noncomputable abbrev lawNB : SM := (sIf (tAndM (mTB (mBin fNotIn (mVar 2) (mVar 1))) (mTB (mBin fNotIn (mVar 2) (mC (.str "0123456789"))))) (sRet (mC (.bl false))) sNil)
theorem name_loop2 {x0 : Option D} : ∀ (l : List Nat) (x2 : Option D) (h : MH),
    (l.all (fun c => decide (c ∈ lettersL ++ digitsL)) = true → ∃ y, loop none (stepOf (gNm 2) lawNB) (chL l) [x0, some (.str (toS lettersL)), x2] h = .ok (.nx, [x0, some (.str (toS lettersL)), y], h)) ∧
    (l.all (fun c => decide (c ∈ lettersL ++ digitsL)) = false → ∃ Γ, loop none (stepOf (gNm 2) lawNB) (chL l) [x0, some (.str (toS lettersL)), x2] h = .ok (.rt (.bl false), Γ, h))
  | [], x2, h => ⟨fun _ => ⟨x2, by simp [chL]⟩, fun z => by simp at z⟩
  | c :: l, x2, h => by
    have ih := name_loop2 (x0 := x0) l (some (.str (toS [c]))) h
    have i1 := in_toS (c := c) (l := lettersL) (h := h)
    have i2 := in_toS (c := c) (l := digitsL) (h := h)
    by_cases hc : c ∈ lettersL ++ digitsL
    · have st : stepOf (gNm 2) lawNB (.str (toS [c])) [x0, some (.str (toS lettersL)), x2] h = .ok (.nx, [x0, some (.str (toS lettersL)), some (.str (toS [c]))], h) := by
        by_cases h1 : c ∈ lettersL
        · rw [decide_eq_true h1] at i1
          simp [fnM, sSeq, sSet, sIf, sRet, sRetN, sExpr, sNil, sAsg, sPut, sPutI, sAug, sPar, sBreak, sCont, mVar, mC, mBin, mUn, mIf, mNil, mCons, mTup, mFz, mNew, mLst, mTr, mTB, mB, mBF, mMeth, mIsi, mCall, mSl, mChain, mAnd, mOr, mNot, tAndM, tOrM, tNotM, okL, okS, asBl, truthD, gNm, gTp, gsCons, gsNil, stepOf, fNotIn, digits_, i1]
        · have h2 : c ∈ digitsL := by simpa [h1] using hc
          rw [decide_eq_false h1] at i1
          rw [decide_eq_true h2] at i2
          simp [fnM, sSeq, sSet, sIf, sRet, sRetN, sExpr, sNil, sAsg, sPut, sPutI, sAug, sPar, sBreak, sCont, mVar, mC, mBin, mUn, mIf, mNil, mCons, mTup, mFz, mNew, mLst, mTr, mTB, mB, mBF, mMeth, mIsi, mCall, mSl, mChain, mAnd, mOr, mNot, tAndM, tOrM, tNotM, okL, okS, asBl, truthD, gNm, gTp, gsCons, gsNil, stepOf, fNotIn, digits_, i1, i2]
      rw [chL, List.map_cons, loop_nx0 st, List.all_cons, decide_eq_true hc, Bool.true_and]
      exact ih
    · have h1 : c ∉ lettersL := fun z => hc (List.mem_append_left _ z)
      have h2 : c ∉ digitsL := fun z => hc (List.mem_append_right _ z)
      have st : stepOf (gNm 2) lawNB (.str (toS [c])) [x0, some (.str (toS lettersL)), x2] h = .ok (.rt (.bl false), [x0, some (.str (toS lettersL)), some (.str (toS [c]))], h) := by
        rw [decide_eq_false h1] at i1
        rw [decide_eq_false h2] at i2
        simp [fnM, sSeq, sSet, sIf, sRet, sRetN, sExpr, sNil, sAsg, sPut, sPutI, sAug, sPar, sBreak, sCont, mVar, mC, mBin, mUn, mIf, mNil, mCons, mTup, mFz, mNew, mLst, mTr, mTB, mB, mBF, mMeth, mIsi, mCall, mSl, mChain, mAnd, mOr, mNot, tAndM, tOrM, tNotM, okL, okS, asBl, truthD, gNm, gTp, gsCons, gsNil, stepOf, fNotIn, digits_, i1, i2]
      rw [chL, List.map_cons, loop_rt0 st, List.all_cons, decide_eq_false hc, Bool.false_and]
      exact ⟨fun z => by simp at z, fun _ => ⟨_, rfl⟩⟩
def thingOk : D → Bool
  | .str s => decide (s.length ≤ 100000)
  | .ref _ => false
  | _ => true
theorem len_toS {l : List Nat} {h : MH} (hs : l.length ≤ 100000) : lenD h (.str (toS l)) = some l.length := by
  simp only [lenD]
  rw [if_pos (by rw [toS_len]; omega), toS_len]
theorem ix0_toS {c : Nat} {r : List Nat} {h : MH} (hs : (c :: r).length ≤ 100000) : fIx (.str (toS (c :: r))) (.int 0) h = some (.str (toS [c]), h) := by
  have e : atI (toS (c :: r)).cps.toList 0 = some c := atI_zero
  simp only [fIx]
  rw [if_pos (by rw [toS_len]; omega), e]
  rfl
theorem nameL_cons {c : Nat} {r : List Nat} (h8 : (c :: r).length ≤ 8) : nameL (c :: r) = (decide (c ∈ lettersL) && !(kwD.any fun y => deq y (.str (toS (c :: r)))) && (c :: r).all fun c => decide (c ∈ lettersL ++ digitsL)) := by
  unfold nameL
  rw [decide_eq_true h8, decide_eq_true (show 1 ≤ (c :: r).length by simp)]
  rfl
theorem nameL_long {l : List Nat} (h8 : ¬ l.length ≤ 8) : nameL l = false := by unfold nameL; rw [decide_eq_false h8]; simp
theorem run_is_name {d : D} {h : MH} (hd : thingOk d = true) : fnM 2 b_is_name [d] h = .ok (.bl (nameB d), h) := by
  have cl : c_LETTERS = .str (toS lettersL) := by unfold c_LETTERS; rw [letters_]
  cases d with
  | str s =>
    have hs : s.length ≤ 100000 := by simpa [thingOk] using hd
    obtain ⟨l, rfl⟩ : ∃ l, s = toS l := ⟨_, (toS_tl s).symm⟩
    rw [toS_len] at hs
    have tl : (toS l).cps.toList = l := by simp [toS]
    show _ = R.ok (D.bl (nameL (toS l).cps.toList), h)
    rw [tl]
    have c0 : c_LONGEST_NAME = .int 8 := rfl
    have hln := len_toS (h := h) hs
    cases l with
    | nil => simp [fnM, sSeq, sSet, sIf, sRet, sRetN, sExpr, sNil, sAsg, sPut, sPutI, sAug, sPar, sBreak, sCont, mVar, mC, mBin, mUn, mIf, mNil, mCons, mTup, mFz, mNew, mLst, mTr, mTB, mB, mBF, mMeth, mIsi, mCall, mSl, mChain, mAnd, mOr, mNot, tAndM, tOrM, tNotM, okL, okS, asBl, truthD, gNm, gTp, gsCons, gsNil, b_is_name, tyD, isiD, gLen, hln, fLe, nameL, c0]
    | cons c r =>
      by_cases h8 : (c :: r).length ≤ 8
      · have h8i : ((r.length : Int) + 1) ≤ 8 := by simp at h8; omega
        have h1i : (1 : Int) ≤ ((r.length : Int) + 1) := by omega
        have a2 := ix0_toS (h := h) hs
        have i1 := in_toS (c := c) (l := lettersL) (h := h)
        have ik := in_kw (s := toS (c :: r)) (h := h)
        rw [nameL_cons h8]
        by_cases hc : c ∈ lettersL
        · rw [decide_eq_true hc] at i1 ⊢
          cases hk : (kwD.any fun y => deq y (.str (toS (c :: r)))) with
          | true =>
            rw [hk] at ik
            simp [fnM, sSeq, sSet, sIf, sRet, sRetN, sExpr, sNil, sAsg, sPut, sPutI, sAug, sPar, sBreak, sCont, mVar, mC, mBin, mUn, mIf, mNil, mCons, mTup, mFz, mNew, mLst, mTr, mTB, mB, mBF, mMeth, mIsi, mCall, mSl, mChain, mAnd, mOr, mNot, tAndM, tOrM, tNotM, okL, okS, asBl, truthD, gNm, gTp, gsCons, gsNil, b_is_name, tyD, isiD, gLen, hln, fLe, c0, h8i, h1i, a2, fNotIn, fIn, cl, i1, kw_, ik]
          | false =>
            rw [hk] at ik
            obtain ⟨t1, t2⟩ := name_loop1 (x0 := some (.str (toS (c :: r)))) (c :: r) none h
            have e1 : sFor (iAny (mVar 0)) (gNm 1) (sIf (mTB (mBin fNotIn (mVar 1) (mC c_NAME_SIGNS))) (sRet (mC (.bl false))) sNil) [some (.str (toS (c :: r))), none] h = loop none (stepOf (gNm 1) (sIf (mTB (mBin fNotIn (mVar 1) (mC c_NAME_SIGNS))) (sRet (mC (.bl false))) sNil)) (chL (c :: r)) [some (.str (toS (c :: r))), none] h := by
              have ch : chars (toS (c :: r)) = chL (c :: r) := chars_toS _
              refine sFor_eq ?_
              simp [fnM, sSeq, sSet, sIf, sRet, sRetN, sExpr, sNil, sAsg, sPut, sPutI, sAug, sPar, sBreak, sCont, mVar, mC, mBin, mUn, mIf, mNil, mCons, mTup, mFz, mNew, mLst, mTr, mTB, mB, mBF, mMeth, mIsi, mCall, mSl, mChain, mAnd, mOr, mNot, tAndM, tOrM, tNotM, okL, okS, asBl, truthD, gNm, gTp, gsCons, gsNil, iAny, itemsOf, ch]
            cases hall : (c :: r).all (fun c => decide (c ∈ lettersL ++ digitsL)) with
            | true =>
              obtain ⟨y, e2⟩ := t1 hall
              have e3 := e1.trans e2
              simp [fnM, sSeq, sSet, sIf, sRet, sRetN, sExpr, sNil, sAsg, sPut, sPutI, sAug, sPar, sBreak, sCont, mVar, mC, mBin, mUn, mIf, mNil, mCons, mTup, mFz, mNew, mLst, mTr, mTB, mB, mBF, mMeth, mIsi, mCall, mSl, mChain, mAnd, mOr, mNot, tAndM, tOrM, tNotM, okL, okS, asBl, truthD, gNm, gTp, gsCons, gsNil, b_is_name, tyD, isiD, gLen, hln, fLe, c0, h8i, h1i, a2, fNotIn, fIn, cl, i1, kw_, ik, e3]
            | false =>
              obtain ⟨y, e2⟩ := t2 hall
              have e3 := e1.trans e2
              simp [fnM, sSeq, sSet, sIf, sRet, sRetN, sExpr, sNil, sAsg, sPut, sPutI, sAug, sPar, sBreak, sCont, mVar, mC, mBin, mUn, mIf, mNil, mCons, mTup, mFz, mNew, mLst, mTr, mTB, mB, mBF, mMeth, mIsi, mCall, mSl, mChain, mAnd, mOr, mNot, tAndM, tOrM, tNotM, okL, okS, asBl, truthD, gNm, gTp, gsCons, gsNil, b_is_name, tyD, isiD, gLen, hln, fLe, c0, h8i, h1i, a2, fNotIn, fIn, cl, i1, kw_, ik, e3]
        · rw [decide_eq_false hc] at i1 ⊢
          simp [fnM, sSeq, sSet, sIf, sRet, sRetN, sExpr, sNil, sAsg, sPut, sPutI, sAug, sPar, sBreak, sCont, mVar, mC, mBin, mUn, mIf, mNil, mCons, mTup, mFz, mNew, mLst, mTr, mTB, mB, mBF, mMeth, mIsi, mCall, mSl, mChain, mAnd, mOr, mNot, tAndM, tOrM, tNotM, okL, okS, asBl, truthD, gNm, gTp, gsCons, gsNil, b_is_name, tyD, isiD, gLen, hln, fLe, c0, h8i, h1i, a2, fNotIn, fIn, cl, i1]
      · have h8i : ¬ ((r.length : Int) + 1) ≤ 8 := by simp at h8; omega
        have h1i : (1 : Int) ≤ ((r.length : Int) + 1) := by omega
        rw [nameL_long h8]
        simp [fnM, sSeq, sSet, sIf, sRet, sRetN, sExpr, sNil, sAsg, sPut, sPutI, sAug, sPar, sBreak, sCont, mVar, mC, mBin, mUn, mIf, mNil, mCons, mTup, mFz, mNew, mLst, mTr, mTB, mB, mBF, mMeth, mIsi, mCall, mSl, mChain, mAnd, mOr, mNot, tAndM, tOrM, tNotM, okL, okS, asBl, truthD, gNm, gTp, gsCons, gsNil, b_is_name, tyD, isiD, gLen, hln, fLe, c0, h8i, h1i]
  | non => simp [fnM, sSeq, sSet, sIf, sRet, sRetN, sExpr, sNil, sAsg, sPut, sPutI, sAug, sPar, sBreak, sCont, mVar, mC, mBin, mUn, mIf, mNil, mCons, mTup, mFz, mNew, mLst, mTr, mTB, mB, mBF, mMeth, mIsi, mCall, mSl, mChain, mAnd, mOr, mNot, tAndM, tOrM, tNotM, okL, okS, asBl, truthD, gNm, gTp, gsCons, gsNil, b_is_name, tyD, isiD, nameB]
  | bl b => simp [fnM, sSeq, sSet, sIf, sRet, sRetN, sExpr, sNil, sAsg, sPut, sPutI, sAug, sPar, sBreak, sCont, mVar, mC, mBin, mUn, mIf, mNil, mCons, mTup, mFz, mNew, mLst, mTr, mTB, mB, mBF, mMeth, mIsi, mCall, mSl, mChain, mAnd, mOr, mNot, tAndM, tOrM, tNotM, okL, okS, asBl, truthD, gNm, gTp, gsCons, gsNil, b_is_name, tyD, isiD, nameB]
  | int i => simp [fnM, sSeq, sSet, sIf, sRet, sRetN, sExpr, sNil, sAsg, sPut, sPutI, sAug, sPar, sBreak, sCont, mVar, mC, mBin, mUn, mIf, mNil, mCons, mTup, mFz, mNew, mLst, mTr, mTB, mB, mBF, mMeth, mIsi, mCall, mSl, mChain, mAnd, mOr, mNot, tAndM, tOrM, tNotM, okL, okS, asBl, truthD, gNm, gTp, gsCons, gsNil, b_is_name, tyD, isiD, nameB]
  | tup xs => simp [fnM, sSeq, sSet, sIf, sRet, sRetN, sExpr, sNil, sAsg, sPut, sPutI, sAug, sPar, sBreak, sCont, mVar, mC, mBin, mUn, mIf, mNil, mCons, mTup, mFz, mNew, mLst, mTr, mTB, mB, mBF, mMeth, mIsi, mCall, mSl, mChain, mAnd, mOr, mNot, tAndM, tOrM, tNotM, okL, okS, asBl, truthD, gNm, gTp, gsCons, gsNil, b_is_name, tyD, isiD, nameB]
  | fl xs => simp [fnM, sSeq, sSet, sIf, sRet, sRetN, sExpr, sNil, sAsg, sPut, sPutI, sAug, sPar, sBreak, sCont, mVar, mC, mBin, mUn, mIf, mNil, mCons, mTup, mFz, mNew, mLst, mTr, mTB, mB, mBF, mMeth, mIsi, mCall, mSl, mChain, mAnd, mOr, mNot, tAndM, tOrM, tNotM, okL, okS, asBl, truthD, gNm, gTp, gsCons, gsNil, b_is_name, tyD, isiD, nameB]
  | ref k => simp [thingOk] at hd
theorem run_law_is_name {d : D} {h : MH} (hd : thingOk d = true) : fnM 3 b__law_is_name [d] h = .ok (.bl (nameB d), h) := by
  cases d with
  | str s =>
    have hs : s.length ≤ 100000 := by simpa [thingOk] using hd
    obtain ⟨l, rfl⟩ : ∃ l, s = toS l := ⟨_, (toS_tl s).symm⟩
    rw [toS_len] at hs
    have tl : (toS l).cps.toList = l := by simp [toS]
    show _ = R.ok (D.bl (nameL (toS l).cps.toList), h)
    rw [tl]
    have hln := len_toS (h := h) hs
    cases l with
    | nil => simp [fnM, sSeq, sSet, sIf, sRet, sRetN, sExpr, sNil, sAsg, sPut, sPutI, sAug, sPar, sBreak, sCont, mVar, mC, mBin, mUn, mIf, mNil, mCons, mTup, mFz, mNew, mLst, mTr, mTB, mB, mBF, mMeth, mIsi, mCall, mSl, mChain, mAnd, mOr, mNot, tAndM, tOrM, tNotM, okL, okS, asBl, truthD, gNm, gTp, gsCons, gsNil, b__law_is_name, tyD, isiD, gLen, hln, fLt, nameL]
    | cons c r =>
      have h1i : ¬ ((r.length : Int) + 1) < 1 := by omega
      by_cases h8 : (c :: r).length ≤ 8
      · have h8i : ¬ 8 < ((r.length : Int) + 1) := by simp at h8; omega
        have a2 := ix0_toS (h := h) hs
        have i1 := in_toS (c := c) (l := lettersL) (h := h)
        have ik := in_kw (s := toS (c :: r)) (h := h)
        unfold kwD at ik
        have kw' : kwD = [(.str "options"), (.str "part"), (.str "let"), (.str "vote"), (.str "over"), (.str "else"), (.str "end"), (.str "if"), (.str "is"), (.str "repeat"), (.str "take")] := rfl
        rw [nameL_cons h8]
        by_cases hc : c ∈ lettersL
        · rw [decide_eq_true hc] at i1 ⊢
          obtain ⟨t1, t2⟩ := name_loop2 (x0 := some (.str (toS (c :: r)))) (c :: r) none h
          have e1 : sFor (iAny (mVar 0)) (gNm 2) lawNB [some (.str (toS (c :: r))), some (.str (toS lettersL)), none] h = loop none (stepOf (gNm 2) lawNB) (chL (c :: r)) [some (.str (toS (c :: r))), some (.str (toS lettersL)), none] h := by
            have ch : chars (toS (c :: r)) = chL (c :: r) := chars_toS _
            refine sFor_eq ?_
            simp [fnM, sSeq, sSet, sIf, sRet, sRetN, sExpr, sNil, sAsg, sPut, sPutI, sAug, sPar, sBreak, sCont, mVar, mC, mBin, mUn, mIf, mNil, mCons, mTup, mFz, mNew, mLst, mTr, mTB, mB, mBF, mMeth, mIsi, mCall, mSl, mChain, mAnd, mOr, mNot, tAndM, tOrM, tNotM, okL, okS, asBl, truthD, gNm, gTp, gsCons, gsNil, iAny, itemsOf, ch]
          cases hall : (c :: r).all (fun c => decide (c ∈ lettersL ++ digitsL)) with
          | true =>
            obtain ⟨y, e2⟩ := t1 hall
            have e3 := e1.trans e2
            rw [kw']
            generalize (List.any _ fun y => deq y (.str (toS (c :: r)))) = bb at ik
            simp [fnM, sSeq, sSet, sIf, sRet, sRetN, sExpr, sNil, sAsg, sPut, sPutI, sAug, sPar, sBreak, sCont, mVar, mC, mBin, mUn, mIf, mNil, mCons, mTup, mFz, mNew, mLst, mTr, mTB, mB, mBF, mMeth, mIsi, mCall, mSl, mChain, mAnd, mOr, mNot, tAndM, tOrM, tNotM, okL, okS, asBl, truthD, gNm, gTp, gsCons, gsNil, b__law_is_name, tyD, isiD, gLen, hln, fLt, fGt, letters_, h8i, h1i, a2, fNotIn, fIn, i1, e3, ik]
          | false =>
            obtain ⟨y, e2⟩ := t2 hall
            have e3 := e1.trans e2
            simp [fnM, sSeq, sSet, sIf, sRet, sRetN, sExpr, sNil, sAsg, sPut, sPutI, sAug, sPar, sBreak, sCont, mVar, mC, mBin, mUn, mIf, mNil, mCons, mTup, mFz, mNew, mLst, mTr, mTB, mB, mBF, mMeth, mIsi, mCall, mSl, mChain, mAnd, mOr, mNot, tAndM, tOrM, tNotM, okL, okS, asBl, truthD, gNm, gTp, gsCons, gsNil, b__law_is_name, tyD, isiD, gLen, hln, fLt, fGt, letters_, h8i, h1i, a2, fNotIn, fIn, i1, e3]
        · rw [decide_eq_false hc] at i1 ⊢
          simp [fnM, sSeq, sSet, sIf, sRet, sRetN, sExpr, sNil, sAsg, sPut, sPutI, sAug, sPar, sBreak, sCont, mVar, mC, mBin, mUn, mIf, mNil, mCons, mTup, mFz, mNew, mLst, mTr, mTB, mB, mBF, mMeth, mIsi, mCall, mSl, mChain, mAnd, mOr, mNot, tAndM, tOrM, tNotM, okL, okS, asBl, truthD, gNm, gTp, gsCons, gsNil, b__law_is_name, tyD, isiD, gLen, hln, fLt, fGt, letters_, h8i, h1i, a2, fNotIn, fIn, i1]
      · have h8i : 8 < ((r.length : Int) + 1) := by simp at h8; omega
        rw [nameL_long h8]
        simp [fnM, sSeq, sSet, sIf, sRet, sRetN, sExpr, sNil, sAsg, sPut, sPutI, sAug, sPar, sBreak, sCont, mVar, mC, mBin, mUn, mIf, mNil, mCons, mTup, mFz, mNew, mLst, mTr, mTB, mB, mBF, mMeth, mIsi, mCall, mSl, mChain, mAnd, mOr, mNot, tAndM, tOrM, tNotM, okL, okS, asBl, truthD, gNm, gTp, gsCons, gsNil, b__law_is_name, tyD, isiD, gLen, hln, fLt, fGt, h8i, h1i]
  | non => simp [fnM, sSeq, sSet, sIf, sRet, sRetN, sExpr, sNil, sAsg, sPut, sPutI, sAug, sPar, sBreak, sCont, mVar, mC, mBin, mUn, mIf, mNil, mCons, mTup, mFz, mNew, mLst, mTr, mTB, mB, mBF, mMeth, mIsi, mCall, mSl, mChain, mAnd, mOr, mNot, tAndM, tOrM, tNotM, okL, okS, asBl, truthD, gNm, gTp, gsCons, gsNil, b__law_is_name, tyD, isiD, nameB]
  | bl b => simp [fnM, sSeq, sSet, sIf, sRet, sRetN, sExpr, sNil, sAsg, sPut, sPutI, sAug, sPar, sBreak, sCont, mVar, mC, mBin, mUn, mIf, mNil, mCons, mTup, mFz, mNew, mLst, mTr, mTB, mB, mBF, mMeth, mIsi, mCall, mSl, mChain, mAnd, mOr, mNot, tAndM, tOrM, tNotM, okL, okS, asBl, truthD, gNm, gTp, gsCons, gsNil, b__law_is_name, tyD, isiD, nameB]
  | int i => simp [fnM, sSeq, sSet, sIf, sRet, sRetN, sExpr, sNil, sAsg, sPut, sPutI, sAug, sPar, sBreak, sCont, mVar, mC, mBin, mUn, mIf, mNil, mCons, mTup, mFz, mNew, mLst, mTr, mTB, mB, mBF, mMeth, mIsi, mCall, mSl, mChain, mAnd, mOr, mNot, tAndM, tOrM, tNotM, okL, okS, asBl, truthD, gNm, gTp, gsCons, gsNil, b__law_is_name, tyD, isiD, nameB]
  | tup xs => simp [fnM, sSeq, sSet, sIf, sRet, sRetN, sExpr, sNil, sAsg, sPut, sPutI, sAug, sPar, sBreak, sCont, mVar, mC, mBin, mUn, mIf, mNil, mCons, mTup, mFz, mNew, mLst, mTr, mTB, mB, mBF, mMeth, mIsi, mCall, mSl, mChain, mAnd, mOr, mNot, tAndM, tOrM, tNotM, okL, okS, asBl, truthD, gNm, gTp, gsCons, gsNil, b__law_is_name, tyD, isiD, nameB]
  | fl xs => simp [fnM, sSeq, sSet, sIf, sRet, sRetN, sExpr, sNil, sAsg, sPut, sPutI, sAug, sPar, sBreak, sCont, mVar, mC, mBin, mUn, mIf, mNil, mCons, mTup, mFz, mNew, mLst, mTr, mTB, mB, mBF, mMeth, mIsi, mCall, mSl, mChain, mAnd, mOr, mNot, tAndM, tOrM, tNotM, okL, okS, asBl, truthD, gNm, gTp, gsCons, gsNil, b__law_is_name, tyD, isiD, nameB]
  | ref k => simp [thingOk] at hd
end K01
namespace K01
open PySem L2 Mir
open Classical
/-! ## what the draws make -/
abbrev HT (T : FM) : Prop := ∀ (h : MH) (n : Nat) (many : Int), Pool h n → 0 < many → many < 1073741824 → ∃ r h', T [.ref n, .int many] h = .ok (.int r, h') ∧ 0 ≤ r ∧ r < many ∧ Pool h' n ∧ ∃ o, h' = h.set n o
theorem pool_lt {h : MH} {n : Nat} (p : Pool h n) : n < h.length := by
  obtain ⟨a, b, gs, e, _⟩ := p
  exact (List.getElem?_eq_some_iff.mp e).1
theorem pool_app {h t : MH} {n : Nat} (p : Pool h n) : Pool (h ++ t) n := by
  obtain ⟨a, b, gs, e, l⟩ := p
  exact ⟨a, b, gs, old_at e, l⟩
theorem pool_set {h : MH} {n m : Nat} {o : O} (p : Pool h n) (ne : m ≠ n) : Pool (h.set m o) n := by
  obtain ⟨a, b, gs, e, l⟩ := p
  exact ⟨a, b, gs, by rw [List.getElem?_set_ne ne]; exact e, l⟩
theorem atI_ok {xs : List D} {r : Int} (h0 : 0 ≤ r) (h1 : r < xs.length) : ∃ d ∈ xs, atI xs r = some d := by
  obtain ⟨k, rfl⟩ := Int.eq_ofNat_of_zero_le h0
  have hk : k < xs.length := by omega
  exact ⟨xs[k], List.getElem_mem hk, atI_nat (List.getElem?_eq_getElem hk)⟩
/-- a list made by draws alone -/
theorem frz_pool {im : IM} {g : GM} {t : TM} {e : EM} {vs : List Nat} {Γ : Mir.Env} {h h1 : MH} {q : Nat} {ds : List D} (V : D → Prop) (hi : im Γ h = .ok ((ds, none), h1)) (hp : Pool h1 q) (hh : ∃ o, h1 = h.set q o) (hl : ds.length ≤ 1000000) (hc : ∀ v n, V v → closedD n v)
    (st : ∀ d ∈ ds, ∀ h' : MH, Pool h' q → ∃ Γ1 v h2, g d (wipeΓ Γ vs) h' = some Γ1 ∧ t Γ1 h' = .ok (true, h') ∧ e Γ1 h' = .ok (v, h2) ∧ Pool h2 q ∧ (∃ o, h2 = h'.set q o) ∧ V v) :
    ∃ ws h2, mFrz (mCompN im g t e vs) Γ h = .ok (.fl ws, h2) ∧ Pool h2 q ∧ (∃ o, h2 = h.set q o) ∧ (∀ v ∈ ws, V v) ∧ ws.length = ds.length := by
  obtain ⟨o1, rfl⟩ := hh
  have hq : q < h.length := by have := pool_lt hp; simpa using this
  have len1 : (h.set q o1).length = h.length := by simp
  obtain ⟨ws, h3, e1, ⟨p3, l3, a3⟩, n3, v3, c3⟩ := compL_ex (g := g) (t := t) (e := e) (n := h.length) (Γ := wipeΓ Γ vs) (fun h' => Pool h' q ∧ h'.length = h.length + 1 ∧ ∀ k, k < h.length → k ≠ q → h'[k]? = h[k]?) V
    (fun h' o ⟨p, l, a⟩ => ⟨pool_set p (by omega), by simp [l], fun k hk hn => by rw [List.getElem?_set_ne (by omega)]; exact a k hk hn⟩) ds (h.set q o1 ++ [.lst []]) []
    ⟨pool_app hp, by simp, fun k hk hn => by rw [List.getElem?_append_left (by simpa using hk), List.getElem?_set_ne (Ne.symm hn)]⟩ (by rw [← len1]; exact new_at) (by simpa using hl) (by simp)
    (fun d hd h' ⟨p, l, a⟩ _ => by
      obtain ⟨Γ1, v, h2, q1, q2, q3, q4, ⟨o, rfl⟩, q6⟩ := st d hd h' p
      refine ⟨Γ1, v, _, q1, q2, q3, ⟨q4, by simp [l], fun k hk hn => by rw [List.getElem?_set_ne (Ne.symm hn)]; exact a k hk hn⟩, ?_, q6⟩
      rw [List.getElem?_set_ne (by omega)])
  obtain ⟨a, b, gs, ep, lp⟩ := p3
  have cond : h.length ≤ h.length ∧ OldOk h h3 h.length ∧ closedDs h.length ws := by
    refine ⟨Nat.le_refl _, fun k o hk ho => ?_, closedDs_iff.mpr fun x hx => hc x _ (v3 x hx)⟩
    by_cases hkq : k = q
    · subst hkq
      rw [ep] at ho; cases ho
      right
      show closedDs _ (IL (a :: b :: gs))
      rw [closedDs_iff]
      intro x hx
      obtain ⟨i, _, rfl⟩ := List.mem_map.mp hx
      simp [closedD]
    · rw [a3 k hk hkq] at ho; exact .inl ho
  refine ⟨ws, h3.take h.length, ?_, ⟨a, b, gs, ?_, lp⟩, ⟨.lst (IL (a :: b :: gs)), ?_⟩, v3, by simpa using c3⟩
  · unfold mFrz mCompN
    simp only [hi, R.bind_ok, len1, e1, n3]
    rw [if_pos cond]
  · rw [List.getElem?_take_of_lt hq]; exact ep
  · apply List.ext_getElem?
    intro k
    by_cases hk : k < h.length
    · rw [List.getElem?_take_of_lt hk]
      by_cases hkq : k = q
      · subst hkq; rw [List.getElem?_set_self hk]; exact ep
      · rw [List.getElem?_set_ne (Ne.symm hkq)]; exact a3 k hk hkq
    · rw [List.getElem?_eq_none (by simp; omega), List.getElem?_eq_none (by simp; omega)]
theorem take_at {T : FM} (hT : HT T) {m : EM} {Γ : Mir.Env} {h : MH} {n : Nat} {many : Int} (hp : Pool h n) (hv : Γ[0]? = some (some (.ref n))) (hm : ∀ h', m Γ h' = .ok (.int many, h')) (m0 : 0 < many) (m1 : many < 1073741824) :
    ∃ r h', mCall T (mCons (mVar 0) (mCons m mNil)) Γ h = .ok (.int r, h') ∧ 0 ≤ r ∧ r < many ∧ Pool h' n ∧ ∃ o, h' = h.set n o := by
  obtain ⟨r, h', e, q⟩ := hT h n many hp m0 m1
  refine ⟨r, h', ?_, q⟩
  simp [fnM, sSeq, sSet, sIf, sRet, sRetN, sExpr, sNil, sAsg, sPut, sPutI, sAug, sPar, sBreak, sCont, mVar, mC, mBin, mUn, mIf, mNil, mCons, mTup, mFz, mNew, mLst, mTr, mTB, mB, mBF, mMeth, mIsi, mCall, mSl, mChain, mAnd, mOr, mNot, tAndM, tOrM, tNotM, okL, okS, asBl, truthD, gNm, gTp, gsCons, gsNil, hv, hm, e]
theorem join_len (g : Str) : ∀ (ps : List Str) (acc : Array Nat), (ps.foldl (fun a p => a ++ g.cps ++ p.cps) acc).size = acc.size + (ps.map (·.length)).sum + ps.length * g.length
  | [], acc => by simp
  | p :: ps, acc => by
    rw [List.foldl_cons, join_len g ps]
    simp [Str.length, Nat.add_mul]
    omega
theorem join_le (g : Str) (ps : List Str) : (Txt.join g ps).length ≤ (ps.map (·.length)).sum + ps.length * g.length := by
  cases ps with
  | nil => exact Nat.zero_le _
  | cons p ps =>
    show (ps.foldl (fun a p => a ++ g.cps ++ p.cps) p.cps).size ≤ _
    rw [join_len]
    simp only [List.map_cons, List.sum_cons, List.length_cons, Nat.add_mul, Str.length]
    omega
theorem strsOf_all {N : Nat} : ∀ {ds : List D}, (∀ d ∈ ds, ∃ s, d = .str s ∧ s.length ≤ N) → ∃ ss, strsOf ds = some ss ∧ (ss.map (·.length)).sum ≤ N * ds.length ∧ ss.length = ds.length
  | [], _ => ⟨[], rfl, by simp, rfl⟩
  | d :: ds, h => by
    obtain ⟨s, rfl, hs⟩ := h d (by simp)
    obtain ⟨ss, e, l, c⟩ := strsOf_all (ds := ds) fun d hd => h d (List.mem_cons_of_mem _ hd)
    refine ⟨s :: ss, by simp [strsOf, e], ?_, by simp [c]⟩
    simp [Nat.mul_add]
    omega
theorem repS_len (s : Str) (n : Nat) : (repS s n).length = n * s.length := by
  show ((List.replicate n s.cps.toList).flatten.toArray).size = _
  rw [List.size_toArray, PyProof.Rows.lm_len_rep_flat]
  rfl
theorem strSub_len (x : Str) (a b : Nat) : (Builtin.Str.strSub x a b).length ≤ x.length := by
  have e := StrLaws.strSub_toList x a b
  have : (Builtin.Str.strSub x a b).length = (Builtin.Str.strSub x a b).cps.toList.length := (len_tl _).symm
  rw [this, e, List.length_take, List.length_drop, len_tl]
  omega
theorem rstrip_len (x y : Str) : (Txt.rstripChars x y).length ≤ x.length := by
  unfold Txt.rstripChars Txt.stripBy
  split
  · exact Nat.le_refl _
  · exact strSub_len _ _ _
end K01
namespace K01
open PySem L2 Mir
open Classical
def someD : List D := [(.str "options"), (.str "part"), (.str "let"), (.str "vote"), (.str "over"), (.str "else"), (.str "end"), (.str "if"), (.str "is"), (.str "repeat"), (.str "take"), (.str "a"), (.str "x1"), (.str "1x"), (.str "A"), (.str "a_b"), (.str "()"), (.str "="), (.str "#"), (.str "#a"), (.str "a#"), (.str "eightlet"), (.str "ninelette"), (.str "votes"), (.str "en"), (.str "le"), (.str "ends"), (.str "i"), (.str "aB"), (.str "a-"), (.str "~"), (.str "!"), (.str "0"), (.str "takes")]
def shortD (N : Nat) : D → Bool
  | .str s => decide (s.length ≤ N)
  | _ => false
theorem short_iff {N : Nat} {d : D} : shortD N d = true ↔ ∃ s, d = .str s ∧ s.length ≤ N := by
  cases d <;> simp [shortD]
theorem someD_short : someD.all (shortD 10) = true := by decide +kernel
theorem signs18 : ("abcxyz019A_#-=()~!" : Str).length = 18 := by decide +kernel
abbrev HW (Wd : FM) : Prop := ∀ (h : MH) (n : Nat), Pool h n → ∃ d h', Wd [.ref n] h = .ok (d, h') ∧ shortD 10 d = true ∧ Pool h' n ∧ ∃ o, h' = h.set n o
theorem sets {h : MH} {n : Nat} {o p : O} : (h.set n o).set n p = h.set n p := List.set_set ..
theorem intsD_len (a : Int) (n : Nat) : (intsD a n).length = n := by simp [intsD]
theorem run_word {T : FM} (hT : HT T) : HW (fnM 4 (b__law_word T)) := by
  intro h n hp
  obtain ⟨r, h1, e1, r0, r1, p1, o1, rfl⟩ := hT h n 3 hp (by omega) (by omega)
  have es : (mLst (mCons (mC (.str "options")) (mCons (mC (.str "part")) (mCons (mC (.str "let")) (mCons (mC (.str "vote")) (mCons (mC (.str "over")) (mCons (mC (.str "else")) (mCons (mC (.str "end")) (mCons (mC (.str "if")) (mCons (mC (.str "is")) (mCons (mC (.str "repeat")) (mCons (mC (.str "take")) (mCons (mC (.str "a")) (mCons (mC (.str "x1")) (mCons (mC (.str "1x")) (mCons (mC (.str "A")) (mCons (mC (.str "a_b")) (mCons (mC (.str "()")) (mCons (mC (.str "=")) (mCons (mC (.str "#")) (mCons (mC (.str "#a")) (mCons (mC (.str "a#")) (mCons (mC (.str "eightlet")) (mCons (mC (.str "ninelette")) (mCons (mC (.str "votes")) (mCons (mC (.str "en")) (mCons (mC (.str "le")) (mCons (mC (.str "ends")) (mCons (mC (.str "i")) (mCons (mC (.str "aB")) (mCons (mC (.str "a-")) (mCons (mC (.str "~")) (mCons (mC (.str "!")) (mCons (mC (.str "0")) (mCons (mC (.str "takes")) mNil))))))))))))))))))))))))))))))))))) [some (.ref n), none, none, none] h = .ok (someD, h) := rfl
  have b : b__law_word T = sSeq (sSet 1 (mFz (mLst (mCons (mC (.str "options")) (mCons (mC (.str "part")) (mCons (mC (.str "let")) (mCons (mC (.str "vote")) (mCons (mC (.str "over")) (mCons (mC (.str "else")) (mCons (mC (.str "end")) (mCons (mC (.str "if")) (mCons (mC (.str "is")) (mCons (mC (.str "repeat")) (mCons (mC (.str "take")) (mCons (mC (.str "a")) (mCons (mC (.str "x1")) (mCons (mC (.str "1x")) (mCons (mC (.str "A")) (mCons (mC (.str "a_b")) (mCons (mC (.str "()")) (mCons (mC (.str "=")) (mCons (mC (.str "#")) (mCons (mC (.str "#a")) (mCons (mC (.str "a#")) (mCons (mC (.str "eightlet")) (mCons (mC (.str "ninelette")) (mCons (mC (.str "votes")) (mCons (mC (.str "en")) (mCons (mC (.str "le")) (mCons (mC (.str "ends")) (mCons (mC (.str "i")) (mCons (mC (.str "aB")) (mCons (mC (.str "a-")) (mCons (mC (.str "~")) (mCons (mC (.str "!")) (mCons (mC (.str "0")) (mCons (mC (.str "takes")) mNil))))))))))))))))))))))))))))))))))))) 
    (sSeq (sIf (mTB (mBin fGt (mCall T (mCons (mVar 0) (mCons (mC (.int 3)) mNil))) (mC (.int 0)))) (sRet (mBin fIx (mVar 1) (mCall T (mCons (mVar 0) (mCons (mB gLen (mCons (mVar 1) mNil)) mNil))))) sNil)
    (sSeq (sSet 2 (mC (.str "abcxyz019A_#-=()~!")))
    (sRet (mMeth okS gJoin (mC (.str "")) (mCons (mFrz (mCompN (iRng (mCons (mBin fAdd (mC (.int 1)) (mCall T (mCons (mVar 0) (mCons (mC (.int 9)) mNil)))) mNil)) (gNm 3) tTrue (mBin fIx (mVar 2) (mCall T (mCons (mVar 0) (mCons (mB gLen (mCons (mVar 2) mNil)) mNil)))) [3])) mNil))))) := rfl
  have s1 : sSet 1 (mFz (mLst (mCons (mC (.str "options")) (mCons (mC (.str "part")) (mCons (mC (.str "let")) (mCons (mC (.str "vote")) (mCons (mC (.str "over")) (mCons (mC (.str "else")) (mCons (mC (.str "end")) (mCons (mC (.str "if")) (mCons (mC (.str "is")) (mCons (mC (.str "repeat")) (mCons (mC (.str "take")) (mCons (mC (.str "a")) (mCons (mC (.str "x1")) (mCons (mC (.str "1x")) (mCons (mC (.str "A")) (mCons (mC (.str "a_b")) (mCons (mC (.str "()")) (mCons (mC (.str "=")) (mCons (mC (.str "#")) (mCons (mC (.str "#a")) (mCons (mC (.str "a#")) (mCons (mC (.str "eightlet")) (mCons (mC (.str "ninelette")) (mCons (mC (.str "votes")) (mCons (mC (.str "en")) (mCons (mC (.str "le")) (mCons (mC (.str "ends")) (mCons (mC (.str "i")) (mCons (mC (.str "aB")) (mCons (mC (.str "a-")) (mCons (mC (.str "~")) (mCons (mC (.str "!")) (mCons (mC (.str "0")) (mCons (mC (.str "takes")) mNil)))))))))))))))))))))))))))))))))))) ([D.ref n].map some ++ List.replicate (4 - [D.ref n].length) none) h = .ok (.nx, [some (.ref n), some (.fl someD), none, none], h) := rfl
  have l34 : someD.length = 34 := rfl
  generalize hX : someD = X at *
  by_cases hr : 0 < r
  · obtain ⟨k, h2, e2, k0, k1, p2, o2, rfl⟩ := hT (h.set n o1) n 34 p1 (by omega) (by omega)
    obtain ⟨d, hd, ed⟩ := atI_ok (xs := X) k0 (by omega)
    refine ⟨d, _, fnM_rt (Γ := [some (.ref n), some (.fl X), none, none]) ?_, List.all_eq_true.mp someD_short d (by rw [hX]; exact hd), p2, o2, sets⟩
    rw [b, sSeq_nx s1]
    refine sSeq_rt ?_
    simp [fnM, sSeq, sSet, sIf, sRet, sRetN, sExpr, sNil, sAsg, sPut, sPutI, sAug, sPar, sBreak, sCont, mVar, mC, mBin, mUn, mIf, mNil, mCons, mTup, mFz, mNew, mLst, mTr, mTB, mB, mBF, mMeth, mIsi, mCall, mSl, mChain, mAnd, mOr, mNot, tAndM, tOrM, tNotM, okL, okS, asBl, truthD, gNm, gTp, gsCons, gsNil, e1, fGt, hr, gLen, lenD, seqOf, l34, e2, fIx, ed]
  · obtain ⟨k, h2, e2, k0, k1, p2, o2, rfl⟩ := hT (h.set n o1) n 9 p1 (by omega) (by omega)
    have hi : iRng (mCons (mBin fAdd (mC (.int 1)) (mCall T (mCons (mVar 0) (mCons (mC (.int 9)) mNil)))) mNil) [some (.ref n), some (.fl X), some (.str "abcxyz019A_#-=()~!"), none] (h.set n o1) = .ok ((intsD 0 (1 + k).toNat, none), (h.set n o1).set n o2) := by
      have c1 : -(2 ^ 62) ≤ 1 + k ∧ 1 + k < 2 ^ 62 := by omega
      simp [fnM, sSeq, sSet, sIf, sRet, sRetN, sExpr, sNil, sAsg, sPut, sPutI, sAug, sPar, sBreak, sCont, mVar, mC, mBin, mUn, mIf, mNil, mCons, mTup, mFz, mNew, mLst, mTr, mTB, mB, mBF, mMeth, mIsi, mCall, mSl, mChain, mAnd, mOr, mNot, tAndM, tOrM, tNotM, okL, okS, asBl, truthD, gNm, gTp, gsCons, gsNil, iRng, e2, fAdd, rngOf]
      rw [if_pos (by simpa using c1)]
      rfl
    obtain ⟨ws, h3, e3, p3, ⟨o3, rfl⟩, v3, l3⟩ := frz_pool (g := gNm 3) (t := tTrue) (e := mBin fIx (mVar 2) (mCall T (mCons (mVar 0) (mCons (mB gLen (mCons (mVar 2) mNil)) mNil)))) (vs := [3]) (fun d => shortD 1 d = true) hi p2 ⟨o2, rfl⟩ (by rw [intsD_len]; omega)
      (fun v n hv => by obtain ⟨s, rfl, _⟩ := short_iff.mp hv; simp [closedD])
      (fun d _ h' ph' => by
        obtain ⟨j, h4, e4, j0, j1, p4, o4, rfl⟩ := hT h' n 18 ph' (by omega) (by omega)
        obtain ⟨i, rfl⟩ := Int.eq_ofNat_of_zero_le j0
        have hil : i < ("abcxyz019A_#-=()~!" : Str).cps.toList.length := by rw [len_tl, signs18]; omega
        have ea : atI ("abcxyz019A_#-=()~!" : Str).cps.toList (i : Int) = some (("abcxyz019A_#-=()~!" : Str).cps.toList[i]) := atI_nat (List.getElem?_eq_getElem hil)
        have sz : ("abcxyz019A_#-=()~!" : Str).length ≤ 1000000 := by rw [signs18]; omega
        have ln : lenD h' (.str "abcxyz019A_#-=()~!") = some 18 := by
          simp only [lenD]; rw [if_pos sz, signs18]
        refine ⟨_, .str ⟨#[("abcxyz019A_#-=()~!" : Str).cps.toList[i]]⟩, _, rfl, rfl, ?_, p4, ⟨o4, rfl⟩, rfl⟩
        generalize ("abcxyz019A_#-=()~!" : Str) = sg at *
        simp [fnM, sSeq, sSet, sIf, sRet, sRetN, sExpr, sNil, sAsg, sPut, sPutI, sAug, sPar, sBreak, sCont, mVar, mC, mBin, mUn, mIf, mNil, mCons, mTup, mFz, mNew, mLst, mTr, mTB, mB, mBF, mMeth, mIsi, mCall, mSl, mChain, mAnd, mOr, mNot, tAndM, tOrM, tNotM, okL, okS, asBl, truthD, gNm, gTp, gsCons, gsNil, wipeΓ, gLen, ln, e4, fIx, sz, ea])
    obtain ⟨ss, ess, ls, cs⟩ := strsOf_all (N := 1) (ds := ws) fun d hd => short_iff.mp (v3 d hd)
    have lw : ws.length ≤ 9 := by rw [l3, intsD_len]; omega
    have jl := join_le "" ss
    have e0 : ("" : Str).length = 0 := by decide +kernel
    have jb : (Txt.join "" ss).length ≤ 10 := by rw [e0] at jl; omega
    have jc : (ss.map (·.length)).sum + ss.length * ("" : Str).length ≤ 1000000 := by rw [e0]; omega
    refine ⟨.str (Txt.join "" ss), _, fnM_rt (Γ := [some (.ref n), some (.fl X), some (.str "abcxyz019A_#-=()~!"), none]) ?_, by simpa [shortD] using jb, p3, o3, sets⟩
    rw [b, sSeq_nx s1]
    have s2 : sIf (mTB (mBin fGt (mCall T (mCons (mVar 0) (mCons (mC (.int 3)) mNil))) (mC (.int 0)))) (sRet (mBin fIx (mVar 1) (mCall T (mCons (mVar 0) (mCons (mB gLen (mCons (mVar 1) mNil)) mNil))))) sNil [some (.ref n), some (.fl X), none, none] h = .ok (.nx, [some (.ref n), some (.fl X), none, none], h.set n o1) := by
      simp [fnM, sSeq, sSet, sIf, sRet, sRetN, sExpr, sNil, sAsg, sPut, sPutI, sAug, sPar, sBreak, sCont, mVar, mC, mBin, mUn, mIf, mNil, mCons, mTup, mFz, mNew, mLst, mTr, mTB, mB, mBF, mMeth, mIsi, mCall, mSl, mChain, mAnd, mOr, mNot, tAndM, tOrM, tNotM, okL, okS, asBl, truthD, gNm, gTp, gsCons, gsNil, e1, fGt, hr]
    have s3 : sSet 2 (mC (.str "abcxyz019A_#-=()~!")) [some (.ref n), some (.fl X), none, none] (h.set n o1) = .ok (.nx, [some (.ref n), some (.fl X), some (.str "abcxyz019A_#-=()~!"), none], h.set n o1) := rfl
    rw [sSeq_nx s2, sSeq_nx s3]
    refine sRet_ok ((mMeth_one (x := .str "") (h1 := h.set n o1) rfl rfl e3).trans ?_)
    simp only [gJoin, seqOf, Option.bind_some, ess]
    rw [if_pos jc]
    rfl
end K01
namespace K01
open PySem L2 Mir
open Classical
theorem sp_len : (" " : Str).length = 1 := by decide +kernel
theorem rep_sp {k : Int} {h : MH} (k0 : 0 ≤ k) (k1 : k ≤ 1000) : fRep (.str " ") (.int k) h = some (.str (repS " " k.toNat), h) ∧ (repS " " k.toNat).length = k.toNat := by
  constructor
  · simp only [fRep]
    rw [if_pos (by rw [sp_len]; omega)]
  · rw [repS_len, sp_len]; omega
theorem app_len (a b : Str) : (a ++ b).length = a.length + b.length := by
  show (a.cps ++ b.cps).size = _
  simp [Str.length]
theorem add_str {a b : Str} {h : MH} (l : a.length + b.length ≤ 1000000) : fAdd (.str a) (.str b) h = some (.str (a ++ b), h) := by
  simp only [fAdd]; rw [if_pos l]
abbrev lineBody (T Wd : FM) : SM := (sSet 1 (mBin fAdd (mBin fAdd (mVar 1) (mCall Wd (mCons (mVar 0) mNil))) (mBin fRep (mC (.str " ")) (mBin fAdd (mC (.int 1)) (mBin fDiv (mCall T (mCons (mVar 0) (mCons (mC (.int 3)) mNil))) (mC (.int 2)))))))
theorem line_loop {T Wd : FM} (hT : HT T) (hW : HW Wd) {n : Nat} : ∀ (ds : List D) (s : Str) (h : MH) (x2 : Option D), Pool h n → s.length + 12 * ds.length ≤ 1000 →
    ∃ s' y2 h', loop none (stepOf (gNm 2) (lineBody T Wd)) ds [some (.ref n), some (.str s), x2] h = .ok (.nx, [some (.ref n), some (.str s'), y2], h') ∧ s'.length ≤ s.length + 12 * ds.length ∧ Pool h' n ∧ ∃ o, h' = h.set n o
  | [], s, h, x2, hp, _ => by
    obtain ⟨a, b, gs, e, l⟩ := hp
    exact ⟨s, x2, h, by simp, by simp, ⟨a, b, gs, e, l⟩, _, (set_same e).symm⟩
  | d :: ds, s, h, x2, hp, hs => by
    obtain ⟨w, h1, e1, hw, p1, o1, rfl⟩ := hW h n hp
    obtain ⟨w, rfl, lw⟩ := short_iff.mp hw
    obtain ⟨r, h2, e2, r0, r1, p2, o2, rfl⟩ := hT _ n 3 p1 (by omega) (by omega)
    rw [sets] at e2 p2
    simp only [List.length_cons, Nat.mul_add] at hs
    have q : 0 ≤ r / 2 ∧ r / 2 ≤ 1 := by omega
    obtain ⟨f1, f2⟩ := rep_sp (k := 1 + r / 2) (h := h.set n o2) (by omega) (by omega)
    have g1 := add_str (a := s) (b := w) (h := h.set n o1) (by omega)
    have g2 := add_str (a := s ++ w) (b := repS " " (1 + r / 2).toNat) (h := h.set n o2) (by rw [app_len, f2]; omega)
    have st : stepOf (gNm 2) (lineBody T Wd) d [some (.ref n), some (.str s), x2] h = .ok (.nx, [some (.ref n), some (.str (s ++ w ++ repS " " (1 + r / 2).toNat)), some d], h.set n o2) := by
      have dv : fDiv (.int r) (.int 2) (h.set n o2) = some (.int (r / 2), h.set n o2) := by simp [fDiv, CDiv]
      have ad : fAdd (.int 1) (.int (r / 2)) (h.set n o2) = some (.int (1 + r / 2), h.set n o2) := rfl
      simp [fnM, sSeq, sSet, sIf, sRet, sRetN, sExpr, sNil, sAsg, sPut, sPutI, sAug, sPar, sBreak, sCont, mVar, mC, mBin, mUn, mIf, mNil, mCons, mTup, mFz, mNew, mLst, mTr, mTB, mB, mBF, mMeth, mIsi, mCall, mSl, mChain, mAnd, mOr, mNot, tAndM, tOrM, tNotM, okL, okS, asBl, truthD, gNm, gTp, gsCons, gsNil, stepOf, e1, e2, g1, g2, f1, dv, ad]
    obtain ⟨s', y2, h', e, l, p, o, rfl⟩ := line_loop hT hW ds (s ++ w ++ repS " " (1 + r / 2).toNat) (h.set n o2) (some d) p2 (by rw [app_len, app_len, f2]; omega)
    refine ⟨s', y2, _, ?_, ?_, p, o, by rw [sets]⟩
    · rw [loop_nx0 st, e]
    · rw [app_len, app_len, f2] at l
      simp only [List.length_cons, Nat.mul_add]; omega
abbrev HL (Ln : FM) : Prop := ∀ (h : MH) (n : Nat), Pool h n → ∃ d h', Ln [.ref n] h = .ok (d, h') ∧ shortD 100 d = true ∧ Pool h' n ∧ ∃ o, h' = h.set n o
theorem run_line {T Wd : FM} (hT : HT T) (hW : HW Wd) : HL (fnM 3 (b__law_line T Wd)) := by
  intro h n hp
  obtain ⟨r, h1, e1, r0, r1, p1, o1, rfl⟩ := hT h n 4 hp (by omega) (by omega)
  obtain ⟨k, h2, e2, k0, k1, p2, o2, rfl⟩ := hT _ n 6 p1 (by omega) (by omega)
  rw [sets] at e2 p2
  have q : 0 ≤ r / 2 ∧ r / 2 ≤ 1 := by omega
  obtain ⟨f1, f2⟩ := rep_sp (k := r / 2) (h := h.set n o1) (by omega) (by omega)
  obtain ⟨s', y2, h3, e3, l3, p3, o3, rfl⟩ := line_loop hT hW (intsD 0 k.toNat) (repS " " (r / 2).toNat) _ none p2 (by rw [f2, intsD_len]; omega)
  rw [sets] at e3 p3
  rw [f2, intsD_len] at l3
  obtain ⟨j, h4, e4, j0, j1, p4, o4, rfl⟩ := hT _ n 2 p3 (by omega) (by omega)
  rw [sets] at e4 p4
  have b : b__law_line T Wd = sSeq (sSet 1 (mBin fRep (mC (.str " ")) (mBin fDiv (mCall T (mCons (mVar 0) (mCons (mC (.int 4)) mNil))) (mC (.int 2)))))
    (sSeq (sFor (iRng (mCons (mCall T (mCons (mVar 0) (mCons (mC (.int 6)) mNil))) mNil)) (gNm 2) (lineBody T Wd))
    (sRet (mIf (mTB (mBin fEq (mCall T (mCons (mVar 0) (mCons (mC (.int 2)) mNil))) (mC (.int 0)))) (mVar 1) (mMeth okS gRstrip (mVar 1) (mCons (mC (.str " ")) mNil))))) := rfl
  have dv : fDiv (.int r) (.int 2) (h.set n o1) = some (.int (r / 2), h.set n o1) := by simp [fDiv, CDiv]
  have s1 : sSet 1 (mBin fRep (mC (.str " ")) (mBin fDiv (mCall T (mCons (mVar 0) (mCons (mC (.int 4)) mNil))) (mC (.int 2)))) ([D.ref n].map some ++ List.replicate (3 - [D.ref n].length) none) h = .ok (.nx, [some (.ref n), some (.str (repS " " (r / 2).toNat)), none], h.set n o1) := by
    simp [fnM, sSeq, sSet, sIf, sRet, sRetN, sExpr, sNil, sAsg, sPut, sPutI, sAug, sPar, sBreak, sCont, mVar, mC, mBin, mUn, mIf, mNil, mCons, mTup, mFz, mNew, mLst, mTr, mTB, mB, mBF, mMeth, mIsi, mCall, mSl, mChain, mAnd, mOr, mNot, tAndM, tOrM, tNotM, okL, okS, asBl, truthD, gNm, gTp, gsCons, gsNil, e1, dv, f1]
  have hi : iRng (mCons (mCall T (mCons (mVar 0) (mCons (mC (.int 6)) mNil))) mNil) [some (.ref n), some (.str (repS " " (r / 2).toNat)), none] (h.set n o1) = .ok ((intsD 0 k.toNat, none), h.set n o2) := by
    have c1 : -(2 ^ 62) ≤ k ∧ k < 2 ^ 62 := by omega
    simp [fnM, sSeq, sSet, sIf, sRet, sRetN, sExpr, sNil, sAsg, sPut, sPutI, sAug, sPar, sBreak, sCont, mVar, mC, mBin, mUn, mIf, mNil, mCons, mTup, mFz, mNew, mLst, mTr, mTB, mB, mBF, mMeth, mIsi, mCall, mSl, mChain, mAnd, mOr, mNot, tAndM, tOrM, tNotM, okL, okS, asBl, truthD, gNm, gTp, gsCons, gsNil, iRng, e2, rngOf]
    rw [if_pos (by simpa using c1)]
    rfl
  have sz : s'.length ≤ 1000000 := by omega
  by_cases hj : j = 0
  · subst hj
    refine ⟨.str s', _, fnM_rt (Γ := [some (.ref n), some (.str s'), y2]) ?_, by simp [shortD]; omega, p4, o4, rfl⟩
    rw [b, sSeq_nx s1, sSeq_nx ((sFor_eq hi).trans e3)]
    simp [fnM, sSeq, sSet, sIf, sRet, sRetN, sExpr, sNil, sAsg, sPut, sPutI, sAug, sPar, sBreak, sCont, mVar, mC, mBin, mUn, mIf, mNil, mCons, mTup, mFz, mNew, mLst, mTr, mTB, mB, mBF, mMeth, mIsi, mCall, mSl, mChain, mAnd, mOr, mNot, tAndM, tOrM, tNotM, okL, okS, asBl, truthD, gNm, gTp, gsCons, gsNil, e4, fEq, scalD, deq]
  · refine ⟨.str (Txt.rstripChars s' " "), _, fnM_rt (Γ := [some (.ref n), some (.str s'), y2]) ?_, by have := rstrip_len s' " "; simp [shortD]; omega, p4, o4, rfl⟩
    rw [b, sSeq_nx s1, sSeq_nx ((sFor_eq hi).trans e3)]
    simp [fnM, sSeq, sSet, sIf, sRet, sRetN, sExpr, sNil, sAsg, sPut, sPutI, sAug, sPar, sBreak, sCont, mVar, mC, mBin, mUn, mIf, mNil, mCons, mTup, mFz, mNew, mLst, mTr, mTB, mB, mBF, mMeth, mIsi, mCall, mSl, mChain, mAnd, mOr, mNot, tAndM, tOrM, tNotM, okL, okS, asBl, truthD, gNm, gTp, gsCons, gsNil, e4, fEq, scalD, deq, hj, gRstrip, sz]
end K01
namespace K01
open PySem L2 Mir
open Classical
theorem loop_inv {step : D → Mir.Env → MH → R (Ctl × Mir.Env × MH)} (I : Mir.Env → Prop) (h : MH) : ∀ (ds : List D), (∀ d ∈ ds, ∀ Γ, I Γ → ∃ Γ', step d Γ h = .ok (.nx, Γ', h) ∧ I Γ') → ∀ Γ, I Γ → ∃ Γ', loop none step ds Γ h = .ok (.nx, Γ', h) ∧ I Γ'
  | [], _, Γ, i => ⟨Γ, by simp, i⟩
  | d :: ds, st, Γ, i => by
    obtain ⟨Γ1, e1, i1⟩ := st d (by simp) Γ i
    obtain ⟨Γ2, e2, i2⟩ := loop_inv I h ds (fun d hd => st d (List.mem_cons_of_mem _ hd)) Γ1 i1
    exact ⟨Γ2, by rw [loop_nx0 e1, e2], i2⟩
theorem plain_wD : ∀ ws : List (List Nat), plainDs (wD ws) = true
  | [] => rfl
  | w :: ws => by
    have := plain_wD ws
    simp [wD, plainDs, plainD] at *
    exact this
theorem nodes_wD : ∀ ws : List (List Nat), nodess (wD ws) = ws.length
  | [] => rfl
  | w :: ws => by
    have := nodes_wD ws
    simp [wD, nodess, nodes] at *
    omega
def wsum : List (Nat × List (List Nat)) → Nat
  | [] => 0
  | p :: r => 3 + p.2.length + wsum r
theorem plain_srcD : ∀ xs : List (Nat × List (List Nat)), plainDs (srcD xs) = true
  | [] => rfl
  | x :: xs => by
    have := plain_srcD xs
    have := plain_wD x.2
    simp_all [srcD, plainDs, plainD]
theorem nodes_srcD : ∀ xs : List (Nat × List (List Nat)), nodess (srcD xs) = wsum xs
  | [] => rfl
  | x :: xs => by
    have := nodes_srcD xs
    have := nodes_wD x.2
    simp_all [srcD, nodess, nodes, wsum]
    omega
theorem wsum_src : ∀ (ls : List (List Nat)) (k : Nat), wsum (srcL ls k) ≤ (ls.map fun l => l.length + 4).sum
  | [], k => by simp [srcL, wsum]
  | l :: ls, k => by
    have := wsum_src ls (k + 1)
    have := scanW_len l []
    unfold srcL
    split
    · simp [wsum]; omega
    · simp; omega
theorem sum_split (c : Nat) : ∀ (l cur : List Nat), ((splitA c l cur).map fun w => w.length + 4).sum ≤ 4 * l.length + cur.length + 4
  | [], cur => by simp [splitA]
  | x :: l, cur => by
    rw [splitA_cons]
    split
    · have := sum_split c l []
      simp at *; omega
    · have := sum_split c l (cur ++ [x])
      simp at *; omega
theorem sum_drop (f : List Nat → Nat) (ls : List (List Nat)) : (ls.dropLast.map f).sum ≤ (ls.map f).sum := by
  rcases List.eq_nil_or_concat ls with rfl | ⟨a, b, rfl⟩
  · simp
  · rw [List.concat_eq_append, List.dropLast_concat]; simp
theorem sum_lines (t : List Nat) : ((linesA t).map fun w => w.length + 4).sum ≤ 4 * t.length + 4 := by
  have := sum_split 10 t []
  have := sum_drop (fun w => w.length + 4) (splitA 10 t [])
  unfold linesA
  split <;> simp at * <;> omega
theorem same_bl {b : Bool} {h : MH} : sp_same [.bl b, .bl b] h = .ok (.bl true, h) := by
  simp [sp_same, plainD, nodes]
theorem same_words {ws : List (List Nat)} {h : MH} (l : ws.length ≤ 200000) : sp_same [.tup (wD ws), .tup (wD ws)] h = .ok (.bl true, h) := by
  simp only [sp_same]
  rw [if_pos ⟨trivial, plain_wD ws, by rw [nodes, nodes_wD]; omega⟩]
theorem same_src {t : List Nat} {h : MH} (l : t.length ≤ 90000) : sp_same [.tup (srcD (srcL (linesA t) 1)), .tup (srcD (srcL (linesA t) 1))] h = .ok (.bl true, h) := by
  have a := wsum_src (linesA t) 1
  have b := sum_lines t
  simp only [sp_same]
  rw [if_pos ⟨trivial, plain_srcD _, by rw [nodes, nodes_srcD]; omega⟩]
abbrev HWo (Wo : FM) : Prop := ∀ (s : Str) (h : MH), s.length ≤ 100000 → Wo [.str s] h = .ok (.tup (wD (scanW s.cps.toList [])), h)
abbrev HN (N : FM) : Prop := ∀ (d : D) (h : MH), thingOk d = true → N [d] h = .ok (.bl (nameB d), h)
abbrev HSo (So : FM) : Prop := ∀ (s : Str) (h : MH), s.length ≤ 100000 → So [.str s] h = .ok (.tup (srcD (srcL (linesA s.cps.toList) 1)), h)
theorem sp_words_ok {s : Str} {h : MH} (hs : s.length ≤ 100000) : sp_words [.str s] h = .ok (.tup (wD (scanW s.cps.toList [])), h) := by simp [sp_words, hs]
theorem sp_source_ok {s : Str} {h : MH} (hs : s.length ≤ 90000) : sp_source [.str s] h = .ok (.tup (srcD (srcL (linesA s.cps.toList) 1)), h) := by simp [sp_source, hs]
theorem cut_take {α : Type} (xs : List α) (k : Nat) : cutL xs none (some (k : Int)) = xs.take k := by
  unfold cutL
  rw [HT.sIx_none, HT.sIx_nat, List.drop_zero, Nat.sub_zero]
  rcases Nat.le_total k xs.length with h | h
  · rw [Nat.min_eq_left h]
  · rw [Nat.min_eq_right h, List.take_length, List.take_of_length_le h]
section
variable {T Ln Wo N N' So : FM} {n : Nat}
noncomputable abbrev nameBody (N N' : FM) (k : Nat) : SM := (sIf (tNotM (mTB (mCall sp_same (mCons (mCall N (mCons (mVar k) mNil)) (mCons (mCall N' (mCons (mVar k) mNil)) mNil))))) (sRet (mC (.bl false))) sNil)
noncomputable abbrev lnBody (Wo N N' : FM) : SM := (sSeq (sIf (tNotM (mTB (mCall sp_same (mCons (mCall Wo (mCons (mVar 3) mNil)) (mCons (mCall sp_words (mCons (mVar 3) mNil)) mNil))))) (sRet (mC (.bl false))) sNil)
    (sFor (iAny (mSl fSl (mCall sp_words (mCons (mVar 3) mNil)) oNone (oSome (mC (.int 3))))) (gNm 4) (nameBody N N' 4)))
noncomputable abbrev txBody (So : FM) : SM := (sIf (tNotM (mTB (mCall sp_same (mCons (mCall So (mCons (mVar 5) mNil)) (mCons (mCall sp_source (mCons (mVar 5) mNil)) mNil))))) (sRet (mC (.bl false))) sNil)
theorem asked_line (hWo : HWo Wo) (hN : HN N) (hN' : HN N') {x1 : Option D} {s : Str} {h : MH} {a b c d : Option D} (hs : s.length ≤ 100) :
    ∃ b' c', stepOf (gNm 3) (lnBody Wo N N') (.str s) [some (.ref n), x1, a, b, c, d] h = .ok (.nx, [some (.ref n), x1, a, b', c', d], h) := by
  have w1 := hWo s h (by omega)
  have w2 := sp_words_ok (s := s) (h := h) (by omega)
  have sl := scanW_len s.cps.toList []
  have hsz := scanW_size s.cps.toList []
  rw [len_tl] at sl hsz
  generalize scanW s.cps.toList [] = ws at *
  have e1 := same_words (ws := ws) (h := h) (by omega)
  have s1 : sIf (tNotM (mTB (mCall sp_same (mCons (mCall Wo (mCons (mVar 3) mNil)) (mCons (mCall sp_words (mCons (mVar 3) mNil)) mNil))))) (sRet (mC (.bl false))) sNil [some (.ref n), x1, a, some (.str s), c, d] h = .ok (.nx, [some (.ref n), x1, a, some (.str s), c, d], h) := by
    simp [fnM, sSeq, sSet, sIf, sRet, sRetN, sExpr, sNil, sAsg, sPut, sPutI, sAug, sPar, sBreak, sCont, mVar, mC, mBin, mUn, mIf, mNil, mCons, mTup, mFz, mNew, mLst, mTr, mTB, mB, mBF, mMeth, mIsi, mCall, mSl, mChain, mAnd, mOr, mNot, tAndM, tOrM, tNotM, okL, okS, asBl, truthD, gNm, gTp, gsCons, gsNil, w1, w2, e1]
  have hi : iAny (mSl fSl (mCall sp_words (mCons (mVar 3) mNil)) oNone (oSome (mC (.int 3)))) [some (.ref n), x1, a, some (.str s), c, d] h = .ok (((wD ws).take 3, none), h) := by
    have ct := cut_take (wD ws) 3
    have ct : cutL (wD ws) none (some 3) = (wD ws).take 3 := ct
    simp [fnM, sSeq, sSet, sIf, sRet, sRetN, sExpr, sNil, sAsg, sPut, sPutI, sAug, sPar, sBreak, sCont, mVar, mC, mBin, mUn, mIf, mNil, mCons, mTup, mFz, mNew, mLst, mTr, mTB, mB, mBF, mMeth, mIsi, mCall, mSl, mChain, mAnd, mOr, mNot, tAndM, tOrM, tNotM, okL, okS, asBl, truthD, gNm, gTp, gsCons, gsNil, iAny, w2, oNone, oSome, fSl, itemsOf, liveOf, ct]
  obtain ⟨Γ', e2, y, rfl⟩ := loop_inv (step := stepOf (gNm 4) (nameBody N N' 4)) (fun Γ => ∃ y, Γ = [some (.ref n), x1, a, some (.str s), y, d]) h ((wD ws).take 3) (fun e he Γ ⟨y, hy⟩ => by
    subst hy
    have he : e ∈ wD ws := List.mem_of_mem_take he
    obtain ⟨w, hw, rfl⟩ := List.mem_map.mp he
    have ok : thingOk (.str (toS w)) = true := by
      have := hsz w hw
      simp [thingOk, toS_len]; simp at this; omega
    have n1 := hN _ h ok
    have n2 := hN' _ h ok
    have e3 := same_bl (b := nameB (.str (toS w))) (h := h)
    generalize nameB (.str (toS w)) = bb at *
    refine ⟨_, ?_, ⟨some (.str (toS w)), rfl⟩⟩
    simp [fnM, sSeq, sSet, sIf, sRet, sRetN, sExpr, sNil, sAsg, sPut, sPutI, sAug, sPar, sBreak, sCont, mVar, mC, mBin, mUn, mIf, mNil, mCons, mTup, mFz, mNew, mLst, mTr, mTB, mB, mBF, mMeth, mIsi, mCall, mSl, mChain, mAnd, mOr, mNot, tAndM, tOrM, tNotM, okL, okS, asBl, truthD, gNm, gTp, gsCons, gsNil, stepOf, n1, n2, e3]) _ ⟨c, rfl⟩
  refine ⟨some (.str s), y, ?_⟩
  have u : stepOf (gNm 3) (lnBody Wo N N') (.str s) [some (.ref n), x1, a, b, c, d] h = lnBody Wo N N' [some (.ref n), x1, a, some (.str s), c, d] h := rfl
  exact u.trans ((sSeq_nx s1).trans ((sFor_eq hi).trans e2))
theorem asked_text (hSo : HSo So) {x1 : Option D} {s : Str} {h : MH} {a b c d : Option D} (hs : s.length ≤ 90000) :
    stepOf (gNm 5) (txBody So) (.str s) [some (.ref n), x1, a, b, c, d] h = .ok (.nx, [some (.ref n), x1, a, b, c, some (.str s)], h) := by
  have w1 := hSo s h (by omega)
  have w2 := sp_source_ok (s := s) (h := h) hs
  have e1 := same_src (t := s.cps.toList) (h := h) (by rw [len_tl]; exact hs)
  simp [fnM, sSeq, sSet, sIf, sRet, sRetN, sExpr, sNil, sAsg, sPut, sPutI, sAug, sPar, sBreak, sCont, mVar, mC, mBin, mUn, mIf, mNil, mCons, mTup, mFz, mNew, mLst, mTr, mTB, mB, mBF, mMeth, mIsi, mCall, mSl, mChain, mAnd, mOr, mNot, tAndM, tOrM, tNotM, okL, okS, asBl, truthD, gNm, gTp, gsCons, gsNil, stepOf, w1, w2, e1]
theorem join_ok {g : Str} {ws : List D} {h : MH} (hw : ∀ d ∈ ws, shortD 100 d = true) (hl : ws.length ≤ 7) (hg : g.length ≤ 2) : ∃ s, gJoin (.str g) [.fl ws] h = some (.str s, h) ∧ s.length ≤ 800 := by
  obtain ⟨ss, e, l, c⟩ := strsOf_all (N := 100) (ds := ws) fun d hd => short_iff.mp (hw d hd)
  have jl := join_le g ss
  have b : ss.length * g.length ≤ 7 * 2 := Nat.mul_le_mul (by omega) hg
  refine ⟨Txt.join g ss, ?_, by omega⟩
  simp only [gJoin, seqOf, Option.bind_some, e]
  rw [if_pos (by omega)]
theorem nl_len : ("\n" : Str).length = 1 := by decide +kernel
theorem nl2_len : ("\n\n" : Str).length = 2 := by decide +kernel
theorem em_len : ("" : Str).length = 0 := by decide +kernel
theorem run_asked (hT : HT T) (hL : HL Ln) (hWo : HWo Wo) (hN : HN N) (hN' : HN N') (hSo : HSo So) (h : MH) (hp : Pool h n) :
    ∃ h', fnM 6 (b__law_asked T Ln sp_same Wo sp_words N N' So sp_source) [.ref n] h = .ok (.bl true, h') ∧ Pool h' n ∧ ∃ o, h' = h.set n o := by
  obtain ⟨r, h1, e1, r0, r1, p1, o1, rfl⟩ := hT h n 8 hp (by omega) (by omega)
  have hi : iRng (mCons (mCall T (mCons (mVar 0) (mCons (mC (.int 8)) mNil))) mNil) [some (.ref n), none, none, none, none, none] h = .ok ((intsD 0 r.toNat, none), h.set n o1) := by
    have c1 : -(2 ^ 62) ≤ r ∧ r < 2 ^ 62 := by omega
    simp [fnM, sSeq, sSet, sIf, sRet, sRetN, sExpr, sNil, sAsg, sPut, sPutI, sAug, sPar, sBreak, sCont, mVar, mC, mBin, mUn, mIf, mNil, mCons, mTup, mFz, mNew, mLst, mTr, mTB, mB, mBF, mMeth, mIsi, mCall, mSl, mChain, mAnd, mOr, mNot, tAndM, tOrM, tNotM, okL, okS, asBl, truthD, gNm, gTp, gsCons, gsNil, iRng, e1, rngOf]
    rw [if_pos (by simpa using c1)]
    rfl
  obtain ⟨ws, h3, e3, p3, ⟨o3, rfl⟩, v3, l3⟩ := frz_pool (g := gNm 2) (t := tTrue) (e := mCall Ln (mCons (mVar 0) mNil)) (vs := [2]) (fun d => shortD 100 d = true) hi p1 ⟨o1, rfl⟩ (by rw [intsD_len]; omega)
    (fun v n hv => by obtain ⟨s, rfl, _⟩ := short_iff.mp hv; simp [closedD])
    (fun d _ h' ph' => by
      obtain ⟨v, h4, e4, hv, p4, o4, rfl⟩ := hL h' n ph'
      refine ⟨_, v, _, rfl, rfl, ?_, p4, ⟨o4, rfl⟩, hv⟩
      simp [fnM, sSeq, sSet, sIf, sRet, sRetN, sExpr, sNil, sAsg, sPut, sPutI, sAug, sPar, sBreak, sCont, mVar, mC, mBin, mUn, mIf, mNil, mCons, mTup, mFz, mNew, mLst, mTr, mTB, mB, mBF, mMeth, mIsi, mCall, mSl, mChain, mAnd, mOr, mNot, tAndM, tOrM, tNotM, okL, okS, asBl, truthD, gNm, gTp, gsCons, gsNil, wipeΓ, e4])
  rw [intsD_len] at l3
  have lw : ws.length ≤ 7 := by omega
  have b : b__law_asked T Ln sp_same Wo sp_words N N' So sp_source = sSeq (sSet 1 (mFrz (mCompN (iRng (mCons (mCall T (mCons (mVar 0) (mCons (mC (.int 8)) mNil))) mNil)) (gNm 2) tTrue (mCall Ln (mCons (mVar 0) mNil)) [2])))
    (sSeq (sFor (iAny (mVar 1)) (gNm 3) (lnBody Wo N N'))
    (sSeq (sFor (iAny (mTup (mCons (mMeth okS gJoin (mC (.str "\n")) (mCons (mVar 1) mNil)) (mCons (mBin fAdd (mMeth okS gJoin (mC (.str "\n")) (mCons (mVar 1) mNil)) (mC (.str "\n"))) (mCons (mBin fAdd (mC (.str "\n")) (mMeth okS gJoin (mC (.str "\n\n")) (mCons (mVar 1) mNil))) (mCons (mMeth okS gJoin (mC (.str "")) (mCons (mVar 1) mNil)) mNil)))))) (gNm 5) (txBody So))
    (sRet (mC (.bl true))))) := rfl
  have s1 : sSet 1 (mFrz (mCompN (iRng (mCons (mCall T (mCons (mVar 0) (mCons (mC (.int 8)) mNil))) mNil)) (gNm 2) tTrue (mCall Ln (mCons (mVar 0) mNil)) [2])) ([D.ref n].map some ++ List.replicate (6 - [D.ref n].length) none) h = .ok (.nx, [some (.ref n), some (.fl ws), none, none, none, none], h.set n o3) := sSet_ok e3
  have keep : ∃ o, h.set n o3 = h.set n o := ⟨o3, rfl⟩
  generalize h.set n o3 = hh at *
  have i2 : iAny (mVar 1) [some (.ref n), some (.fl ws), none, none, none, none] hh = .ok ((ws, none), hh) := by simp [fnM, sSeq, sSet, sIf, sRet, sRetN, sExpr, sNil, sAsg, sPut, sPutI, sAug, sPar, sBreak, sCont, mVar, mC, mBin, mUn, mIf, mNil, mCons, mTup, mFz, mNew, mLst, mTr, mTB, mB, mBF, mMeth, mIsi, mCall, mSl, mChain, mAnd, mOr, mNot, tAndM, tOrM, tNotM, okL, okS, asBl, truthD, gNm, gTp, gsCons, gsNil, iAny, itemsOf, liveOf]
  obtain ⟨Γ2, e2, y3, y4, rfl⟩ := loop_inv (step := stepOf (gNm 3) (lnBody Wo N N')) (fun Γ => ∃ y3 y4, Γ = [some (.ref n), some (.fl ws), none, y3, y4, none]) hh ws (fun e he Γ ⟨y3, y4, hy⟩ => by
    subst hy
    obtain ⟨s, rfl, ls⟩ := short_iff.mp (v3 e he)
    obtain ⟨b', c', e⟩ := asked_line (n := n) (x1 := some (.fl ws)) (h := hh) (a := none) (b := y3) (c := y4) (d := none) hWo hN hN' ls
    exact ⟨_, e, b', c', rfl⟩) _ ⟨none, none, rfl⟩
  obtain ⟨t1, j1, q1⟩ := join_ok (g := "\n") (h := hh) v3 lw (by rw [nl_len]; omega)
  obtain ⟨t2, j2, q2⟩ := join_ok (g := "\n\n") (h := hh) v3 lw (by rw [nl2_len]; omega)
  obtain ⟨t3, j3, q3⟩ := join_ok (g := "") (h := hh) v3 lw (by rw [em_len]; omega)
  have a1 := add_str (a := t1) (b := "\n") (h := hh) (by rw [nl_len]; omega)
  have a2 := add_str (a := "\n") (b := t2) (h := hh) (by rw [nl_len]; omega)
  have i5 : iAny (mTup (mCons (mMeth okS gJoin (mC (.str "\n")) (mCons (mVar 1) mNil)) (mCons (mBin fAdd (mMeth okS gJoin (mC (.str "\n")) (mCons (mVar 1) mNil)) (mC (.str "\n"))) (mCons (mBin fAdd (mC (.str "\n")) (mMeth okS gJoin (mC (.str "\n\n")) (mCons (mVar 1) mNil))) (mCons (mMeth okS gJoin (mC (.str "")) (mCons (mVar 1) mNil)) mNil))))) [some (.ref n), some (.fl ws), none, y3, y4, none] hh =
      .ok (([.str t1, .str (t1 ++ "\n"), .str ("\n" ++ t2), .str t3], none), hh) := by
    simp [fnM, sSeq, sSet, sIf, sRet, sRetN, sExpr, sNil, sAsg, sPut, sPutI, sAug, sPar, sBreak, sCont, mVar, mC, mBin, mUn, mIf, mNil, mCons, mTup, mFz, mNew, mLst, mTr, mTB, mB, mBF, mMeth, mIsi, mCall, mSl, mChain, mAnd, mOr, mNot, tAndM, tOrM, tNotM, okL, okS, asBl, truthD, gNm, gTp, gsCons, gsNil, iAny, j1, j2, j3, a1, a2, itemsOf, liveOf]
  obtain ⟨Γ5, e5, y5, rfl⟩ := loop_inv (step := stepOf (gNm 5) (txBody So)) (fun Γ => ∃ y5, Γ = [some (.ref n), some (.fl ws), none, y3, y4, y5]) hh [.str t1, .str (t1 ++ "\n"), .str ("\n" ++ t2), .str t3] (fun e he Γ ⟨y5, hy⟩ => by
    subst hy
    have : ∃ s, e = .str s ∧ s.length ≤ 90000 := by
      simp only [List.mem_cons, List.not_mem_nil, or_false] at he
      rcases he with rfl | rfl | rfl | rfl
      · exact ⟨_, rfl, by omega⟩
      · exact ⟨_, rfl, by rw [app_len, nl_len]; omega⟩
      · exact ⟨_, rfl, by rw [app_len, nl_len]; omega⟩
      · exact ⟨_, rfl, by omega⟩
    obtain ⟨s, rfl, ls⟩ := this
    exact ⟨_, asked_text hSo ls, _, rfl⟩) _ ⟨none, rfl⟩
  refine ⟨hh, fnM_rt (Γ := [some (.ref n), some (.fl ws), none, y3, y4, y5]) ?_, p3, ?_⟩
  · rw [b, sSeq_nx s1, sSeq_nx ((sFor_eq i2).trans e2), sSeq_nx ((sFor_eq i5).trans e5)]
    simp [fnM, sSeq, sSet, sIf, sRet, sRetN, sExpr, sNil, sAsg, sPut, sPutI, sAug, sPar, sBreak, sCont, mVar, mC, mBin, mUn, mIf, mNil, mCons, mTup, mFz, mNew, mLst, mTr, mTB, mB, mBF, mMeth, mIsi, mCall, mSl, mChain, mAnd, mOr, mNot, tAndM, tOrM, tNotM, okL, okS, asBl, truthD, gNm, gTp, gsCons, gsNil]
  · exact keep
end
end K01
namespace K01
open PySem L2 Mir
open Classical
theorem shl_pos {h : MH} : ∃ B : Int, 0 < B ∧ ∀ h, fShl (.int 1) (.int 2000) h = some (.int B, h) := by
  refine ⟨1 * 2 ^ (2000 : Int).toNat, ?_, fun h => ?_⟩
  · rw [Int.one_mul]; exact Int.pow_pos (by omega)
  · simp only [fShl]
    rw [if_pos]
    exact ⟨by omega, by omega, by decide⟩
noncomputable abbrev poolBody : SM := (sSeq (sSet 4 (mBin fMod (mB gAbs (mCons (mB gInt (mCons (mVar 3) mNil)) mNil)) (mBin fShl (mC (.int 1)) (mC (.int 2000)))))
    (sSeq (sSet 1 (mBin fMod (mB gInt (mCons (mBin fAdd (mBin fAdd (mBin fMul (mVar 1) (mC (.int 211))) (mBin fMod (mVar 4) (mC (.int 1000957)))) (mC (.int 1))) mNil)) (mC (.int 2147483647))))
    (sIf (mTB (mBin fGe (mVar 4) (mBin fPow (mC (.int 10)) (mC (.int 18))))) (sExpr (mMeth okL gAppend (mVar 2) (mCons (mVar 4) mNil))) sNil)))
theorem pool_loop {x0 : Option D} {n : Nat} : ∀ (cs : List Int) (m : Int) (gs : List Int) (h : MH) (x3 x4 : Option D), h[n]? = some (.lst (IL gs)) → gs.length + cs.length ≤ 63 →
    ∃ m' gs' y3 y4, loop none (stepOf (gNm 3) poolBody) (IL cs) [x0, some (.int m), some (.ref n), x3, x4] h = .ok (.nx, [x0, some (.int m'), some (.ref n), y3, y4], h.set n (.lst (IL gs'))) ∧ gs'.length ≤ 63
  | [], m, gs, h, x3, x4, hn, hl => ⟨m, gs, x3, x4, by simp [IL]; exact (set_same hn).symm, by simp at hl; omega⟩
  | c :: cs, m, gs, h, x3, x4, hn, hl => by
    obtain ⟨B, B0, eB⟩ := shl_pos (h := h)
    simp only [List.length_cons] at hl
    have lt : (IL gs).length < 1000000 := by simp [IL]; omega
    have p18 : fPow (.int 10) (.int 18) = fun h => some (.int 1000000000000000000, h) := by
      funext h
      simp [fPow, CPow]
    have hc : IL (c :: cs) = D.int c :: IL cs := rfl
    rw [hc]
    generalize hA : (if c < 0 then -c else c) = A
    by_cases hg : 1000000000000000000 ≤ A % B
    · have e : IL (gs ++ [A % B]) = IL gs ++ [.int (A % B)] := by simp [IL]
      have st : stepOf (gNm 3) poolBody (.int c) [x0, some (.int m), some (.ref n), x3, x4] h = .ok (.nx, [x0, some (.int ((m * 211 + A % B % 1000957 + 1) % 2147483647)), some (.ref n), some (.int c), some (.int (A % B))], h.set n (.lst (IL (gs ++ [A % B])))) := by
        rw [e]
        simp [fnM, sSeq, sSet, sIf, sRet, sRetN, sExpr, sNil, sAsg, sPut, sPutI, sAug, sPar, sBreak, sCont, mVar, mC, mBin, mUn, mIf, mNil, mCons, mTup, mFz, mNew, mLst, mTr, mTB, mB, mBF, mMeth, mIsi, mCall, mSl, mChain, mAnd, mOr, mNot, tAndM, tOrM, tNotM, okL, okS, asBl, truthD, gNm, gTp, gsCons, gsNil, stepOf, gInt, gAbs, hA, eB, fMod, B0, fMul, CMul, fAdd, fGe, p18, hg, lstOf, hn, gAppend, lt]
      obtain ⟨m', gs', y3, y4, e2, l2⟩ := pool_loop (x0 := x0) cs ((m * 211 + A % B % 1000957 + 1) % 2147483647) (gs ++ [A % B]) _ (some (.int c)) (some (.int (A % B))) (set_at hn) (by simp; omega)
      exact ⟨m', gs', y3, y4, by rw [loop_nx0 st, e2, set_twice], l2⟩
    · have st : stepOf (gNm 3) poolBody (.int c) [x0, some (.int m), some (.ref n), x3, x4] h = .ok (.nx, [x0, some (.int ((m * 211 + A % B % 1000957 + 1) % 2147483647)), some (.ref n), some (.int c), some (.int (A % B))], h) := by
        simp [fnM, sSeq, sSet, sIf, sRet, sRetN, sExpr, sNil, sAsg, sPut, sPutI, sAug, sPar, sBreak, sCont, mVar, mC, mBin, mUn, mIf, mNil, mCons, mTup, mFz, mNew, mLst, mTr, mTB, mB, mBF, mMeth, mIsi, mCall, mSl, mChain, mAnd, mOr, mNot, tAndM, tOrM, tNotM, okL, okS, asBl, truthD, gNm, gTp, gsCons, gsNil, stepOf, gInt, gAbs, hA, eB, fMod, B0, fMul, CMul, fAdd, fGe, p18, hg]
      obtain ⟨m', gs', y3, y4, e2, l2⟩ := pool_loop (x0 := x0) cs ((m * 211 + A % B % 1000957 + 1) % 2147483647) gs h (some (.int c)) (some (.int (A % B))) hn (by omega)
      exact ⟨m', gs', y3, y4, by rw [loop_nx0 st, e2], l2⟩
theorem run_pool (ns : List Int) (h : MH) : ∃ q h', fnM 5 b__law_pool [.fl (IL ns)] h = .ok (.ref q, h') ∧ Pool h' q := by
  have tk : cutL (IL ns) none (some 63) = IL (ns.take 63) := by
    have := cut_take (IL ns) 63
    have t : (IL ns).take 63 = IL (ns.take 63) := by simp [IL]
    rw [← t]; exact this
  obtain ⟨m', gs', y3, y4, e, l⟩ := pool_loop (x0 := some (.fl (IL ns))) (n := h.length) (ns.take 63) 10433 [] (h ++ [.lst []]) none none new_at (by simp; omega)
  rw [new_set] at e
  have hi : iAny (mSl fSl (mVar 0) oNone (oSome (mC (.int 63)))) [some (.fl (IL ns)), some (.int 10433), some (.ref h.length), none, none] (h ++ [.lst []]) = .ok ((IL (ns.take 63), none), h ++ [.lst []]) := by
    simp [fnM, sSeq, sSet, sIf, sRet, sRetN, sExpr, sNil, sAsg, sPut, sPutI, sAug, sPar, sBreak, sCont, mVar, mC, mBin, mUn, mIf, mNil, mCons, mTup, mFz, mNew, mLst, mTr, mTB, mB, mBF, mMeth, mIsi, mCall, mSl, mChain, mAnd, mOr, mNot, tAndM, tOrM, tNotM, okL, okS, asBl, truthD, gNm, gTp, gsCons, gsNil, iAny, oNone, oSome, fSl, lstOf, tk, itemsOf, liveOf]
  have s1 : sSet 1 (mC (.int 10433)) ([D.fl (IL ns)].map some ++ List.replicate (5 - [D.fl (IL ns)].length) none) h = .ok (.nx, [some (.fl (IL ns)), some (.int 10433), none, none, none], h) := rfl
  have s2 : sSet 2 (mNew (mLst mNil)) [some (.fl (IL ns)), some (.int 10433), none, none, none] h = .ok (.nx, [some (.fl (IL ns)), some (.int 10433), some (.ref h.length), none, none], h ++ [.lst []]) := by simp [fnM, sSeq, sSet, sIf, sRet, sRetN, sExpr, sNil, sAsg, sPut, sPutI, sAug, sPar, sBreak, sCont, mVar, mC, mBin, mUn, mIf, mNil, mCons, mTup, mFz, mNew, mLst, mTr, mTB, mB, mBF, mMeth, mIsi, mCall, mSl, mChain, mAnd, mOr, mNot, tAndM, tOrM, tNotM, okL, okS, asBl, truthD, gNm, gTp, gsCons, gsNil]
  have b : b__law_pool = sSeq (sSet 1 (mC (.int 10433))) (sSeq (sSet 2 (mNew (mLst mNil))) (sSeq (sFor (iAny (mSl fSl (mVar 0) oNone (oSome (mC (.int 63))))) (gNm 3) poolBody)
    (sRet (mNew (mCat (mFz (mLst (mCons (mVar 1) (mCons (mC (.int 0)) mNil)))) (mVar 2)))))) := rfl
  refine ⟨h.length + 1, h ++ [.lst (IL gs')] ++ [.lst (IL (m' :: 0 :: gs'))], fnM_rt (Γ := [some (.fl (IL ns)), some (.int m'), some (.ref h.length), y3, y4]) ?_, ⟨m', 0, gs', by simp, l⟩⟩
  have hh : (h ++ [O.lst (IL gs')])[h.length]? = some (.lst (IL gs')) := new_at
  have sz : (IL gs').length + 2 ≤ 1000000 := by simp [IL]; omega
  have ec : IL (m' :: 0 :: gs') = [D.int m', .int 0] ++ IL gs' := by simp [IL]
  have ll : (h ++ [O.lst (IL gs')]).length = h.length + 1 := by simp
  rw [b, sSeq_nx s1, sSeq_nx s2, sSeq_nx ((sFor_eq hi).trans e), ec]
  generalize h ++ [O.lst (IL gs')] = hh2 at *
  have sz2 : 2 + (IL gs').length ≤ 1000000 := by omega
  have lo : lstOf hh2 (.ref h.length) = some (IL gs') := by simp only [lstOf, hh]
  have lo2 : lstOf hh2 (.fl [.int m', .int 0]) = some [.int m', .int 0] := rfl
  have sz3 : ([D.int m', .int 0] : List D).length + (IL gs').length ≤ 1000000 := sz2
  simp [fnM, sSeq, sSet, sIf, sRet, sRetN, sExpr, sNil, sAsg, sPut, sPutI, sAug, sPar, sBreak, sCont, mVar, mC, mBin, mUn, mIf, mNil, mCons, mTup, mFz, mNew, mLst, mTr, mTB, mB, mBF, mMeth, mIsi, mCall, mSl, mChain, mAnd, mOr, mNot, tAndM, tOrM, tNotM, okL, okS, asBl, truthD, gNm, gTp, gsCons, gsNil, mCat, lo, lo2, sz2]
  omega
end K01
namespace K01
open PySem L2 Mir
open Classical
section
variable {P A T N N' So Wo : FM} {n : Nat}
abbrev HA (A : FM) : Prop := ∀ (h : MH) (n : Nat), Pool h n → ∃ h', A [.ref n] h = .ok (.bl true, h') ∧ Pool h' n
abbrev askBody (A : FM) : SM := (sIf (tNotM (mTB (mCall A (mCons (mVar 1) mNil)))) (sRet (mC (.bl false))) sNil)
theorem ask_loop (hA : HA A) {x0 x3 x4 x5 : Option D} : ∀ (ds : List D) (h : MH) (x2 : Option D), Pool h n →
    ∃ y h', loop none (stepOf (gNm 2) (askBody A)) ds [x0, some (.ref n), x2, x3, x4, x5] h = .ok (.nx, [x0, some (.ref n), y, x3, x4, x5], h') ∧ Pool h' n
  | [], h, x2, hp => ⟨x2, h, by simp, hp⟩
  | d :: ds, h, x2, hp => by
    obtain ⟨h1, e1, p1⟩ := hA h n hp
    have st : stepOf (gNm 2) (askBody A) d [x0, some (.ref n), x2, x3, x4, x5] h = .ok (.nx, [x0, some (.ref n), some d, x3, x4, x5], h1) := by
      simp [fnM, sSeq, sSet, sIf, sRet, sRetN, sExpr, sNil, sAsg, sPut, sPutI, sAug, sPar, sBreak, sCont, mVar, mC, mBin, mUn, mIf, mNil, mCons, mTup, mFz, mNew, mLst, mTr, mTB, mB, mBF, mMeth, mIsi, mCall, mSl, mChain, mAnd, mOr, mNot, tAndM, tOrM, tNotM, okL, okS, asBl, truthD, gNm, gTp, gsCons, gsNil, stepOf, e1]
    obtain ⟨y, h', e, p⟩ := ask_loop hA ds h1 (some d) p1
    exact ⟨y, h', by rw [loop_nx0 st, e], p⟩
theorem name_facts : ∀ r : Fin 8, (cutS "abcdefgh" none (some (1 + (r.val : Int)))).length ≤ 8 ∧ (Txt.upper (cutS "abcdefgh" none (some (1 + (r.val : Int))))).length ≤ 100 := by decide +kernel
theorem abc_len : ("abcdefgh" : Str).length = 8 := by decide +kernel
theorem cut1 (s : Str) : (cutS s none (some 1)).length ≤ s.length := by
  show ((((s.cps.toList.drop _).take _).toArray).size) ≤ _
  rw [List.size_toArray, List.length_take, List.length_drop, len_tl]
  omega
/-! the long text -/
def lineK (i : Int) : Str := repS " " (i / 2).toNat ++ repS "#" (Builtin.bitAnd i 1).toNat ++ "w" ++ (toString i : Str)
def okK (k : Nat) : Bool := decide (0 ≤ Builtin.bitAnd (k : Int) 1) && decide (Builtin.bitAnd (k : Int) 1 ≤ 1) && decide ((toString (k : Int) : Str).length ≤ 3) && decide ((k : Int).natAbs.log2 < 1920)
theorem okK_all : (List.range 400).all okK = true := by decide +kernel
theorem ha_len : ("#" : Str).length = 1 := by decide +kernel
theorem w_len : ("w" : Str).length = 1 := by decide +kernel
theorem lineK_ok {k : Nat} (hk : k < 400) (h : MH) : ((0 : Int) ≤ Builtin.bitAnd k 1 ∧ Builtin.bitAnd (k : Int) 1 ≤ 1) ∧ (k : Int).natAbs.log2 < 1920 ∧ (toString (k : Int) : Str).length ≤ 3 ∧ (lineK k).length ≤ 204 := by
  have o := List.all_eq_true.mp okK_all k (List.mem_range.mpr hk)
  simp only [okK, Bool.and_eq_true, decide_eq_true_eq] at o
  obtain ⟨⟨⟨o1, o2⟩, o3⟩, o4⟩ := o
  refine ⟨⟨o1, o2⟩, o4, o3, ?_⟩
  unfold lineK
  rw [app_len, app_len, app_len, repS_len, repS_len, sp_len, ha_len, w_len]
  omega
theorem run_long {h : MH} {x0 x1 x3 x4 : Option D} {x2 : Option D} : ∃ s : Str, s.length ≤ 90000 ∧ mMeth okS gJoin (mC (.str "\n")) (mCons (mFrz (mCompN (iRng (mCons (mC (.int 400)) mNil)) (gNm 2) tTrue (mBin fAdd (mBin fAdd (mBin fAdd (mBin fRep (mC (.str " ")) (mBin fDiv (mVar 2) (mC (.int 2)))) (mBin fRep (mC (.str "#")) (mBin fAnd (mVar 2) (mC (.int 1))))) (mC (.str "w"))) (mB gStr (mCons (mVar 2) mNil))) [2])) mNil) [x0, x1, x2, x3, x4, none] h = .ok (.str s, h) := by
  have hi : iRng (mCons (mC (.int 400)) mNil) [x0, x1, x2, x3, x4, none] h = .ok ((intsD 0 400, none), h) := by
    simp [fnM, sSeq, sSet, sIf, sRet, sRetN, sExpr, sNil, sAsg, sPut, sPutI, sAug, sPar, sBreak, sCont, mVar, mC, mBin, mUn, mIf, mNil, mCons, mTup, mFz, mNew, mLst, mTr, mTB, mB, mBF, mMeth, mIsi, mCall, mSl, mChain, mAnd, mOr, mNot, tAndM, tOrM, tNotM, okL, okS, asBl, truthD, gNm, gTp, gsCons, gsNil, iRng, rngOf]
  have key := frz_pure (im := iRng (mCons (mC (.int 400)) mNil)) (g := gNm 2) (t := tTrue) (e := mBin fAdd (mBin fAdd (mBin fAdd (mBin fRep (mC (.str " ")) (mBin fDiv (mVar 2) (mC (.int 2)))) (mBin fRep (mC (.str "#")) (mBin fAnd (mVar 2) (mC (.int 1))))) (mC (.str "w"))) (mB gStr (mCons (mVar 2) mNil))) (vs := [2]) (fun _ => true)
    (fun d => match d with | .int i => .str (lineK i) | d => d) hi (by rw [intsD_len]; omega) (fun d hd h' => by
      unfold intsD at hd
      obtain ⟨k, hk, rfl⟩ := List.mem_map.mp hd
      have hk := List.mem_range.mp hk
      obtain ⟨⟨o1, o2⟩, o4, o3, ol⟩ := lineK_ok hk h'
      rw [Int.zero_add]
      have r1 : fRep (.str " ") (.int ((k : Int) / 2)) h' = some (.str (repS " " ((k : Int) / 2).toNat), h') := by
        simp only [fRep]; rw [if_pos (by rw [sp_len]; omega)]
      have r2 : fRep (.str "#") (.int (Builtin.bitAnd k 1)) h' = some (.str (repS "#" (Builtin.bitAnd (k : Int) 1).toNat), h') := by
        simp only [fRep]; rw [if_pos (by rw [ha_len]; omega)]
      have l1 : (repS " " ((k : Int) / 2).toNat).length ≤ 200 := by rw [repS_len, sp_len]; omega
      have l2 : (repS "#" (Builtin.bitAnd (k : Int) 1).toNat).length ≤ 1 := by rw [repS_len, ha_len]; omega
      have a1 := add_str (a := repS " " ((k : Int) / 2).toNat) (b := repS "#" (Builtin.bitAnd (k : Int) 1).toNat) (h := h') (by omega)
      have a2 := add_str (a := repS " " ((k : Int) / 2).toNat ++ repS "#" (Builtin.bitAnd (k : Int) 1).toNat) (b := "w") (h := h') (by rw [app_len, w_len]; omega)
      have a3 := add_str (a := repS " " ((k : Int) / 2).toNat ++ repS "#" (Builtin.bitAnd (k : Int) 1).toNat ++ "w") (b := (toString (k : Int) : Str)) (h := h') (by rw [app_len, app_len, w_len]; omega)
      have dv : fDiv (.int k) (.int 2) h' = some (.int ((k : Int) / 2), h') := by simp [fDiv, CDiv]
      have an : fAnd (.int k) (.int 1) h' = some (.int (Builtin.bitAnd k 1), h') := rfl
      have gs : gStr [.int k] h' = some (.str (toString (k : Int) : Str), h') := by simp only [gStr]; rw [if_pos o4]
      refine ⟨_, rfl, rfl, fun _ => ?_⟩
      show _ = R.ok (D.str (lineK k), h')
      unfold lineK
      generalize (toString (k : Int) : Str) = tk at a3 gs ⊢
      simp [fnM, sSeq, sSet, sIf, sRet, sRetN, sExpr, sNil, sAsg, sPut, sPutI, sAug, sPar, sBreak, sCont, mVar, mC, mBin, mUn, mIf, mNil, mCons, mTup, mFz, mNew, mLst, mTr, mTB, mB, mBF, mMeth, mIsi, mCall, mSl, mChain, mAnd, mOr, mNot, tAndM, tOrM, tNotM, okL, okS, asBl, truthD, gNm, gTp, gsCons, gsNil, wipeΓ, dv, an, r1, r2, a1, a2, a3, gs])
    (fun d hd _ => by
      unfold intsD at hd
      obtain ⟨k, hk, rfl⟩ := List.mem_map.mp hd
      simp [closedD])
  have hv : ∀ d ∈ ((intsD 0 400).filter fun _ => true).map (fun d => match d with | .int i => D.str (lineK i) | d => d), ∃ s, d = .str s ∧ s.length ≤ 204 := fun d hd => by
    obtain ⟨x, hx, rfl⟩ := List.mem_map.mp hd
    have hx := (List.mem_filter.mp hx).1
    unfold intsD at hx
    obtain ⟨k, hk, rfl⟩ := List.mem_map.mp hx
    rw [Int.zero_add]
    exact ⟨_, rfl, (lineK_ok (List.mem_range.mp hk) h).2.2.2⟩
  have hl : (((intsD 0 400).filter fun _ => true).map (fun d => match d with | .int i => D.str (lineK i) | d => d)).length ≤ 400 := by
    rw [List.length_map]
    exact Nat.le_trans (List.length_filter_le _ _) (by rw [intsD_len]; omega)
  generalize ((intsD 0 400).filter fun _ => true).map (fun d => match d with | .int i => D.str (lineK i) | d => d) = ws at *
  obtain ⟨ss, e, ls, cs⟩ := strsOf_all hv
  have jl := join_le "\n" ss
  rw [nl_len] at jl
  refine ⟨Txt.join "\n" ss, by omega, (mMeth_one (x := .str "\n") (h1 := h) rfl rfl key).trans ?_⟩
  simp only [gJoin, seqOf, Option.bind_some, e]
  rw [if_pos (by rw [nl_len]; omega)]
  rfl
theorem x_words : scanW (repS " x" 150).cps.toList [] = List.replicate 150 [120] := by decide +kernel
theorem x_len : (repS " x" 150).length = 300 := by decide +kernel
theorem x_ : ("x" : Str) = toS [120] := by decide +kernel
theorem a_ : ("a" : Str) = toS [97] := by decide +kernel
theorem x_tup : (List.replicate 150 [D.str "x"]).flatten = wD (List.replicate 150 [120]) := by
  rw [wD, List.map_replicate, x_]
  generalize D.str (toS [120]) = d
  generalize 150 = n
  induction n with
  | zero => rfl
  | succ n ih => rw [List.replicate_succ, List.replicate_succ, List.flatten_cons, ih]; rfl
theorem run_things {nm : Str} {q : Nat} (hN : HN N) (hN' : HN N') {x2 x5 : Option D} {h : MH} {ds : List D} (hd : ∀ d ∈ ds, thingOk d = true) (x4 : Option D) :
    ∃ y, loop none (stepOf (gNm 4) (nameBody N N' 4)) ds [x5, some (.ref q), x2, some (.str nm), x4, none] h = .ok (.nx, [x5, some (.ref q), x2, some (.str nm), y, none], h) := by
  obtain ⟨Γ', e, y, rfl⟩ := loop_inv (step := stepOf (gNm 4) (nameBody N N' 4)) (fun Γ => ∃ y, Γ = [x5, some (.ref q), x2, some (.str nm), y, none]) h ds (fun d hd' Γ ⟨y, hy⟩ => by
    subst hy
    have n1 := hN d h (hd d hd')
    have n2 := hN' d h (hd d hd')
    have e3 := same_bl (b := nameB d) (h := h)
    generalize nameB d = bb at *
    refine ⟨_, ?_, ⟨some d, rfl⟩⟩
    simp [fnM, sSeq, sSet, sIf, sRet, sRetN, sExpr, sNil, sAsg, sPut, sPutI, sAug, sPar, sBreak, sCont, mVar, mC, mBin, mUn, mIf, mNil, mCons, mTup, mFz, mNew, mLst, mTr, mTB, mB, mBF, mMeth, mIsi, mCall, mSl, mChain, mAnd, mOr, mNot, tAndM, tOrM, tNotM, okL, okS, asBl, truthD, gNm, gTp, gsCons, gsNil, stepOf, n1, n2, e3]) _ ⟨x4, rfl⟩
  exact ⟨y, e⟩
abbrev HP (P : FM) : Prop := ∀ (ns : List Int) (h : MH), ∃ q h', P [.fl (IL ns)] h = .ok (.ref q, h') ∧ Pool h' q
end
end K01
namespace K01
open PySem L2 Mir
open Classical
section
variable {P A T N N' So Wo : FM}
theorem src_empty : srcL (linesA ("" : Str).cps.toList) 1 = [] := by decide +kernel
theorem src_nl : srcL (linesA ("\n" : Str).cps.toList) 1 = [] := by decide +kernel
theorem src_a : srcL (linesA ("\n\n a" : Str).cps.toList) 1 = [(3, [[97]])] := by decide +kernel
theorem w_empty : scanW ("" : Str).cps.toList [] = [] := by decide +kernel
theorem w_sp : scanW ("   " : Str).cps.toList [] = [] := by decide +kernel
theorem len_nna : ("\n\n a" : Str).length ≤ 100000 := by decide +kernel
theorem len_3 : ("   " : Str).length ≤ 100000 := by decide +kernel
theorem strs_ok : ("over" : Str).length ≤ 100 ∧ ("overs" : Str).length ≤ 100 ∧ ("Take" : Str).length ≤ 100 ∧ ("9" : Str).length = 1 := by decide +kernel
theorem run_law (hP : HP P) (hA : HA A) (hT : HT T) (hN : HN N) (hN' : HN N') (hSo : HSo So) (hWo : HWo Wo) (ns : List Int) (h : MH) :
    ∃ h', fnM 6 (b_law P A T sp_same N N' So sp_source Wo) [.fl (IL ns)] h = .ok (.bl true, h') := by
  obtain ⟨q, h1, e1, p1⟩ := hP ns h
  obtain ⟨y2, h2, e2, p2⟩ := ask_loop hA (x0 := some (.fl (IL ns))) (x3 := none) (x4 := none) (x5 := none) (intsD 0 4) h1 none p1
  obtain ⟨r, h3, e3, r0, r1, p3, o3, rfl⟩ := hT h2 q 8 p2 (by omega) (by omega)
  obtain ⟨ri, rfl⟩ := Int.eq_ofNat_of_zero_le r0
  obtain ⟨nl8, nu⟩ := name_facts ⟨ri, by omega⟩
  simp only at nl8 nu
  have cutE : fSl (.str "abcdefgh") none (some (1 + (ri : Int))) (h2.set q o3) = some (.str (cutS "abcdefgh" none (some (1 + (ri : Int)))), h2.set q o3) := by
    simp only [fSl]; rw [if_pos (by rw [abc_len]; omega)]
  generalize cutS "abcdefgh" none (some (1 + (ri : Int))) = nm at *
  generalize hh3 : h2.set q o3 = h3 at *
  obtain ⟨j, h4, e4, j0, j1, p4, o4, rfl⟩ := hT h3 q 13 p3 (by omega) (by omega)
  have b : b_law P A T sp_same N N' So sp_source Wo = 
    (sSeq (sSet 1 (mCall P (mCons (mVar 0) mNil)))
    (sSeq (sFor (iRng (mCons (mC (.int 4)) mNil)) (gNm 2) (askBody A))
    (sSeq (sSet 3 (mSl fSl (mC (.str "abcdefgh")) oNone (oSome (mBin fAdd (mC (.int 1)) (mCall T (mCons (mVar 1) (mCons (mC (.int 8)) mNil)))))))
    (sSeq (sFor (iAny (mTup (mCons (mVar 3) (mCons (mBin fAdd (mVar 3) (mC (.str "9"))) (mCons (mFz (mLst (mCons (mVar 3) mNil))) (mCons (mTup (mCons (mVar 3) mNil)) (mCons (mC .non) (mCons (mC (.int 0)) (mCons (mC (.int 1)) (mCons (mC (.bl true)) (mCons (mC (.str "")) (mCons (mBin fAdd (mC (.str " ")) (mVar 3)) (mCons (mBin fAdd (mVar 3) (mC (.str " "))) (mCons (mBin fAdd (mVar 3) (mC (.str "\n"))) (mCons (mMeth okS gUpper (mVar 3) mNil) (mCons (mC (.str "\n")) (mCons (mTup (mCons (mC (.str "a")) mNil)) (mCons (mFz (mLst mNil)) (mCons (mSl fSl (mVar 3) oNone (oSome (mC (.int 1)))) (mCons (mC (.str "over")) (mCons (mC (.str "overs")) (mCons (mC (.str "Take")) mNil)))))))))))))))))))))) (gNm 4) (nameBody N N' 4))
    (sSeq (sIf (mTB (mBin fEq (mCall T (mCons (mVar 1) (mCons (mC (.int 13)) mNil))) (mC (.int 6)))) (sSeq (sSet 5 (mMeth okS gJoin (mC (.str "\n")) (mCons (mFrz (mCompN (iRng (mCons (mC (.int 400)) mNil)) (gNm 2) tTrue (mBin fAdd (mBin fAdd (mBin fAdd (mBin fRep (mC (.str " ")) (mBin fDiv (mVar 2) (mC (.int 2)))) (mBin fRep (mC (.str "#")) (mBin fAnd (mVar 2) (mC (.int 1))))) (mC (.str "w"))) (mB gStr (mCons (mVar 2) mNil))) [2])) mNil)))
    (sIf (tOrM (tNotM (mTB (mCall sp_same (mCons (mCall So (mCons (mVar 5) mNil)) (mCons (mCall sp_source (mCons (mVar 5) mNil)) mNil))))) (tNotM (mTB (mCall sp_same (mCons (mCall Wo (mCons (mBin fRep (mC (.str " x")) (mC (.int 150))) mNil)) (mCons (mBin fRep (mTup (mCons (mC (.str "x")) mNil)) (mC (.int 150))) mNil)))))) (sRet (mC (.bl false))) sNil)) sNil)
    (sRet (mCall sp_same (mCons (mTup (mCons (mCall So (mCons (mC (.str "")) mNil)) (mCons (mCall So (mCons (mC (.str "\n")) mNil)) (mCons (mCall So (mCons (mC (.str "\n\n a")) mNil)) (mCons (mCall Wo (mCons (mC (.str "")) mNil)) (mCons (mCall Wo (mCons (mC (.str "   ")) mNil)) mNil)))))) (mCons (mTup (mCons (mTup mNil) (mCons (mTup mNil) (mCons (mTup (mCons (mTup (mCons (mC (.int 3)) (mCons (mTup (mCons (mC (.str "a")) mNil)) mNil))) mNil)) (mCons (mTup mNil) (mCons (mTup mNil) mNil)))))) mNil))))))))) := rfl
  have s1 : sSet 1 (mCall P (mCons (mVar 0) mNil)) ([D.fl (IL ns)].map some ++ List.replicate (6 - [D.fl (IL ns)].length) none) h = .ok (.nx, [some (.fl (IL ns)), some (.ref q), none, none, none, none], h1) := by
    simp [fnM, sSeq, sSet, sIf, sRet, sRetN, sExpr, sNil, sAsg, sPut, sPutI, sAug, sPar, sBreak, sCont, mVar, mC, mBin, mUn, mIf, mNil, mCons, mTup, mFz, mNew, mLst, mTr, mTB, mB, mBF, mMeth, mIsi, mCall, mSl, mChain, mAnd, mOr, mNot, tAndM, tOrM, tNotM, okL, okS, asBl, truthD, gNm, gTp, gsCons, gsNil, e1]
  have i2 : iRng (mCons (mC (.int 4)) mNil) [some (.fl (IL ns)), some (.ref q), none, none, none, none] h1 = .ok ((intsD 0 4, none), h1) := by simp [fnM, sSeq, sSet, sIf, sRet, sRetN, sExpr, sNil, sAsg, sPut, sPutI, sAug, sPar, sBreak, sCont, mVar, mC, mBin, mUn, mIf, mNil, mCons, mTup, mFz, mNew, mLst, mTr, mTB, mB, mBF, mMeth, mIsi, mCall, mSl, mChain, mAnd, mOr, mNot, tAndM, tOrM, tNotM, okL, okS, asBl, truthD, gNm, gTp, gsCons, gsNil, iRng, rngOf]
  have s3 : sSet 3 (mSl fSl (mC (.str "abcdefgh")) oNone (oSome (mBin fAdd (mC (.int 1)) (mCall T (mCons (mVar 1) (mCons (mC (.int 8)) mNil)))))) [some (.fl (IL ns)), some (.ref q), y2, none, none, none] h2 = .ok (.nx, [some (.fl (IL ns)), some (.ref q), y2, some (.str nm), none, none], h3) := by
    have ad : fAdd (.int 1) (.int (ri : Int)) h3 = some (.int (1 + (ri : Int)), h3) := rfl
    simp [fnM, sSeq, sSet, sIf, sRet, sRetN, sExpr, sNil, sAsg, sPut, sPutI, sAug, sPar, sBreak, sCont, mVar, mC, mBin, mUn, mIf, mNil, mCons, mTup, mFz, mNew, mLst, mTr, mTB, mB, mBF, mMeth, mIsi, mCall, mSl, mChain, mAnd, mOr, mNot, tAndM, tOrM, tNotM, okL, okS, asBl, truthD, gNm, gTp, gsCons, gsNil, oNone, oSome, e3, ad, cutE]
  have a1 := add_str (a := nm) (b := "9") (h := h3) (by rw [strs_ok.2.2.2]; omega)
  have a2 := add_str (a := " ") (b := nm) (h := h3) (by rw [sp_len]; omega)
  have a3 := add_str (a := nm) (b := " ") (h := h3) (by rw [sp_len]; omega)
  have a4 := add_str (a := nm) (b := "\n") (h := h3) (by rw [nl_len]; omega)
  have up : gUpper (.str nm) [] h3 = some (.str (Txt.upper nm), h3) := by simp only [gUpper]; rw [if_pos (by omega)]
  have ct : fSl (.str nm) none (some 1) h3 = some (.str (cutS nm none (some 1)), h3) := by simp only [fSl]; rw [if_pos (by omega)]
  have i4 : iAny (mTup (mCons (mVar 3) (mCons (mBin fAdd (mVar 3) (mC (.str "9"))) (mCons (mFz (mLst (mCons (mVar 3) mNil))) (mCons (mTup (mCons (mVar 3) mNil)) (mCons (mC .non) (mCons (mC (.int 0)) (mCons (mC (.int 1)) (mCons (mC (.bl true)) (mCons (mC (.str "")) (mCons (mBin fAdd (mC (.str " ")) (mVar 3)) (mCons (mBin fAdd (mVar 3) (mC (.str " "))) (mCons (mBin fAdd (mVar 3) (mC (.str "\n"))) (mCons (mMeth okS gUpper (mVar 3) mNil) (mCons (mC (.str "\n")) (mCons (mTup (mCons (mC (.str "a")) mNil)) (mCons (mFz (mLst mNil)) (mCons (mSl fSl (mVar 3) oNone (oSome (mC (.int 1)))) (mCons (mC (.str "over")) (mCons (mC (.str "overs")) (mCons (mC (.str "Take")) mNil))))))))))))))))))))) [some (.fl (IL ns)), some (.ref q), y2, some (.str nm), none, none] h3 =
      .ok (([.str nm, .str (nm ++ "9"), .fl [.str nm], .tup [.str nm], .non, .int 0, .int 1, .bl true, .str "", .str (" " ++ nm), .str (nm ++ " "), .str (nm ++ "\n"), .str (Txt.upper nm), .str "\n", .tup [.str "a"], .fl [], .str (cutS nm none (some 1)), .str "over", .str "overs", .str "Take"], none), h3) := by
    simp [fnM, sSeq, sSet, sIf, sRet, sRetN, sExpr, sNil, sAsg, sPut, sPutI, sAug, sPar, sBreak, sCont, mVar, mC, mBin, mUn, mIf, mNil, mCons, mTup, mFz, mNew, mLst, mTr, mTB, mB, mBF, mMeth, mIsi, mCall, mSl, mChain, mAnd, mOr, mNot, tAndM, tOrM, tNotM, okL, okS, asBl, truthD, gNm, gTp, gsCons, gsNil, iAny, a1, a2, a3, a4, up, ct, oNone, oSome, itemsOf, liveOf]
  obtain ⟨y4, e5⟩ := run_things (nm := nm) (q := q) (x2 := y2) (x5 := some (.fl (IL ns))) (h := h3) (ds := [.str nm, .str (nm ++ "9"), .fl [.str nm], .tup [.str nm], .non, .int 0, .int 1, .bl true, .str "", .str (" " ++ nm), .str (nm ++ " "), .str (nm ++ "\n"), .str (Txt.upper nm), .str "\n", .tup [.str "a"], .fl [], .str (cutS nm none (some 1)), .str "over", .str "overs", .str "Take"]) hN hN' (by
    have c1 := cut1 nm
    have k := strs_ok
    intro d hd
    simp only [List.mem_cons, List.not_mem_nil, or_false] at hd
    rcases hd with rfl | rfl | rfl | rfl | rfl | rfl | rfl | rfl | rfl | rfl | rfl | rfl | rfl | rfl | rfl | rfl | rfl | rfl | rfl | rfl <;> first | rfl | (simp only [thingOk, decide_eq_true_eq, app_len, nl_len, sp_len, em_len]; omega)) none
  have f1 := hSo "" (h3.set q o4) (by rw [em_len]; omega)
  have f2 := hSo "\n" (h3.set q o4) (by rw [nl_len]; omega)
  have f3 := hSo "\n\n a" (h3.set q o4) len_nna
  have f4 := hWo "" (h3.set q o4) (by rw [em_len]; omega)
  have f5 := hWo "   " (h3.set q o4) len_3
  rw [src_empty] at f1
  rw [src_nl] at f2
  rw [src_a] at f3
  rw [w_empty] at f4
  rw [w_sp] at f5
  have fs : sp_same [.tup [.tup (srcD []), .tup (srcD []), .tup (srcD [(3, [[97]])]), .tup (wD []), .tup (wD [])], .tup [.tup [], .tup [], .tup [.tup [.int 3, .tup [.str "a"]]], .tup [], .tup []]] (h3.set q o4) = .ok (.bl true, h3.set q o4) := by
    have eq : D.tup [.tup (srcD []), .tup (srcD []), .tup (srcD [(3, [[97]])]), .tup (wD []), .tup (wD [])] = D.tup [.tup [], .tup [], .tup [.tup [.int 3, .tup [.str "a"]]], .tup [], .tup []] := by
      simp [srcD, wD, a_]
    simp only [sp_same]
    rw [if_pos ⟨eq, rfl, by decide⟩]
  have fin : ∀ (x5 : Option D) , ∃ Γ, (sRet (mCall sp_same (mCons (mTup (mCons (mCall So (mCons (mC (.str "")) mNil)) (mCons (mCall So (mCons (mC (.str "\n")) mNil)) (mCons (mCall So (mCons (mC (.str "\n\n a")) mNil)) (mCons (mCall Wo (mCons (mC (.str "")) mNil)) (mCons (mCall Wo (mCons (mC (.str "   ")) mNil)) mNil)))))) (mCons (mTup (mCons (mTup mNil) (mCons (mTup mNil) (mCons (mTup (mCons (mTup (mCons (mC (.int 3)) (mCons (mTup (mCons (mC (.str "a")) mNil)) mNil))) mNil)) (mCons (mTup mNil) (mCons (mTup mNil) mNil)))))) mNil)))) [some (.fl (IL ns)), some (.ref q), y2, some (.str nm), y4, x5] (h3.set q o4) = .ok (.rt (.bl true), Γ, h3.set q o4) := fun x5 => by
    refine ⟨[some (.fl (IL ns)), some (.ref q), y2, some (.str nm), y4, x5], ?_⟩
    simp [fnM, sSeq, sSet, sIf, sRet, sRetN, sExpr, sNil, sAsg, sPut, sPutI, sAug, sPar, sBreak, sCont, mVar, mC, mBin, mUn, mIf, mNil, mCons, mTup, mFz, mNew, mLst, mTr, mTB, mB, mBF, mMeth, mIsi, mCall, mSl, mChain, mAnd, mOr, mNot, tAndM, tOrM, tNotM, okL, okS, asBl, truthD, gNm, gTp, gsCons, gsNil, f1, f2, f3, f4, f5, fs]
  rw [b]
  by_cases hj : j = 6
  · subst hj
    obtain ⟨s, ls, el⟩ := run_long (h := h3.set q o4) (x0 := some (.fl (IL ns))) (x1 := some (.ref q)) (x2 := y2) (x3 := some (.str nm)) (x4 := y4)
    obtain ⟨Γ, ef⟩ := fin (some (.str s))
    refine ⟨h3.set q o4, fnM_rt (Γ := Γ) ?_⟩
    rw [sSeq_nx s1, sSeq_nx ((sFor_eq i2).trans e2), sSeq_nx s3, sSeq_nx ((sFor_eq i4).trans e5)]
    have w1 := hSo s (h3.set q o4) (by omega)
    have w2 := sp_source_ok (s := s) (h := h3.set q o4) ls
    have g1 := same_src (t := s.cps.toList) (h := h3.set q o4) (by rw [len_tl]; exact ls)
    have w3 := hWo (repS " x" 150) (h3.set q o4) (by rw [x_len]; omega)
    rw [x_words] at w3
    have g2 := same_words (ws := List.replicate 150 [120]) (h := h3.set q o4) (by simp)
    have r1 : fRep (.str " x") (.int 150) (h3.set q o4) = some (.str (repS " x" 150), h3.set q o4) := by
      have l2 : (" x" : Str).length = 2 := by decide +kernel
      simp only [fRep]; rw [if_pos (by rw [l2]; decide)]; rfl
    have r2 : fRep (.tup [.str "x"]) (.int 150) (h3.set q o4) = some (.tup (wD (List.replicate 150 [120])), h3.set q o4) := by
      simp only [fRep]; rw [if_pos (by simp)]
      have := x_tup
      show some (D.tup (List.replicate 150 [D.str "x"]).flatten, _) = _
      rw [this]
    generalize wD (List.replicate 150 [120]) = xs at *
    generalize srcD (srcL (linesA s.cps.toList) 1) = src at *
    have s6 : sIf (mTB (mBin fEq (mCall T (mCons (mVar 1) (mCons (mC (.int 13)) mNil))) (mC (.int 6)))) (sSeq (sSet 5 (mMeth okS gJoin (mC (.str "\n")) (mCons (mFrz (mCompN (iRng (mCons (mC (.int 400)) mNil)) (gNm 2) tTrue (mBin fAdd (mBin fAdd (mBin fAdd (mBin fRep (mC (.str " ")) (mBin fDiv (mVar 2) (mC (.int 2)))) (mBin fRep (mC (.str "#")) (mBin fAnd (mVar 2) (mC (.int 1))))) (mC (.str "w"))) (mB gStr (mCons (mVar 2) mNil))) [2])) mNil)))
    (sIf (tOrM (tNotM (mTB (mCall sp_same (mCons (mCall So (mCons (mVar 5) mNil)) (mCons (mCall sp_source (mCons (mVar 5) mNil)) mNil))))) (tNotM (mTB (mCall sp_same (mCons (mCall Wo (mCons (mBin fRep (mC (.str " x")) (mC (.int 150))) mNil)) (mCons (mBin fRep (mTup (mCons (mC (.str "x")) mNil)) (mC (.int 150))) mNil)))))) (sRet (mC (.bl false))) sNil)) sNil [some (.fl (IL ns)), some (.ref q), y2, some (.str nm), y4, none] h3 = .ok (.nx, [some (.fl (IL ns)), some (.ref q), y2, some (.str nm), y4, some (.str s)], h3.set q o4) := by
      generalize (mMeth okS gJoin (mC (.str "\n")) _) = M at el
      simp [fnM, sSeq, sSet, sIf, sRet, sRetN, sExpr, sNil, sAsg, sPut, sPutI, sAug, sPar, sBreak, sCont, mVar, mC, mBin, mUn, mIf, mNil, mCons, mTup, mFz, mNew, mLst, mTr, mTB, mB, mBF, mMeth, mIsi, mCall, mSl, mChain, mAnd, mOr, mNot, tAndM, tOrM, tNotM, okL, okS, asBl, truthD, gNm, gTp, gsCons, gsNil, e4, fEq, scalD, deq, el, w1, w2, g1, w3, r1, r2, g2]
    rw [sSeq_nx s6]
    exact ef
  · obtain ⟨Γ, ef⟩ := fin none
    refine ⟨h3.set q o4, fnM_rt (Γ := Γ) ?_⟩
    rw [sSeq_nx s1, sSeq_nx ((sFor_eq i2).trans e2), sSeq_nx s3, sSeq_nx ((sFor_eq i4).trans e5)]
    refine (sSeq_nx (Γ' := [some (.fl (IL ns)), some (.ref q), y2, some (.str nm), y4, none]) (h' := h3.set q o4) ?_).trans ef
    simp [fnM, sSeq, sSet, sIf, sRet, sRetN, sExpr, sNil, sAsg, sPut, sPutI, sAug, sPar, sBreak, sCont, mVar, mC, mBin, mUn, mIf, mNil, mCons, mTup, mFz, mNew, mLst, mTr, mTB, mB, mBF, mMeth, mIsi, mCall, mSl, mChain, mAnd, mOr, mNot, tAndM, tOrM, tNotM, okL, okS, asBl, truthD, gNm, gTp, gsCons, gsNil, e4, fEq, scalD, deq, hj]
end
end K01
namespace K01
open PySem PySem.W L2 Mir
theorem hasC_str {K : PySem.W.Frag} {h : Heap} {mg : Str → Option Value} {x s : Str} {t : Tok} (X : K.In h) (G : h.Ns mainGlobals mg) (a : PySem.W.nsIn K mainGlobals x = some (some (.str s t))) : HasC K mg x (.str s) :=
  ⟨_, .str s, PySem.W.mg_of X G a, ⟨t, rfl⟩, fun _ _ => vr_str⟩
theorem hasC_int {K : PySem.W.Frag} {h : Heap} {mg : Str → Option Value} {x : Str} {i : Int} {t : Tok} (X : K.In h) (G : h.Ns mainGlobals mg) (a : PySem.W.nsIn K mainGlobals x = some (some (.int i t))) : HasC K mg x (.int i) :=
  ⟨_, .int i, PySem.W.mg_of X G a, ⟨t, rfl⟩, fun _ _ => vr_int⟩
theorem hasC_tup {K : PySem.W.Frag} {h : Heap} {mg : Str → Option Value} {x : Str} {p : Addr} {dd : Option Addr} {nn : Nat} {sl : Array (Option Value)} {its : Array Value} {vs : List V} {ds : List D} (X : K.In h) (G : h.Ns mainGlobals mg) (a : PySem.W.nsIn K mainGlobals x = some (some (.ref p)))
    (l : K.lookup p = some ⟨.type "tuple", dd, .seq its nn, sl⟩) (hz : its.size ≤ sizeLine) (r : Vals vs its.toList) (hd : ∀ ι H, VRs K ι H ds vs) : HasC K mg x (.tup ds) :=
  ⟨_, .ref p, PySem.W.mg_of X G a, rfl, fun ι H => by
    unfold VR
    exact ⟨p, vs, rfl, .inr fun H' => .inr ⟨_, its, nn, l, rfl, rfl, hz, r⟩, hd ι H⟩⟩
noncomputable abbrev r__law_pool : FM := fnM 5 b__law_pool
noncomputable abbrev r__law_same : FM := fnM 6 b__law_same
noncomputable abbrev r__law_take : FM := fnM 3 b__law_take
noncomputable abbrev r__law_word : FM := fnM 4 (b__law_word r__law_take)
noncomputable abbrev r__law_line : FM := fnM 3 (b__law_line r__law_take r__law_word)
noncomputable abbrev r__law_words : FM := fnM 4 b__law_words
noncomputable abbrev r_words_of_line : FM := fnM 2 b_words_of_line
noncomputable abbrev r_words_of : FM := fnM 1 (b_words_of r_words_of_line)
noncomputable abbrev r_lines_of : FM := fnM 2 b_lines_of
noncomputable abbrev r_is_passed_over : FM := fnM 1 b_is_passed_over
noncomputable abbrev r_read_lines : FM := fnM 5 (b_read_lines (sp_lines) r_words_of_line r_is_passed_over)
noncomputable abbrev r_source_lines : FM := fnM 3 (b_source_lines (sp_read))
noncomputable abbrev r__law_source : FM := fnM 6 (b__law_source (sp_words))
noncomputable abbrev r_is_name : FM := fnM 2 b_is_name
noncomputable abbrev r__law_is_name : FM := fnM 3 b__law_is_name
noncomputable abbrev r__law_asked : FM := fnM 6 (b__law_asked r__law_take r__law_line (sp_same) r_words_of (sp_words) r_is_name r__law_is_name r_source_lines (sp_source))
noncomputable abbrev r_law : FM := fnM 6 (b_law r__law_pool r__law_asked r__law_take (sp_same) r_is_name r__law_is_name r_source_lines (sp_source) r_words_of)
theorem all_mk {l : PySem.W.OpenLaw} {w : World} {K : PySem.W.Frag} {h : Heap} {mg : Str → Option Value} {fa f1 f2 f3 f4 f5 f6 f7 f8 f9 f10 f11 f12 f13 f14 f15 f16 f17 : Addr} (X : K.In h) (G : h.Ns mainGlobals mg) (hfa : mg "law" = some (.ref fa))
    {od1 od2 od3 od4 od5 od6 od7 od8 od9 od10 od11 od12 od13 od14 od15 od16 od17 an1 an2 an3 an4 an5 an6 an7 an8 an9 an10 an11 an12 an13 an14 an15 an16 an17 : Option Addr} {sl1 sl2 sl3 sl4 sl5 sl6 sl7 sl8 sl9 sl10 sl11 sl12 sl13 sl14 sl15 sl16 sl17 : Array (Option Value)} {oc1 oc2 oc3 oc4 oc5 oc6 oc7 oc8 oc9 oc10 oc11 oc12 oc13 oc14 oc15 oc16 oc17 kV1 kV2 kV3 kV4 kV5 kV6 kV7 kV8 kV9 kV10 kV11 kV12 kV13 kV14 kV15 kV16 kV17 dc1 dc2 dc3 dc4 dc5 dc6 dc7 dc8 dc9 dc10 dc11 dc12 dc13 dc14 dc15 dc16 dc17 pm1 pm2 pm3 pm4 pm5 pm6 pm7 pm8 pm9 pm10 pm11 pm12 pm13 pm14 pm15 pm16 pm17 cd1 cd2 cd3 cd4 cd5 cd6 cd7 cd8 cd9 cd10 cd11 cd12 cd13 cd14 cd15 cd16 cd17 ct1 ct2 ct3 ct4 ct5 ct6 ct7 ct8 ct9 ct10 ct11 ct12 ct13 ct14 ct15 ct16 ct17 : Value} {p_KEYWORDS : Addr} {dd_KEYWORDS : Option Addr} {nn_KEYWORDS : Nat} {sl_KEYWORDS : Array (Option Value)} {t_KEYWORDS_0 t_KEYWORDS_1 t_KEYWORDS_2 t_KEYWORDS_3 t_KEYWORDS_4 t_KEYWORDS_5 t_KEYWORDS_6 t_KEYWORDS_7 t_KEYWORDS_8 t_KEYWORDS_9 t_KEYWORDS_10 : Tok} {t_LETTERS : Tok} {t_LONGEST_NAME : Tok} {t_NAME_SIGNS : Tok}
    (a1 : PySem.W.nsIn K mainGlobals "_law_pool" = some (some (.ref f1))) (l1 : K.lookup f1 = some ⟨oc1, od1, .func (PySem.W.fnOf "_law_pool" "_law_pool" (defArgs s__law_pool) (defBody s__law_pool) (defScope s__law_pool) .none kV1 dc1 pm1 an1 cd1 ct1), sl1⟩) (c1 : PySem.W.codeIn K cd1 "_law_pool" = true) (k1 : PySem.W.keepIn K (.ref f1) = true)
    (a2 : PySem.W.nsIn K mainGlobals "_law_same" = some (some (.ref f2))) (l2 : K.lookup f2 = some ⟨oc2, od2, .func (PySem.W.fnOf "_law_same" "_law_same" (defArgs s__law_same) (defBody s__law_same) (defScope s__law_same) .none kV2 dc2 pm2 an2 cd2 ct2), sl2⟩) (c2 : PySem.W.codeIn K cd2 "_law_same" = true) (k2 : PySem.W.keepIn K (.ref f2) = true)
    (a3 : PySem.W.nsIn K mainGlobals "_law_take" = some (some (.ref f3))) (l3 : K.lookup f3 = some ⟨oc3, od3, .func (PySem.W.fnOf "_law_take" "_law_take" (defArgs s__law_take) (defBody s__law_take) (defScope s__law_take) .none kV3 dc3 pm3 an3 cd3 ct3), sl3⟩) (c3 : PySem.W.codeIn K cd3 "_law_take" = true) (k3 : PySem.W.keepIn K (.ref f3) = true)
    (a4 : PySem.W.nsIn K mainGlobals "_law_word" = some (some (.ref f4))) (l4 : K.lookup f4 = some ⟨oc4, od4, .func (PySem.W.fnOf "_law_word" "_law_word" (defArgs s__law_word) (defBody s__law_word) (defScope s__law_word) .none kV4 dc4 pm4 an4 cd4 ct4), sl4⟩) (c4 : PySem.W.codeIn K cd4 "_law_word" = true) (k4 : PySem.W.keepIn K (.ref f4) = true)
    (a5 : PySem.W.nsIn K mainGlobals "_law_line" = some (some (.ref f5))) (l5 : K.lookup f5 = some ⟨oc5, od5, .func (PySem.W.fnOf "_law_line" "_law_line" (defArgs s__law_line) (defBody s__law_line) (defScope s__law_line) .none kV5 dc5 pm5 an5 cd5 ct5), sl5⟩) (c5 : PySem.W.codeIn K cd5 "_law_line" = true) (k5 : PySem.W.keepIn K (.ref f5) = true)
    (a6 : PySem.W.nsIn K mainGlobals "_law_words" = some (some (.ref f6))) (l6 : K.lookup f6 = some ⟨oc6, od6, .func (PySem.W.fnOf "_law_words" "_law_words" (defArgs s__law_words) (defBody s__law_words) (defScope s__law_words) .none kV6 dc6 pm6 an6 cd6 ct6), sl6⟩) (c6 : PySem.W.codeIn K cd6 "_law_words" = true) (k6 : PySem.W.keepIn K (.ref f6) = true)
    (a7 : PySem.W.nsIn K mainGlobals "words_of_line" = some (some (.ref f7))) (l7 : K.lookup f7 = some ⟨oc7, od7, .func (PySem.W.fnOf "words_of_line" "words_of_line" (defArgs s_words_of_line) (defBody s_words_of_line) (defScope s_words_of_line) .none kV7 dc7 pm7 an7 cd7 ct7), sl7⟩) (c7 : PySem.W.codeIn K cd7 "words_of_line" = true) (k7 : PySem.W.keepIn K (.ref f7) = true)
    (a8 : PySem.W.nsIn K mainGlobals "words_of" = some (some (.ref f8))) (l8 : K.lookup f8 = some ⟨oc8, od8, .func (PySem.W.fnOf "words_of" "words_of" (defArgs s_words_of) (defBody s_words_of) (defScope s_words_of) .none kV8 dc8 pm8 an8 cd8 ct8), sl8⟩) (c8 : PySem.W.codeIn K cd8 "words_of" = true) (k8 : PySem.W.keepIn K (.ref f8) = true)
    (a9 : PySem.W.nsIn K mainGlobals "lines_of" = some (some (.ref f9))) (l9 : K.lookup f9 = some ⟨oc9, od9, .func (PySem.W.fnOf "lines_of" "lines_of" (defArgs s_lines_of) (defBody s_lines_of) (defScope s_lines_of) .none kV9 dc9 pm9 an9 cd9 ct9), sl9⟩) (c9 : PySem.W.codeIn K cd9 "lines_of" = true) (k9 : PySem.W.keepIn K (.ref f9) = true)
    (a10 : PySem.W.nsIn K mainGlobals "is_passed_over" = some (some (.ref f10))) (l10 : K.lookup f10 = some ⟨oc10, od10, .func (PySem.W.fnOf "is_passed_over" "is_passed_over" (defArgs s_is_passed_over) (defBody s_is_passed_over) (defScope s_is_passed_over) .none kV10 dc10 pm10 an10 cd10 ct10), sl10⟩) (c10 : PySem.W.codeIn K cd10 "is_passed_over" = true) (k10 : PySem.W.keepIn K (.ref f10) = true)
    (a11 : PySem.W.nsIn K mainGlobals "read_lines" = some (some (.ref f11))) (l11 : K.lookup f11 = some ⟨oc11, od11, .func (PySem.W.fnOf "read_lines" "read_lines" (defArgs s_read_lines) (defBody s_read_lines) (defScope s_read_lines) .none kV11 dc11 pm11 an11 cd11 ct11), sl11⟩) (c11 : PySem.W.codeIn K cd11 "read_lines" = true) (k11 : PySem.W.keepIn K (.ref f11) = true)
    (a12 : PySem.W.nsIn K mainGlobals "source_lines" = some (some (.ref f12))) (l12 : K.lookup f12 = some ⟨oc12, od12, .func (PySem.W.fnOf "source_lines" "source_lines" (defArgs s_source_lines) (defBody s_source_lines) (defScope s_source_lines) .none kV12 dc12 pm12 an12 cd12 ct12), sl12⟩) (c12 : PySem.W.codeIn K cd12 "source_lines" = true) (k12 : PySem.W.keepIn K (.ref f12) = true)
    (a13 : PySem.W.nsIn K mainGlobals "_law_source" = some (some (.ref f13))) (l13 : K.lookup f13 = some ⟨oc13, od13, .func (PySem.W.fnOf "_law_source" "_law_source" (defArgs s__law_source) (defBody s__law_source) (defScope s__law_source) .none kV13 dc13 pm13 an13 cd13 ct13), sl13⟩) (c13 : PySem.W.codeIn K cd13 "_law_source" = true) (k13 : PySem.W.keepIn K (.ref f13) = true)
    (a14 : PySem.W.nsIn K mainGlobals "is_name" = some (some (.ref f14))) (l14 : K.lookup f14 = some ⟨oc14, od14, .func (PySem.W.fnOf "is_name" "is_name" (defArgs s_is_name) (defBody s_is_name) (defScope s_is_name) .none kV14 dc14 pm14 an14 cd14 ct14), sl14⟩) (c14 : PySem.W.codeIn K cd14 "is_name" = true) (k14 : PySem.W.keepIn K (.ref f14) = true)
    (a15 : PySem.W.nsIn K mainGlobals "_law_is_name" = some (some (.ref f15))) (l15 : K.lookup f15 = some ⟨oc15, od15, .func (PySem.W.fnOf "_law_is_name" "_law_is_name" (defArgs s__law_is_name) (defBody s__law_is_name) (defScope s__law_is_name) .none kV15 dc15 pm15 an15 cd15 ct15), sl15⟩) (c15 : PySem.W.codeIn K cd15 "_law_is_name" = true) (k15 : PySem.W.keepIn K (.ref f15) = true)
    (a16 : PySem.W.nsIn K mainGlobals "_law_asked" = some (some (.ref f16))) (l16 : K.lookup f16 = some ⟨oc16, od16, .func (PySem.W.fnOf "_law_asked" "_law_asked" (defArgs s__law_asked) (defBody s__law_asked) (defScope s__law_asked) .none kV16 dc16 pm16 an16 cd16 ct16), sl16⟩) (c16 : PySem.W.codeIn K cd16 "_law_asked" = true) (k16 : PySem.W.keepIn K (.ref f16) = true)
    (a17 : PySem.W.nsIn K mainGlobals "law" = some (some (.ref f17))) (l17 : K.lookup f17 = some ⟨oc17, od17, .func (PySem.W.fnOf "law" "law" (defArgs s_law) (defBody s_law) (defScope s_law) .none kV17 dc17 pm17 an17 cd17 ct17), sl17⟩) (c17 : PySem.W.codeIn K cd17 "law" = true) (k17 : PySem.W.keepIn K (.ref f17) = true)
    (z_abs : PySem.W.nsIn K mainGlobals "abs" = some none)
    (z_bool : PySem.W.nsIn K mainGlobals "bool" = some none)
    (z_enumerate : PySem.W.nsIn K mainGlobals "enumerate" = some none)
    (z_int : PySem.W.nsIn K mainGlobals "int" = some none)
    (z_isinstance : PySem.W.nsIn K mainGlobals "isinstance" = some none)
    (z_len : PySem.W.nsIn K mainGlobals "len" = some none)
    (z_list : PySem.W.nsIn K mainGlobals "list" = some none)
    (z_range : PySem.W.nsIn K mainGlobals "range" = some none)
    (z_str : PySem.W.nsIn K mainGlobals "str" = some none)
    (z_tuple : PySem.W.nsIn K mainGlobals "tuple" = some none)
    (z_zip : PySem.W.nsIn K mainGlobals "zip" = some none)
    (q_KEYWORDS : PySem.W.nsIn K mainGlobals "KEYWORDS" = some (some (.ref p_KEYWORDS))) (m_KEYWORDS : K.lookup p_KEYWORDS = some ⟨.type "tuple", dd_KEYWORDS, .seq #[.str "options" t_KEYWORDS_0, .str "part" t_KEYWORDS_1, .str "let" t_KEYWORDS_2, .str "vote" t_KEYWORDS_3, .str "over" t_KEYWORDS_4, .str "else" t_KEYWORDS_5, .str "end" t_KEYWORDS_6, .str "if" t_KEYWORDS_7, .str "is" t_KEYWORDS_8, .str "repeat" t_KEYWORDS_9, .str "take" t_KEYWORDS_10] nn_KEYWORDS, sl_KEYWORDS⟩)
    (q_LETTERS : PySem.W.nsIn K mainGlobals "LETTERS" = some (some (.str "abcdefghijklmnopqrstuvwxyz" t_LETTERS)))
    (q_LONGEST_NAME : PySem.W.nsIn K mainGlobals "LONGEST_NAME" = some (some (.int 8 t_LONGEST_NAME)))
    (q_NAME_SIGNS : PySem.W.nsIn K mainGlobals "NAME_SIGNS" = some (some (.str "abcdefghijklmnopqrstuvwxyz0123456789" t_NAME_SIGNS)))
    : ∃ fd : FuncData, (∀ (s : Shared) (v : Value), BindsTo s fd ⟨[v], []⟩ [("script", v)]) ∧ ∀ base : Heap, K.In base → base.Ns mainGlobals mg → FnOk l.prog w K mg base (L2.CX l.prog w) 5 fa fd ["script"] (spM K 1 r_law) := by
  have e := hfa.symm.trans (PySem.W.mg_of X G a17)
  cases e
  have Z : Zs mg := ⟨PySem.W.mg_none_of X G z_abs, PySem.W.mg_none_of X G z_bool, PySem.W.mg_none_of X G z_enumerate, PySem.W.mg_none_of X G z_int, PySem.W.mg_none_of X G z_isinstance, PySem.W.mg_none_of X G z_len, PySem.W.mg_none_of X G z_list, PySem.W.mg_none_of X G z_range, PySem.W.mg_none_of X G z_str, PySem.W.mg_none_of X G z_tuple, PySem.W.mg_none_of X G z_zip⟩
  have C : Cs K mg := ⟨hasC_tup (vs := [.str "options", .str "part", .str "let", .str "vote", .str "over", .str "else", .str "end", .str "if", .str "is", .str "repeat", .str "take"]) X G q_KEYWORDS m_KEYWORDS (by show 11 ≤ sizeLine; decide) (.cons ⟨_, rfl⟩ (.cons ⟨_, rfl⟩ (.cons ⟨_, rfl⟩ (.cons ⟨_, rfl⟩ (.cons ⟨_, rfl⟩ (.cons ⟨_, rfl⟩ (.cons ⟨_, rfl⟩ (.cons ⟨_, rfl⟩ (.cons ⟨_, rfl⟩ (.cons ⟨_, rfl⟩ (.cons ⟨_, rfl⟩ .nil))))))))))) (fun _ _ => (.cons vr_str (.cons vr_str (.cons vr_str (.cons vr_str (.cons vr_str (.cons vr_str (.cons vr_str (.cons vr_str (.cons vr_str (.cons vr_str (.cons vr_str .nil)))))))))))), hasC_str X G q_LETTERS, hasC_int X G q_LONGEST_NAME, hasC_str X G q_NAME_SIGNS⟩
  refine ⟨PySem.W.fnOf "law" "law" (defArgs s_law) (defBody s_law) (defScope s_law) .none kV17 dc17 pm17 an17 cd17 ct17, fun s v => .of_eq rfl, fun base _ _ => ?_⟩
  have F1 := fun_mk (st := s__law_pool) l1 c1 k1
  have b1 := F1.binds (ps := ["script"]) fun _ _ _ _ _ _ us hl => match us, hl with | [_], _ => rfl
  have H__law_pool : HasF l.prog w K mg base 1 "_law_pool" 1 r__law_pool := ⟨f1, _, _, ok__law_pool F1 Z C , PySem.W.mg_of X G a1, k1, b1⟩
  have F2 := fun_mk (st := s__law_same) l2 c2 k2
  have b2 := F2.binds (ps := ["told", "due"]) fun _ _ _ _ _ _ us hl => match us, hl with | [_, _], _ => rfl
  have H__law_same : HasF l.prog w K mg base 1 "_law_same" 2 r__law_same := ⟨f2, _, _, ok__law_same F2 Z C , PySem.W.mg_of X G a2, k2, b2⟩
  have H__law_same : HasF l.prog w K mg base 1 "_law_same" 2 (sp_same) := H__law_same.tells fun ds h hl => same_tells ds h hl
  have F3 := fun_mk (st := s__law_take) l3 c3 k3
  have b3 := F3.binds (ps := ["pool", "many"]) fun _ _ _ _ _ _ us hl => match us, hl with | [_, _], _ => rfl
  have H__law_take : HasF l.prog w K mg base 1 "_law_take" 2 r__law_take := ⟨f3, _, _, ok__law_take F3 Z C , PySem.W.mg_of X G a3, k3, b3⟩
  have F4 := fun_mk (st := s__law_word) l4 c4 k4
  have b4 := F4.binds (ps := ["pool"]) fun _ _ _ _ _ _ us hl => match us, hl with | [_], _ => rfl
  have H__law_word : HasF l.prog w K mg base 2 "_law_word" 1 r__law_word := ⟨f4, _, _, ok__law_word F4 Z C H__law_take, PySem.W.mg_of X G a4, k4, b4⟩
  have F5 := fun_mk (st := s__law_line) l5 c5 k5
  have b5 := F5.binds (ps := ["pool"]) fun _ _ _ _ _ _ us hl => match us, hl with | [_], _ => rfl
  have H__law_line : HasF l.prog w K mg base 3 "_law_line" 1 r__law_line := ⟨f5, _, _, ok__law_line F5 Z C H__law_take H__law_word, PySem.W.mg_of X G a5, k5, b5⟩
  have F6 := fun_mk (st := s__law_words) l6 c6 k6
  have b6 := F6.binds (ps := ["line"]) fun _ _ _ _ _ _ us hl => match us, hl with | [_], _ => rfl
  have H__law_words : HasF l.prog w K mg base 1 "_law_words" 1 r__law_words := ⟨f6, _, _, ok__law_words F6 Z C , PySem.W.mg_of X G a6, k6, b6⟩
  have H__law_words : HasF l.prog w K mg base 1 "_law_words" 1 (sp_words) := H__law_words.tells fun ds h hl => law_words_tells ds h hl
  have F7 := fun_mk (st := s_words_of_line) l7 c7 k7
  have b7 := F7.binds (ps := ["line"]) fun _ _ _ _ _ _ us hl => match us, hl with | [_], _ => rfl
  have H_words_of_line : HasF l.prog w K mg base 1 "words_of_line" 1 r_words_of_line := ⟨f7, _, _, ok_words_of_line F7 Z C , PySem.W.mg_of X G a7, k7, b7⟩
  have F8 := fun_mk (st := s_words_of) l8 c8 k8
  have b8 := F8.binds (ps := ["line"]) fun _ _ _ _ _ _ us hl => match us, hl with | [_], _ => rfl
  have H_words_of : HasF l.prog w K mg base 2 "words_of" 1 r_words_of := ⟨f8, _, _, ok_words_of F8 Z C H_words_of_line, PySem.W.mg_of X G a8, k8, b8⟩
  have F9 := fun_mk (st := s_lines_of) l9 c9 k9
  have b9 := F9.binds (ps := ["text"]) fun _ _ _ _ _ _ us hl => match us, hl with | [_], _ => rfl
  have H_lines_of : HasF l.prog w K mg base 1 "lines_of" 1 r_lines_of := ⟨f9, _, _, ok_lines_of F9 Z C , PySem.W.mg_of X G a9, k9, b9⟩
  have H_lines_of : HasF l.prog w K mg base 1 "lines_of" 1 (sp_lines) := H_lines_of.tells fun ds h hl => lines_tells ds h hl
  have F10 := fun_mk (st := s_is_passed_over) l10 c10 k10
  have b10 := F10.binds (ps := ["words"]) fun _ _ _ _ _ _ us hl => match us, hl with | [_], _ => rfl
  have H_is_passed_over : HasF l.prog w K mg base 1 "is_passed_over" 1 r_is_passed_over := ⟨f10, _, _, ok_is_passed_over F10 Z C , PySem.W.mg_of X G a10, k10, b10⟩
  have F11 := fun_mk (st := s_read_lines) l11 c11 k11
  have b11 := F11.binds (ps := ["text"]) fun _ _ _ _ _ _ us hl => match us, hl with | [_], _ => rfl
  have H_read_lines : HasF l.prog w K mg base 2 "read_lines" 1 r_read_lines := ⟨f11, _, _, ok_read_lines F11 Z C H_lines_of H_words_of_line H_is_passed_over, PySem.W.mg_of X G a11, k11, b11⟩
  have H_read_lines : HasF l.prog w K mg base 2 "read_lines" 1 (sp_read) := H_read_lines.tells fun ds h hl => (read_tells (fun l h hl => by have := run_wol (toS l) h (by rw [toS_len]; exact hl); simpa using this) (fun ws h hw => run_passed hw)) ds h hl
  have F12 := fun_mk (st := s_source_lines) l12 c12 k12
  have b12 := F12.binds (ps := ["text"]) fun _ _ _ _ _ _ us hl => match us, hl with | [_], _ => rfl
  have H_source_lines : HasF l.prog w K mg base 3 "source_lines" 1 r_source_lines := ⟨f12, _, _, ok_source_lines F12 Z C H_read_lines, PySem.W.mg_of X G a12, k12, b12⟩
  have F13 := fun_mk (st := s__law_source) l13 c13 k13
  have b13 := F13.binds (ps := ["text"]) fun _ _ _ _ _ _ us hl => match us, hl with | [_], _ => rfl
  have H__law_source : HasF l.prog w K mg base 2 "_law_source" 1 r__law_source := ⟨f13, _, _, ok__law_source F13 Z C H__law_words, PySem.W.mg_of X G a13, k13, b13⟩
  have H__law_source : HasF l.prog w K mg base 2 "_law_source" 1 (sp_source) := H__law_source.tells fun ds h hl => law_source_tells ds h hl
  have F14 := fun_mk (st := s_is_name) l14 c14 k14
  have b14 := F14.binds (ps := ["thing"]) fun _ _ _ _ _ _ us hl => match us, hl with | [_], _ => rfl
  have H_is_name : HasF l.prog w K mg base 1 "is_name" 1 r_is_name := ⟨f14, _, _, ok_is_name F14 Z C , PySem.W.mg_of X G a14, k14, b14⟩
  have F15 := fun_mk (st := s__law_is_name) l15 c15 k15
  have b15 := F15.binds (ps := ["thing"]) fun _ _ _ _ _ _ us hl => match us, hl with | [_], _ => rfl
  have H__law_is_name : HasF l.prog w K mg base 1 "_law_is_name" 1 r__law_is_name := ⟨f15, _, _, ok__law_is_name F15 Z C , PySem.W.mg_of X G a15, k15, b15⟩
  have F16 := fun_mk (st := s__law_asked) l16 c16 k16
  have b16 := F16.binds (ps := ["pool"]) fun _ _ _ _ _ _ us hl => match us, hl with | [_], _ => rfl
  have H__law_asked : HasF l.prog w K mg base 4 "_law_asked" 1 r__law_asked := ⟨f16, _, _, ok__law_asked F16 Z C H__law_take H__law_line H__law_same H_words_of H__law_words H_is_name H__law_is_name H_source_lines H__law_source, PySem.W.mg_of X G a16, k16, b16⟩
  have F17 := fun_mk (st := s_law) l17 c17 k17
  exact ok_law F17 Z C H__law_pool H__law_asked H__law_take H__law_same H_is_name H__law_is_name H_source_lines H__law_source H_words_of
theorem vrs_ints {K : PySem.W.Frag} {ι : List Addr} {H : Hp} : ∀ ns : List Int, VRs K ι H (ns.map D.int) (ns.map V.int)
  | [] => .nil
  | n :: ns => .cons vr_int (vrs_ints ns)
theorem law_sp {K : PySem.W.Frag} {H : Hp} {a : Addr} {ns : List Int} (hS : SqL K H a (ns.map V.int)) (hr : ∃ h', r_law [.fl (ns.map D.int)] [] = .ok (.bl true, h')) : spM K 1 r_law [.ref a] H (fun v _ => v = .bl true) fun _ _ _ => False := by
  refine ⟨[], [], [.fl (ns.map D.int)], ⟨List.nodup_nil, rfl, fun n o e => by simp at e⟩, .single ?_, rfl, ?_⟩
  · unfold VR
    refine ⟨a, ns.map V.int, rfl, ?_, vrs_ints ns⟩
    rcases hS with h | h
    · exact .inl ⟨by simp, h⟩
    · exact .inr fun H' => .inr h
  · obtain ⟨h', e⟩ := hr
    rw [e]
    intro v ι' H' _ r _
    unfold VR at r
    exact r
theorem law_true (ns : List Int) : ∃ h', r_law [.fl (ns.map D.int)] [] = .ok (.bl true, h') := by
  have hT : HT r__law_take := fun h n many p m0 m1 => take_run h n many p m0 m1
  have hW : HW r__law_word := run_word hT
  have hL : HL r__law_line := run_line hT hW
  have hWo : HWo r_words_of := fun s h hs => run_words_of (run_wol s h hs)
  have hN : HN r_is_name := fun d h hd => run_is_name hd
  have hN' : HN r__law_is_name := fun d h hd => run_law_is_name hd
  have hSo : HSo r_source_lines := fun s h hs => run_source hs
  have hA : HA r__law_asked := fun h n p => by
    obtain ⟨h', e, p', _⟩ := run_asked hT hL hWo hN hN' hSo h p
    exact ⟨h', e, p'⟩
  exact run_law run_pool hA hT hN hN' hSo hWo ns []
end K01
open PySem PySem.W PyProof.Rows
set_option maxHeartbeats 0 in
theorem PySem.Challenge.cw_votesaswritten_k01_names_words_lines_holds : PySem.Challenge.rw_votesaswritten_k01_names_words_lines.Holds := by
  w_on; o_law; k_head; (case hw => w_witness2)
  k_fill
  refine L2.walk_of (l := PySem.Challenge.rw_votesaswritten_k01_names_words_lines) (n := 63) (k := 5) (x := "script") (CX := fun w => L2.CX (PySem.Challenge.rw_votesaswritten_k01_names_words_lines).prog w) (sp := fun w => Mir.spM _ 1 K01.r_law) rfl (by decide) rfl ⟨rfl, by decide, by decide⟩ (fun w h Y => PySem.W.kIn_of Y) ?F (fun _ _ a ns hl _ hS => K01.law_sp hS (K01.law_true ns)) (fun _ _ _ _ _ ⟨_, _, _, _, _, _, _, _, _, _, _, _, z⟩ => z)
  case F =>
    intro w mg fa h KX G hmg
    refine' K01.all_mk KX G hmg ?a1 ?l1 ?c1 ?k1 ?a2 ?l2 ?c2 ?k2 ?a3 ?l3 ?c3 ?k3 ?a4 ?l4 ?c4 ?k4 ?a5 ?l5 ?c5 ?k5 ?a6 ?l6 ?c6 ?k6 ?a7 ?l7 ?c7 ?k7 ?a8 ?l8 ?c8 ?k8 ?a9 ?l9 ?c9 ?k9 ?a10 ?l10 ?c10 ?k10 ?a11 ?l11 ?c11 ?k11 ?a12 ?l12 ?c12 ?k12 ?a13 ?l13 ?c13 ?k13 ?a14 ?l14 ?c14 ?k14 ?a15 ?l15 ?c15 ?k15 ?a16 ?l16 ?c16 ?k16 ?a17 ?l17 ?c17 ?k17 ?z_abs ?z_bool ?z_enumerate ?z_int ?z_isinstance ?z_len ?z_list ?z_range ?z_str ?z_tuple ?z_zip ?q_KEYWORDS ?m_KEYWORDS ?q_LETTERS ?q_LONGEST_NAME ?q_NAME_SIGNS
    (case a1 => k_is); (case l1 => k_is); (case c1 => k_is); (case k1 => k_is); (case a2 => k_is); (case l2 => k_is); (case c2 => k_is); (case k2 => k_is); (case a3 => k_is); (case l3 => k_is); (case c3 => k_is); (case k3 => k_is); (case a4 => k_is); (case l4 => k_is); (case c4 => k_is); (case k4 => k_is); (case a5 => k_is); (case l5 => k_is); (case c5 => k_is); (case k5 => k_is); (case a6 => k_is); (case l6 => k_is); (case c6 => k_is); (case k6 => k_is); (case a7 => k_is); (case l7 => k_is); (case c7 => k_is); (case k7 => k_is); (case a8 => k_is); (case l8 => k_is); (case c8 => k_is); (case k8 => k_is); (case a9 => k_is); (case l9 => k_is); (case c9 => k_is); (case k9 => k_is); (case a10 => k_is); (case l10 => k_is); (case c10 => k_is); (case k10 => k_is); (case a11 => k_is); (case l11 => k_is); (case c11 => k_is); (case k11 => k_is); (case a12 => k_is); (case l12 => k_is); (case c12 => k_is); (case k12 => k_is); (case a13 => k_is); (case l13 => k_is); (case c13 => k_is); (case k13 => k_is); (case a14 => k_is); (case l14 => k_is); (case c14 => k_is); (case k14 => k_is); (case a15 => k_is); (case l15 => k_is); (case c15 => k_is); (case k15 => k_is); (case a16 => k_is); (case l16 => k_is); (case c16 => k_is); (case k16 => k_is); (case a17 => k_is); (case l17 => k_is); (case c17 => k_is); (case k17 => k_is); (case z_abs => k_is); (case z_bool => k_is); (case z_enumerate => k_is); (case z_int => k_is); (case z_isinstance => k_is); (case z_len => k_is); (case z_list => k_is); (case z_range => k_is); (case z_str => k_is); (case z_tuple => k_is); (case z_zip => k_is); (case q_KEYWORDS => k_is); (case m_KEYWORDS => k_is); (case q_LETTERS => k_is); (case q_LONGEST_NAME => k_is); (case q_NAME_SIGNS => k_is)
