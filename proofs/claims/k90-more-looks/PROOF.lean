import PyProof.Rows.All
import Wide.All
import OpenK.AllK
import Wide.FinOn
import HandS.ForMost
import HandS.Walk
import HandS.Wide
import HandS.IsInst
import HandS.Deep
import HandS.TupLe
import HandS.Zip
import HandS.More
import HandS.Defaults
import PySem.Challenge.RW_bestheads_k90_whole_more_looks_tell_no_l
import KE.KStateDown
import HandS.Head0
import HandS.Head1
import HandS.Head2
import HandS.HeadEnd
import HandS.HeadHook1
import HandS.HeadHook2
import HandS.HeadHook3
import HandS.HeadHook4
import PyProof.Rows.ReprOcc
import PyProof.ReprBulk
set_option Elab.async false
set_option linter.all false
set_option maxRecDepth 100000
set_option maxHeartbeats 4000000
/-! DL1: the frozen heap within the heap, data in variables, what a reading makes of data. -/
namespace DL
open PySem PySem.Spec PyProof.Rows L2

/-! heaps -/
theorem same_new {H : Hp} {p : Addr} {o : HO} (h : H p = none) : Same H (upd H p o) := fun _ _ e => by
  rw [upd_ne (ne_of_none e h)]
  exact e
theorem same_upd2 {F H : Hp} {p : Addr} {o : HO} (s : Same F H) : Same (upd F p o) (upd H p o) := fun b x e => by
  by_cases hb : b = p
  · subst hb
    rw [upd_same] at e ⊢
    exact e
  · rw [upd_ne hb] at e ⊢
    exact s b x e
theorem same_mut {F H : Hp} {p : Addr} {o : HO} (s : Same F H) (h : F p = none) : Same F (upd H p o) := fun b x e => by
  rw [upd_ne (ne_of_none e h)]
  exact s b x e
theorem ne_none {H : Hp} {a : Addr} {o : HO} (h : H a = some o) : H a ≠ none := fun z => by
  rw [h] at z
  cases z

/-- from (F, H) to (F', H'): both grow, what stood unfrozen stays unfrozen -/
structure Go (F H F' H' : Hp) : Prop where
  f : Same F F'
  h : Same H H'
  s : Same F' H'
  sep : ∀ a, H a ≠ none → F a = none → F' a = none
theorem Go.refl {F H : Hp} (s : Same F H) : Go F H F H := ⟨Same.refl F, Same.refl H, s, fun _ _ h => h⟩
theorem Same.nn {H H' : Hp} (e : Same H H') {a : Addr} (h : H a ≠ none) : H' a ≠ none := by
  cases q : H a with
  | none => exact absurd q h
  | some o => exact ne_none (e a o q)
theorem Go.trans {F H F1 H1 F2 H2 : Hp} (a : Go F H F1 H1) (b : Go F1 H1 F2 H2) : Go F H F2 H2 :=
  ⟨a.f.trans b.f, a.h.trans b.h, b.s, fun x h q => b.sep x (Same.nn a.h h) (a.sep x h q)⟩
theorem Go.new {F H : Hp} {p : Addr} {o : HO} (s : Same F H) (h : H p = none) : Go F H (upd F p o) (upd H p o) :=
  ⟨same_new (s.free h), same_new h, same_upd2 s, fun a n q => by
    have : a ≠ p := fun z => n (by rw [z]; exact h)
    rw [upd_ne this]
    exact q⟩
theorem Go.newH {F H : Hp} {p : Addr} {o : HO} (s : Same F H) (h : H p = none) : Go F H F (upd H p o) :=
  ⟨Same.refl F, same_new h, same_mut s (s.free h), fun _ _ q => q⟩
/-- an object of H' that was not in H is frozen -/
theorem Go.freeze {F H F' H' : Hp} {p : Addr} {o : HO} (g : Go F H F' H') (h : H p = none) (h1 : F' p = none) (h2 : H' p = some o) : Go F H (upd F' p o) H' :=
  ⟨g.f.trans (same_new h1), g.h, fun b x e => by
    by_cases hb : b = p
    · subst hb
      rw [upd_same] at e
      rw [← e]
      exact h2
    · rw [upd_ne hb] at e
      exact g.s b x e, fun a n q => by
    have : a ≠ p := fun z => n (by rw [z]; exact h)
    rw [upd_ne this]
    exact g.sep a n q⟩

theorem sqt_mono {K : PySem.W.Frag} {H H' : Hp} {a : Addr} {xs : List V} (e : Same H H') (h : SqT K H a xs) : SqT K H' a xs := by
  rcases h with (h | ⟨o, h⟩) | h
  · exact .inl (.inl (e _ _ h))
  · exact .inl (.inr ⟨o, e _ _ h⟩)
  · exact .inr h

/-- data at a value: lists tracked as they are, tuples tracked or written; the script's list (never changed, of ints) goes as a dict with its ints as keys -/
def scrD (ns : List Int) : PyData := .dict (ns.map fun n => (.int n, .none))
mutual
inductive Dq (K : PySem.W.Frag) (H : Hp) : V → PyData → Prop
  | non : Dq K H .non .none
  | bl (b : Bool) : Dq K H (.bl b) (.bool b)
  | int (i : Int) : Dq K H (.int i) (.int i)
  | str (x : Str) : Dq K H (.str x) (.str x)
  | lst {a : Addr} {xs : List V} {ds : List PyData} : H a = some (.lst xs) → DqAll K H xs ds → Dq K H (.ref a) (.list ds)
  | tup {a : Addr} {xs : List V} {ds : List PyData} : SqT K H a xs → DqAll K H xs ds → Dq K H (.ref a) (.tuple ds)
  | scr {a : Addr} {ns : List Int} : SqL K H a (ns.map V.int) → Dq K H (.ref a) (scrD ns)
inductive DqAll (K : PySem.W.Frag) (H : Hp) : List V → List PyData → Prop
  | nil : DqAll K H [] []
  | cons {v : V} {vs : List V} {d : PyData} {ds : List PyData} : Dq K H v d → DqAll K H vs ds → DqAll K H (v :: vs) (d :: ds)
end
section
variable {K : PySem.W.Frag} {F F' : Hp}
theorem scr_mono (e : Same F F') {v : V} {kvs : List (PyData × PyData)} (h : Dq K F v (.dict kvs)) : Dq K F' v (.dict kvs) := by
  generalize hd : PyData.dict kvs = d at h ⊢
  cases h with
  | scr hs => exact .scr (e.seq hs)
  | _ => cases hd
mutual
theorem dp_mono (e : Same F F') : ∀ (d : PyData) (v : V), Dq K F v d → Dq K F' v d
  | .none, _, h => by cases h; exact .non
  | .bool b, _, h => by cases h; exact .bl b
  | .int i, _, h => by cases h; exact .int i
  | .str x, _, h => by cases h; exact .str x
  | .list ds, _, h => by
    cases h with
    | lst hs ha => exact .lst (e _ _ hs) (dpAll_mono e ds _ ha)
  | .tuple ds, _, h => by
    cases h with
    | tup hs ha => exact .tup (sqt_mono e hs) (dpAll_mono e ds _ ha)
  | .dict _, _, h => scr_mono e h
theorem dpAll_mono (e : Same F F') : ∀ (ds : List PyData) (vs : List V), DqAll K F vs ds → DqAll K F' vs ds
  | [], _, h => by cases h; exact .nil
  | d :: ds, _, h => by
    cases h with
    | cons h1 h2 => exact .cons (dp_mono e d _ h1) (dpAll_mono e ds _ h2)
end
theorem Dq.mono (e : Same F F') {d : PyData} {v : V} (h : Dq K F v d) : Dq K F' v d := dp_mono e d v h
theorem DqAll.mono (e : Same F F') {ds : List PyData} {vs : List V} (h : DqAll K F vs ds) : DqAll K F' vs ds := dpAll_mono e ds vs h
theorem DqAll.len : ∀ {vs : List V} {ds : List PyData}, DqAll K F vs ds → vs.length = ds.length
  | _, _, .nil => rfl
  | _, _, .cons _ h => congrArg (· + 1) (DqAll.len h)
theorem DqAll.get : ∀ {vs : List V} {ds : List PyData} {i : Nat} {d : PyData}, DqAll K F vs ds → ds[i]? = some d → ∃ v, vs[i]? = some v ∧ Dq K F v d
  | _, _, _, _, .nil, e => by simp at e
  | _, _, 0, d, .cons r _, e => by
    simp at e
    subst e
    exact ⟨_, rfl, r⟩
  | _, _, i + 1, d, .cons _ t, e => by
    obtain ⟨v, h1, h2⟩ := DqAll.get (i := i) (d := d) t (by simpa using e)
    exact ⟨v, by simpa using h1, h2⟩
theorem DqAll.app : ∀ {vs ws : List V} {ds es : List PyData}, DqAll K F vs ds → DqAll K F ws es → DqAll K F (vs ++ ws) (ds ++ es)
  | _, _, _, _, .nil, h => h
  | _, _, _, _, .cons r t, h => .cons r (DqAll.app t h)
theorem DqAll.one {v : V} {d : PyData} (h : Dq K F v d) : DqAll K F [v] [d] := .cons h .nil
theorem DqAll.tk : ∀ {vs : List V} {ds : List PyData} (n : Nat), DqAll K F vs ds → DqAll K F (vs.take n) (ds.take n)
  | _, _, 0, _ => .nil
  | _, _, _ + 1, .nil => .nil
  | _, _, n + 1, .cons r t => .cons r (DqAll.tk n t)
theorem DqAll.dr : ∀ {vs : List V} {ds : List PyData} (n : Nat), DqAll K F vs ds → DqAll K F (vs.drop n) (ds.drop n)
  | _, _, 0, h => h
  | _, _, _ + 1, .nil => .nil
  | _, _, n + 1, .cons _ t => DqAll.dr n t
theorem DqAll.st : ∀ {vs : List V} {ds : List PyData} {v : V} {d : PyData} (i : Nat), DqAll K F vs ds → Dq K F v d → DqAll K F (vs.set i v) (ds.set i d)
  | _, _, _, _, _, .nil, _ => .nil
  | _, _, _, _, 0, .cons _ t, h => .cons h t
  | _, _, _, _, i + 1, .cons r t, h => .cons r (DqAll.st i t h)
mutual
theorem dq_dp : ∀ (d : PyData) (v : V), d.canLay0 = true → Dq K F v d → Dp K F v d
  | .none, _, _, h => by cases h; exact .non
  | .bool b, _, _, h => by cases h; exact .bl b
  | .int i, _, _, h => by cases h; exact .int i
  | .str x, _, _, h => by cases h; exact .str x
  | .list ds, _, c, h => by
    have c' : PyData.canLayAll0 ds = true := by simpa [PyData.canLay0] using c
    cases h with
    | lst hs ha => exact .lst (SqL.of hs) (dqAll_dp ds _ c' ha)
  | .tuple ds, _, c, h => by
    have c' : PyData.canLayAll0 ds = true := by simpa [PyData.canLay0] using c
    cases h with
    | tup hs ha => exact .tup hs (dqAll_dp ds _ c' ha)
  | .dict _, _, c, _ => by simp [PyData.canLay0] at c
theorem dqAll_dp : ∀ (ds : List PyData) (vs : List V), PyData.canLayAll0 ds = true → DqAll K F vs ds → DpAll K F vs ds
  | [], _, _, h => by cases h; exact .nil
  | d :: ds, _, c, h => by
    have c' : d.canLay0 = true ∧ PyData.canLayAll0 ds = true := by simpa [PyData.canLayAll0] using c
    cases h with
    | cons h1 h2 => exact .cons (dq_dp d _ c'.1 h1) (dqAll_dp ds _ c'.2 h2)
end
theorem dp_two {v : V} {d e : PyData} {P : Prop} (k : ∀ a x y, v = .ref a → SqT K F a [x, y] → Dq K F x d → Dq K F y e → P) (h : Dq K F v (.tuple [d, e])) : P := by
  cases h with
  | tup hs ha =>
    cases ha with
    | cons h1 h2 =>
      cases h2 with
      | cons h3 h4 =>
        cases h4
        exact k _ _ _ rfl hs h1 h3
end

/-! variables -/
/-- what a slot holds: nothing known; data, frozen; a fresh list of data that only this slot knows -/
inductive DV where
  | no
  | val (d : PyData)
  | own (ds : List PyData)
abbrev DEnv := List DV

structure Sd (K : PySem.W.Frag) (H0 F H : Hp) (σ : L2.St) (δ : DEnv) : Prop where
  len : σ.length = δ.length
  sub : Same F H
  val : ∀ (i : Nat) (d : PyData), δ[i]? = some (DV.val d) → ∃ v, σ[i]? = some (some v) ∧ Dq K F v d
  own : ∀ (i : Nat) (ds : List PyData), δ[i]? = some (DV.own ds) → ∃ a vs, σ[i]? = some (some (V.ref a)) ∧ H a = some (.lst vs) ∧ F a = none ∧ H0 a = none ∧ DqAll K F vs ds
  inj : ∀ (i j : Nat) (a : Addr) (ds es : List PyData), δ[i]? = some (DV.own ds) → δ[j]? = some (DV.own es) → σ[i]? = some (some (V.ref a)) → σ[j]? = some (some (V.ref a)) → i = j

section
variable {K : PySem.W.Frag} {H0 F H F' H' : Hp} {σ : L2.St} {δ : DEnv}
theorem Sd.go (S : Sd K H0 F H σ δ) (g : Go F H F' H') : Sd K H0 F' H' σ δ :=
  ⟨S.len, g.s, fun i d e => let ⟨v, h1, h2⟩ := S.val i d e; ⟨v, h1, Dq.mono g.f h2⟩,
    fun i ds e => let ⟨a, vs, h1, h2, h3, h4, h5⟩ := S.own i ds e; ⟨a, vs, h1, g.h a _ h2, g.sep a (ne_none h2) h3, h4, DqAll.mono g.f h5⟩, S.inj⟩
theorem getElem?_set_cases {α : Type} {l : List α} {i j : Nat} {x y : α} (h : (l.set i x)[j]? = some y) : (j = i ∧ y = x ∧ i < l.length) ∨ (j ≠ i ∧ l[j]? = some y) := by
  by_cases e : j = i
  · subst e
    by_cases hl : j < l.length
    · rw [List.getElem?_set_self hl] at h
      exact .inl ⟨rfl, (Option.some.inj h).symm, hl⟩
    · rw [List.getElem?_eq_none (by simpa using hl)] at h
      cases h
  · rw [List.getElem?_set_ne (Ne.symm e)] at h
    exact .inr ⟨e, h⟩
/-- a slot gets data -/
theorem Sd.put (S : Sd K H0 F H σ δ) {i : Nat} {v : V} {d : PyData} (h : Dq K F v d) : Sd K H0 F H (σ.set i (some v)) (δ.set i (.val d)) := by
  refine ⟨by rw [List.length_set, List.length_set]; exact S.len, S.sub, fun j e hj => ?_, fun j ds hj => ?_, fun j k a ds es hj hk h1 h2 => ?_⟩
  · rcases getElem?_set_cases hj with ⟨rfl, he, hl⟩ | ⟨hne, hj⟩
    · cases he
      exact ⟨v, List.getElem?_set_self (by rw [S.len]; exact hl), h⟩
    · obtain ⟨u, h1, h2⟩ := S.val j e hj
      exact ⟨u, by rw [List.getElem?_set_ne (Ne.symm hne)]; exact h1, h2⟩
  · rcases getElem?_set_cases hj with ⟨rfl, he, hl⟩ | ⟨hne, hj⟩
    · cases he
    · obtain ⟨a, vs, h1, h2⟩ := S.own j ds hj
      exact ⟨a, vs, by rw [List.getElem?_set_ne (Ne.symm hne)]; exact h1, h2⟩
  · rcases getElem?_set_cases hj with ⟨rfl, he, hl⟩ | ⟨hne, hj⟩
    · cases he
    rcases getElem?_set_cases hk with ⟨rfl, he, hl⟩ | ⟨hnk, hk⟩
    · cases he
    rw [List.getElem?_set_ne (Ne.symm hne)] at h1
    rw [List.getElem?_set_ne (Ne.symm hnk)] at h2
    exact S.inj j k a ds es hj hk h1 h2
/-- a slot gets a fresh list -/
theorem Sd.putOwn (S : Sd K H0 F H σ δ) (b : Same H0 H) (g : Go F H F' H') {i : Nat} {p : Addr} {vs : List V} {ds : List PyData} (h0 : H p = none) (h1 : F' p = none) (h2 : H' p = some (.lst vs)) (h3 : DqAll K F' vs ds) :
    Sd K H0 F' H' (σ.set i (some (.ref p))) (δ.set i (.own ds)) := by
  have T := S.go g
  have hp : ∀ j es a, δ[j]? = some (DV.own es) → σ[j]? = some (some (V.ref a)) → a ≠ p := fun j es a hj hs z => by
    obtain ⟨a', vs', e1, e2, _⟩ := S.own j es hj
    rw [hs] at e1
    have e3 : a = a' := by
      have := Option.some.inj (Option.some.inj e1)
      exact V.ref.inj this
    rw [← e3, z, h0] at e2
    cases e2
  refine ⟨by rw [List.length_set, List.length_set]; exact S.len, g.s, fun j e hj => ?_, fun j es hj => ?_, fun j k a es fs hj hk e1 e2 => ?_⟩
  · rcases getElem?_set_cases hj with ⟨rfl, he, hl⟩ | ⟨hne, hj⟩
    · cases he
    · obtain ⟨u, q1, q2⟩ := T.val j e hj
      exact ⟨u, by rw [List.getElem?_set_ne (Ne.symm hne)]; exact q1, q2⟩
  · rcases getElem?_set_cases hj with ⟨rfl, he, hl⟩ | ⟨hne, hj⟩
    · cases he
      exact ⟨p, vs, List.getElem?_set_self (by rw [S.len]; exact hl), h2, h1, b.free h0, h3⟩
    · obtain ⟨a, ws, q1, q2⟩ := T.own j es hj
      exact ⟨a, ws, by rw [List.getElem?_set_ne (Ne.symm hne)]; exact q1, q2⟩
  · rcases getElem?_set_cases hj with ⟨rfl, he, hl⟩ | ⟨hne, hj⟩
    · rcases getElem?_set_cases hk with ⟨rfl, he', hl'⟩ | ⟨hnk, hk⟩
      · rfl
      · rw [List.getElem?_set_self (by rw [S.len]; exact hl)] at e1
        rw [List.getElem?_set_ne (Ne.symm hnk)] at e2
        have : a = p := (V.ref.inj (Option.some.inj (Option.some.inj e1))).symm
        exact absurd this (hp k fs a hk e2)
    · rw [List.getElem?_set_ne (Ne.symm hne)] at e1
      rcases getElem?_set_cases hk with ⟨ek, he', hl'⟩ | ⟨hnk, hk⟩
      · rw [ek, List.getElem?_set_self (by rw [S.len]; exact hl')] at e2
        have : a = p := (V.ref.inj (Option.some.inj (Option.some.inj e2))).symm
        exact absurd this (hp j es a hj e1)
      · rw [List.getElem?_set_ne (Ne.symm hnk)] at e2
        exact S.inj j k a es fs hj hk e1 e2
/-- an owned list is changed -/
theorem Sd.mut (S : Sd K H0 F H σ δ) {i : Nat} {a : Addr} {ds es : List PyData} {ws : List V} (hi : δ[i]? = some (DV.own ds)) (ha : σ[i]? = some (some (V.ref a))) (hf : F a = none) (h0 : H0 a = none) (hd : DqAll K F ws es) :
    Sd K H0 F (upd H a (.lst ws)) σ (δ.set i (.own es)) := by
  have hil : i < δ.length := (List.getElem?_eq_some_iff.mp hi).1
  refine ⟨by rw [List.length_set]; exact S.len, same_mut S.sub hf, fun j e hj => ?_, fun j fs hj => ?_, fun j k b fs gs hj hk e1 e2 => ?_⟩
  · rcases getElem?_set_cases hj with ⟨rfl, he, hl⟩ | ⟨hne, hj⟩
    · cases he
    · exact S.val j e hj
  · rcases getElem?_set_cases hj with ⟨rfl, he, hl⟩ | ⟨hne, hj⟩
    · cases he
      exact ⟨a, ws, ha, upd_same, hf, h0, hd⟩
    · obtain ⟨b, us, q1, q2, q3, q4, q5⟩ := S.own j fs hj
      have nb : b ≠ a := fun z => hne (by subst z; exact S.inj j i b fs ds hj hi q1 ha)
      exact ⟨b, us, q1, by rw [upd_ne nb]; exact q2, q3, q4, q5⟩
  · have old : ∀ {j fs}, (δ.set i (DV.own es))[j]? = some (DV.own fs) → ∃ fs', δ[j]? = some (DV.own fs') := fun {j fs} hj => by
      rcases getElem?_set_cases hj with ⟨rfl, he, hl⟩ | ⟨hne, hj⟩
      · exact ⟨ds, hi⟩
      · exact ⟨fs, hj⟩
    obtain ⟨fs', hj'⟩ := old hj
    obtain ⟨gs', hk'⟩ := old hk
    exact S.inj j k b fs' gs' hj' hk' e1 e2
theorem Go.mut {F0 : Hp} (g : Go F0 H0 F H) {a : Addr} {o : HO} (hf : F a = none) (h0 : H0 a = none) : Go F0 H0 F (upd H a o) :=
  ⟨g.f, same_mut g.h h0, same_mut g.s hf, g.sep⟩
/-- an owned list is frozen -/
def frz1 (i : Nat) (δ : DEnv) : DEnv := match δ[i]? with
  | some (DV.own ds) => δ.set i (.val (.list ds))
  | _ => δ
def frz (is : List Nat) (δ : DEnv) : DEnv := is.foldl (fun δ i => frz1 i δ) δ
theorem Sd.frz1 {F0 : Hp} (S : Sd K H0 F H σ δ) (g : Go F0 H0 F H) (i : Nat) : ∃ F', Sd K H0 F' H σ (frz1 i δ) ∧ Go F0 H0 F' H ∧ Same F F' := by
  unfold DL.frz1
  split
  · rename_i ds hi
    obtain ⟨a, vs, h1, h2, h3, h4, h5⟩ := S.own i ds hi
    have sF : Same F (upd F a (.lst vs)) := same_new h3
    have G : Go F0 H0 (upd F a (.lst vs)) H := g.freeze h4 h3 h2
    refine ⟨upd F a (.lst vs), ?_, G, sF⟩
    have D : Dq K (upd F a (.lst vs)) (.ref a) (.list ds) := .lst upd_same (DqAll.mono sF h5)
    have hil : i < δ.length := (List.getElem?_eq_some_iff.mp hi).1
    refine ⟨by rw [List.length_set]; exact S.len, G.s, fun j e hj => ?_, fun j fs hj => ?_, fun j k b fs gs hj hk e1 e2 => ?_⟩
    · rcases getElem?_set_cases hj with ⟨rfl, he, hl⟩ | ⟨hne, hj⟩
      · cases he
        exact ⟨_, h1, D⟩
      · obtain ⟨u, q1, q2⟩ := S.val j e hj
        exact ⟨u, q1, Dq.mono sF q2⟩
    · rcases getElem?_set_cases hj with ⟨rfl, he, hl⟩ | ⟨hne, hj⟩
      · cases he
      · obtain ⟨b, us, q1, q2, q3, q4, q5⟩ := S.own j fs hj
        have nb : b ≠ a := fun z => hne (by subst z; exact S.inj j i b fs ds hj hi q1 h1)
        exact ⟨b, us, q1, q2, by rw [upd_ne nb]; exact q3, q4, DqAll.mono sF q5⟩
    · rcases getElem?_set_cases hj with ⟨rfl, he, hl⟩ | ⟨hne, hj⟩
      · cases he
      rcases getElem?_set_cases hk with ⟨rfl, he, hl⟩ | ⟨hnk, hk⟩
      · cases he
      exact S.inj j k b fs gs hj hk e1 e2
  · exact ⟨F, S, g, Same.refl F⟩
theorem Sd.frz {F0 : Hp} : ∀ (is : List Nat) {F : Hp} {δ : DEnv}, Sd K H0 F H σ δ → Go F0 H0 F H → ∃ F', Sd K H0 F' H σ (DL.frz is δ) ∧ Go F0 H0 F' H ∧ Same F F'
  | [], F, _, S, g => ⟨F, S, g, Same.refl F⟩
  | i :: is, F, δ, S, g => by
    obtain ⟨F1, S1, g1, s1⟩ := S.frz1 g i
    obtain ⟨F2, S2, g2, s2⟩ := Sd.frz is S1 g1
    exact ⟨F2, S2, g2, s1.trans s2⟩
/-- the slots of a comprehension's names forgotten -/
def wipeD (δ : DEnv) : List Nat → DEnv
  | [] => δ
  | v :: vs => (wipeD δ vs).set v .no
theorem Sd.forget (S : Sd K H0 F H σ δ) (i : Nat) (x : Option V) : Sd K H0 F H (σ.set i x) (δ.set i .no) := by
  refine ⟨by rw [List.length_set, List.length_set]; exact S.len, S.sub, fun j e hj => ?_, fun j fs hj => ?_, fun j k b fs gs hj hk e1 e2 => ?_⟩
  · rcases getElem?_set_cases hj with ⟨rfl, he, hl⟩ | ⟨hne, hj⟩
    · cases he
    · obtain ⟨u, q1, q2⟩ := S.val j e hj
      exact ⟨u, by rw [List.getElem?_set_ne (Ne.symm hne)]; exact q1, q2⟩
  · rcases getElem?_set_cases hj with ⟨rfl, he, hl⟩ | ⟨hne, hj⟩
    · cases he
    · obtain ⟨a, ws, q1, q2⟩ := S.own j fs hj
      exact ⟨a, ws, by rw [List.getElem?_set_ne (Ne.symm hne)]; exact q1, q2⟩
  · rcases getElem?_set_cases hj with ⟨rfl, he, hl⟩ | ⟨hne, hj⟩
    · cases he
    rcases getElem?_set_cases hk with ⟨rfl, he, hl⟩ | ⟨hnk, hk⟩
    · cases he
    rw [List.getElem?_set_ne (Ne.symm hne)] at e1
    rw [List.getElem?_set_ne (Ne.symm hnk)] at e2
    exact S.inj j k b fs gs hj hk e1 e2
theorem Sd.wipe (S : Sd K H0 F H σ δ) : ∀ vs : List Nat, Sd K H0 F H (L2.wipe σ vs) (wipeD δ vs)
  | [] => S
  | v :: vs => (Sd.wipe S vs).forget v none
end

/-! what a reading makes of data -/
abbrev FE := DEnv → Option PyData
abbrev FT := DEnv → Option Bool
abbrev FA := DEnv → Option (List PyData)
section
variable (K : PySem.W.Frag)
/-- an expression's reading gives f's data -/
def ED (te : TE) (f : FE) : Prop := ∀ (H0 : Hp) (σ : L2.St) (δ : DEnv) (F H : Hp) (d : PyData), Sd K H0 F H σ δ → f δ = some d → ∀ Q : VK, (∀ v F' H', Go F H F' H' → Dq K F' v d → Q v H') → te σ H Q
def ET (tt : TT) (f : FT) : Prop := ∀ (H0 : Hp) (σ : L2.St) (δ : DEnv) (F H : Hp) (b : Bool), Sd K H0 F H σ δ → f δ = some b → ∀ Q : Bool → Hp → Prop, (∀ F' H', Go F H F' H' → Q b H') → tt σ H Q
def EA (ta : TA) (f : FA) : Prop := ∀ (H0 : Hp) (σ : L2.St) (δ : DEnv) (F H : Hp) (ds : List PyData), Sd K H0 F H σ δ → f δ = some ds → ∀ Q : List V → Hp → Prop, (∀ vs F' H', Go F H F' H' → DqAll K F' vs ds → Q vs H') → ta σ H Q
/-- a fresh list -/
def EL (te : TE) (f : FA) : Prop := ∀ (H0 : Hp) (σ : L2.St) (δ : DEnv) (F H : Hp) (ds : List PyData), Sd K H0 F H σ δ → f δ = some ds →
  ∀ Q : VK, (∀ p vs F' H', Go F H F' H' → H p = none → F' p = none → H' p = some (.lst vs) → DqAll K F' vs ds → Q (.ref p) H') → te σ H Q
/-- operations by values -/
def RD (r : R2) (g : PyData → PyData → Option PyData) : Prop := ∀ (F H : Hp) (x y : V) (d e z : PyData), Same F H → Dq K F x d → Dq K F y e → g d e = some z → ∀ Q : VK, (∀ v F' H', Go F H F' H' → Dq K F' v z → Q v H') → r x y H Q
def RU (r : V → Hp → VK → Prop) (g : PyData → Option PyData) : Prop := ∀ (F H : Hp) (x : V) (d z : PyData), Same F H → Dq K F x d → g d = some z → ∀ Q : VK, (∀ v F' H', Go F H F' H' → Dq K F' v z → Q v H') → r x H Q
def RC (r : List V → Hp → VK → Prop) (g : List PyData → Option PyData) : Prop := ∀ (F H : Hp) (xs : List V) (ds : List PyData) (z : PyData), Same F H → DqAll K F xs ds → g ds = some z → ∀ Q : VK, (∀ v F' H', Go F H F' H' → Dq K F' v z → Q v H') → r xs H Q
end
def f2 (g : PyData → PyData → Option PyData) (a b : FE) : FE := fun δ => (a δ).bind fun x => (b δ).bind fun y => g x y
def f1 (g : PyData → Option PyData) (a : FE) : FE := fun δ => (a δ).bind g
def fVar (i : Nat) : FE := fun δ => match δ[i]? with
  | some (DV.val d) => some d
  | _ => none
def fC (d : PyData) : FE := fun _ => some d
def fNil : FA := fun _ => some []
def fCons (a : FE) (r : FA) : FA := fun δ => (a δ).bind fun x => (r δ).bind fun xs => some (x :: xs)
def fCall (g : List PyData → Option PyData) (r : FA) : FE := fun δ => (r δ).bind g
def fTup (r : FA) : FE := fun δ => (r δ).bind fun xs => if xs.length ≤ 1000 then some (.tuple xs) else none
def fLstN (r : FA) : FA := fun δ => (r δ).bind fun xs => if xs.length ≤ 1000 then some xs else none
def fList (f : FA) : FE := fun δ => (f δ).bind fun xs => some (.list xs)
def fIf (t : FT) (a b : FE) : FE := fun δ => (t δ).bind fun c => match c with
  | true => a δ
  | false => b δ
def fAnd (a b : FE) : FE := fun δ => (a δ).bind fun x => match x with
  | .bool true => b δ
  | .bool false => some (.bool false)
  | _ => none
def fOr (a b : FE) : FE := fun δ => (a δ).bind fun x => match x with
  | .bool true => some (.bool true)
  | .bool false => b δ
  | _ => none
def fNot (a : FE) : FE := fun δ => (a δ).bind fun x => match x with
  | .bool b => some (.bool (!b))
  | _ => none
def bOf (a : FE) : FT := fun δ => (a δ).bind fun x => match x with
  | .bool b => some b
  | _ => none
def bAnd (a b : FT) : FT := fun δ => (a δ).bind fun c => match c with
  | true => b δ
  | false => some false
def bOr (a b : FT) : FT := fun δ => (a δ).bind fun c => match c with
  | true => some true
  | false => b δ
def bNot (a : FT) : FT := fun δ => (a δ).bind fun c => some (!c)
def bYes : FT := fun _ => some true

section
variable {K : PySem.W.Frag} {ta tb te : TE} {tl tr : TA} {t u : TT} {fa fb fe : FE} {ga gb : FT} {ra rb : FA}
theorem bind_some {α β : Type} {o : Option α} {g : α → Option β} {z : β} (h : o.bind g = some z) : ∃ x, o = some x ∧ g x = some z := Option.bind_eq_some_iff.mp h
theorem ed_var {i : Nat} : ED K (tVar i) (fVar i) := fun H0 σ δ F H d S h Q q => by
  unfold fVar at h
  split at h
  · rename_i e hi
    cases h
    obtain ⟨v, h1, h2⟩ := S.val i d hi
    exact ⟨v, h1, q v F H (Go.refl S.sub) h2⟩
  · cases h
theorem ed_c {v : V} {d : PyData} (h : ∀ F : Hp, Dq K F v d) : ED K (tC v) (fC d) := fun H0 σ δ F H e S he Q q => by
  cases he
  exact q v F H (Go.refl S.sub) (h F)
theorem ed_op {r : R2} {g : PyData → PyData → Option PyData} (ha : ED K ta fa) (hb : ED K tb fb) (hr : RD K r g) : ED K (tOp r ta tb) (f2 g fa fb) := fun H0 σ δ F H z S h Q q => by
  obtain ⟨x, hx, h⟩ := bind_some h
  obtain ⟨y, hy, h⟩ := bind_some h
  exact ha H0 σ δ F H x S hx _ fun v F1 H1 g1 d1 => hb H0 σ δ F1 H1 y (S.go g1) hy _ fun w F2 H2 g2 d2 =>
    hr F2 H2 v w x y z g2.s (Dq.mono g2.f d1) d2 h _ fun u F3 H3 g3 d3 => q u F3 H3 ((g1.trans g2).trans g3) d3
theorem ed_un {r : V → Hp → VK → Prop} {g : PyData → Option PyData} (ha : ED K ta fa) (hr : RU K r g) : ED K (tUn r ta) (f1 g fa) := fun H0 σ δ F H z S h Q q => by
  obtain ⟨x, hx, h⟩ := bind_some h
  exact ha H0 σ δ F H x S hx _ fun v F1 H1 g1 d1 => hr F1 H1 v x z g1.s d1 h _ fun u F3 H3 g3 d3 => q u F3 H3 (g1.trans g3) d3
theorem ea_nil : EA K tNil fNil := fun H0 σ δ F H z S h Q q => by
  cases h
  exact q [] F H (Go.refl S.sub) .nil
theorem ea_cons (ha : ED K ta fa) (hr : EA K tr ra) : EA K (tCons ta tr) (fCons fa ra) := fun H0 σ δ F H z S h Q q => by
  obtain ⟨x, hx, h⟩ := bind_some h
  obtain ⟨y, hy, h⟩ := bind_some h
  cases h
  exact ha H0 σ δ F H x S hx _ fun v F1 H1 g1 d1 => hr H0 σ δ F1 H1 y (S.go g1) hy _ fun w F2 H2 g2 d2 => q (v :: w) F2 H2 (g1.trans g2) (.cons (Dq.mono g2.f d1) d2)
theorem ed_cb {r : List V → Hp → VK → Prop} {g : List PyData → Option PyData} (ha : EA K tl ra) (hr : RC K r g) : ED K (tCB r tl) (fCall g ra) := fun H0 σ δ F H z S h Q q => by
  obtain ⟨x, hx, h⟩ := bind_some h
  exact ha H0 σ δ F H x S hx _ fun v F1 H1 g1 d1 => hr F1 H1 v x z g1.s d1 h _ fun u F3 H3 g3 d3 => q u F3 H3 (g1.trans g3) d3
theorem small_line {n : Nat} (h : n ≤ 1000) : n ≤ sizeLine := Nat.le_of_lt (small1000 h)
theorem ed_tup (ha : EA K tl ra) : ED K (tTup tl) (fTup ra) := fun H0 σ δ F H z S h Q q => by
  obtain ⟨x, hx, h⟩ := bind_some h
  split at h
  · rename_i hl
    cases h
    refine ha H0 σ δ F H x S hx _ fun vs F1 H1 g1 d1 => ⟨?_, fun p hp => ?_⟩
    · rw [DqAll.len d1]
      exact small_line hl
    · have s1 : Same F1 (upd F1 p (.tup vs)) := same_new (g1.s.free hp)
      exact q (.ref p) _ _ (g1.trans (Go.new g1.s hp)) (.tup (SqT.of upd_same) (DqAll.mono s1 d1))
  · cases h
theorem el_lst (ha : EA K tl ra) : EL K (tLst tl) (fLstN ra) := fun H0 σ δ F H z S h Q q => by
  obtain ⟨x, hx, h⟩ := bind_some h
  split at h
  · rename_i hl
    cases h
    refine ha H0 σ δ F H _ S hx _ fun vs F1 H1 g1 d1 => ⟨?_, fun p hp => ?_⟩
    · rw [DqAll.len d1]
      exact small_line hl
    · exact q p vs F1 _ (g1.trans (Go.newH g1.s hp)) (g1.h.free hp) (g1.s.free hp) upd_same d1
  · cases h
theorem ed_list (ha : EL K te ra) : ED K te (fList ra) := fun H0 σ δ F H z S h Q q => by
  obtain ⟨x, hx, h⟩ := bind_some h
  cases h
  refine ha H0 σ δ F H x S hx _ fun p vs F1 H1 g1 h0 h1 h2 d1 => ?_
  exact q (.ref p) (upd F1 p (.lst vs)) H1 (g1.freeze h0 h1 h2) (.lst upd_same (DqAll.mono (same_new h1) d1))
theorem et_test (ha : ED K ta fa) : ET K (tTest ta) (bOf fa) := fun H0 σ δ F H z S h Q q => by
  obtain ⟨x, hx, h⟩ := bind_some h
  split at h
  · cases h
    refine ha H0 σ δ F H _ S hx _ fun v F1 H1 g1 d1 => ?_
    cases d1
    exact ⟨z, rfl, q F1 H1 g1⟩
  · cases h
theorem et_B (ha : ED K ta fa) : ET K (tB ta) (bOf fa) := fun H0 σ δ F H z S h Q q => by
  obtain ⟨x, hx, h⟩ := bind_some h
  split at h
  · cases h
    refine ha H0 σ δ F H _ S hx _ fun v F1 H1 g1 d1 => ?_
    cases d1
    exact ⟨z, rfl, q F1 H1 g1⟩
  · cases h
theorem et_yes : ET K tYes bYes := fun H0 σ δ F H z S h Q q => by
  cases h
  exact q F H (Go.refl S.sub)
theorem et_and (ha : ET K t ga) (hb : ET K u gb) : ET K (tAnd t u) (bAnd ga gb) := fun H0 σ δ F H z S h Q q => by
  obtain ⟨x, hx, h⟩ := bind_some h
  refine ha H0 σ δ F H x S hx _ fun F1 H1 g1 => ?_
  cases x with
  | true => exact hb H0 σ δ F1 H1 z (S.go g1) h Q fun F2 H2 g2 => q F2 H2 (g1.trans g2)
  | false =>
    cases h
    exact q F1 H1 g1
theorem et_or (ha : ET K t ga) (hb : ET K u gb) : ET K (tOr t u) (bOr ga gb) := fun H0 σ δ F H z S h Q q => by
  obtain ⟨x, hx, h⟩ := bind_some h
  refine ha H0 σ δ F H x S hx _ fun F1 H1 g1 => ?_
  cases x with
  | false => exact hb H0 σ δ F1 H1 z (S.go g1) h Q fun F2 H2 g2 => q F2 H2 (g1.trans g2)
  | true =>
    cases h
    exact q F1 H1 g1
theorem et_not (ha : ET K t ga) : ET K (tNot t) (bNot ga) := fun H0 σ δ F H z S h Q q => by
  obtain ⟨x, hx, h⟩ := bind_some h
  cases h
  exact ha H0 σ δ F H x S hx _ fun F1 H1 g1 => q F1 H1 g1
theorem ed_if (ht : ET K t ga) (ha : ED K ta fa) (hb : ED K tb fb) : ED K (tIf t ta tb) (fIf ga fa fb) := fun H0 σ δ F H z S h Q q => by
  obtain ⟨x, hx, h⟩ := bind_some h
  refine ht H0 σ δ F H x S hx _ fun F1 H1 g1 => ?_
  cases x with
  | true => exact ha H0 σ δ F1 H1 z (S.go g1) h Q fun v F2 H2 g2 d => q v F2 H2 (g1.trans g2) d
  | false => exact hb H0 σ δ F1 H1 z (S.go g1) h Q fun v F2 H2 g2 d => q v F2 H2 (g1.trans g2) d
theorem ed_and (ha : ED K ta fa) (hb : ED K tb fb) : ED K (tAndV ta tb) (fAnd fa fb) := fun H0 σ δ F H z S h Q q => by
  obtain ⟨x, hx, h⟩ := bind_some h
  refine ha H0 σ δ F H x S hx _ fun v F1 H1 g1 d1 => ?_
  split at h
  · cases d1
    exact ⟨true, rfl, hb H0 σ δ F1 H1 z (S.go g1) h Q fun v F2 H2 g2 d => q v F2 H2 (g1.trans g2) d⟩
  · cases d1
    cases h
    exact ⟨false, rfl, q _ F1 H1 g1 (.bl false)⟩
  · cases h
theorem ed_or (ha : ED K ta fa) (hb : ED K tb fb) : ED K (tOrV ta tb) (fOr fa fb) := fun H0 σ δ F H z S h Q q => by
  obtain ⟨x, hx, h⟩ := bind_some h
  refine ha H0 σ δ F H x S hx _ fun v F1 H1 g1 d1 => ?_
  split at h
  · cases d1
    cases h
    exact ⟨true, rfl, q _ F1 H1 g1 (.bl true)⟩
  · cases d1
    exact ⟨false, rfl, hb H0 σ δ F1 H1 z (S.go g1) h Q fun v F2 H2 g2 d => q v F2 H2 (g1.trans g2) d⟩
  · cases h
theorem ed_not (ha : ED K ta fa) : ED K (tNotV ta) (fNot fa) := fun H0 σ δ F H z S h Q q => by
  obtain ⟨x, hx, h⟩ := bind_some h
  refine ha H0 σ δ F H x S hx _ fun v F1 H1 g1 d1 => ?_
  split at h
  · cases d1
    cases h
    exact ⟨_, rfl, q _ F1 H1 g1 (.bl _)⟩
  · cases h
end
end DL

set_option Elab.async false
set_option linter.all false
set_option maxRecDepth 100000
set_option maxHeartbeats 4000000
set_option exponentiation.threshold 2000
/-! DL2: the operations on data. -/
namespace DL
open PySem PySem.Spec PyProof.Rows L2

/-! ### what the operations make of data -/
def ints? : List PyData → Option (List Int)
  | [] => some []
  | .int i :: r => (ints? r).bind fun ns => some (i :: ns)
  | _ :: _ => none
def bools? : List PyData → Option (List Bool)
  | [] => some []
  | .bool b :: r => (bools? r).bind fun bs => some (b :: bs)
  | _ :: _ => none
def addD : PyData → PyData → Option PyData
  | .int i, .int j => some (.int (i + j))
  | .list xs, .list ys => if xs.length + ys.length ≤ 1000 then some (.list (xs ++ ys)) else none
  | _, _ => none
def subD : PyData → PyData → Option PyData
  | .int i, .int j => some (.int (i - j))
  | _, _ => none
def mulOk (i j : Int) : Prop := i.natAbs < 2 ^ 60 ∨ j.natAbs < 2 ^ 60 ∨ (i.natAbs < 2 ^ 1000 ∧ j.natAbs < 2 ^ 1000)
instance (i j : Int) : Decidable (mulOk i j) := by unfold mulOk; infer_instance
def mulD : PyData → PyData → Option PyData
  | .int i, .int j => if mulOk i j then some (.int (i * j)) else none
  | .list xs, .int k => if xs.length ≤ 100 ∧ 0 ≤ k ∧ k ≤ 100 then some (.list (List.replicate k.toNat xs).flatten) else none
  | _, _ => none
def divD : PyData → PyData → Option PyData
  | .int i, .int j => if 0 < j ∧ j < 2 ^ 1000 then some (.int (i / j)) else none
  | _, _ => none
def modD : PyData → PyData → Option PyData
  | .int i, .int j => if 0 < j then some (.int (i % j)) else none
  | _, _ => none
def powD : PyData → PyData → Option PyData
  | .int i, .int j => if 0 ≤ j ∧ j ≤ 1000 ∧ i.natAbs < 2 ^ 60 then some (.int (i ^ j.toNat)) else none
  | _, _ => none
def negD : PyData → Option PyData
  | .int i => some (.int (-i))
  | _ => none
def eqD (x y : PyData) : Option PyData := if SeqAt.shaped x = true ∧ SeqAt.shaped y = true then some (.bool (PyData.eqv x y)) else none
def neD (x y : PyData) : Option PyData := if SeqAt.shaped x = true ∧ SeqAt.shaped y = true then some (.bool (!PyData.eqv x y)) else none
def ltD : PyData → PyData → Option PyData
  | .int i, .int j => some (.bool (decide (i < j)))
  | _, _ => none
def gtD : PyData → PyData → Option PyData
  | .int i, .int j => some (.bool (decide (j < i)))
  | _, _ => none
def geD : PyData → PyData → Option PyData
  | .int i, .int j => some (.bool (decide (j ≤ i)))
  | _, _ => none
def lexD (ns ms : List Int) : Bool := Ob.lexAt (fun j => decide (ns.getD j 0 = ms.getD j 0)) (fun j => decide (ns.getD j 0 ≤ ms.getD j 0)) (decide (ns.length ≤ ms.length)) 0 (min ns.length ms.length)
def leD : PyData → PyData → Option PyData
  | .int i, .int j => some (.bool (decide (i ≤ j)))
  | .tuple xs, .tuple ys => (ints? xs).bind fun ns => (ints? ys).bind fun ms => some (.bool (lexD ns ms))
  | _, _ => none
def inD (x : PyData) : PyData → Option PyData
  | .list ds => if SeqAt.shaped x = true ∧ SeqAt.shaped (.list ds) = true then some (.bool (ds.any fun z => PyData.eqv z x)) else none
  | .tuple ds => if SeqAt.shaped x = true ∧ SeqAt.shaped (.tuple ds) = true then some (.bool (ds.any fun z => PyData.eqv z x)) else none
  | _ => none
def notInD (x : PyData) : PyData → Option PyData
  | .list ds => if SeqAt.shaped x = true ∧ SeqAt.shaped (.list ds) = true then some (.bool (!ds.any fun z => PyData.eqv z x)) else none
  | _ => none
def isN (d : PyData) : Bool := match d with
  | .none => true
  | _ => false
def isNoneD (d : PyData) : Option PyData := some (.bool (isN d))
def notNoneD (d : PyData) : Option PyData := some (.bool (!isN d))
def isBlD : PyData → PyData → Option PyData
  | .bool a, .bool b => some (.bool (decide (a = b)))
  | _, _ => none
def ixD : PyData → PyData → Option PyData
  | .list ds, .int i => atI ds i
  | .tuple ds, .int i => atI ds i
  | .dict kvs, .int i => (atI kvs i).map (·.1)
  | _, _ => none
/-- x[:n] -/
def toD : PyData → PyData → Option PyData
  | .list ds, .int n => if 0 ≤ n then some (.list (ds.take n.toNat)) else none
  | .tuple ds, .int n => if 0 ≤ n ∧ n < ds.length then some (.tuple (ds.take n.toNat)) else none
  | _, _ => none
def lenD : List PyData → Option PyData
  | [.list ds] => some (.int (ds.length : Nat))
  | [.tuple ds] => some (.int (ds.length : Nat))
  | [.dict kvs] => some (.int (kvs.length : Nat))
  | _ => none
def absD : List PyData → Option PyData
  | [.int i] => some (.int (if i < 0 then -i else i))
  | _ => none
def minD : List PyData → Option PyData
  | [.int i, .int j] => some (.int (if j < i then j else i))
  | _ => none
def allD : List PyData → Option PyData
  | [.list ds] => (bools? ds).bind fun bs => some (.bool (bs.all id))
  | _ => none
def sumD : List PyData → Option PyData
  | [.list ds] => (ints? ds).bind fun ns => some (.int ns.sum)
  | _ => none
def sortI (ns : List Int) : List Int := ns.mergeSort fun a b => decide (a ≤ b)
def sortedD : List PyData → Option PyData
  | [.list ds] => (ints? ds).bind fun ns => if ns.length < 64 then some (.list ((sortI ns).map PyData.int)) else none
  | _ => none
def setLenD : PyData → Option PyData
  | .list ds => (ints? ds).bind fun ns => if ns.Nodup ∧ ns.length ≤ 4000 then some (.int (ns.length : Nat)) else none
  | _ => none
def isiD (T : String) (d : PyData) : Option PyData := match d with
  | .none => some (.bool false)
  | .bool _ => some (.bool (T == "bool" || T == "int"))
  | .int _ => some (.bool (T == "int"))
  | .str _ => some (.bool (T == "str"))
  | .list _ => some (.bool (T == "list"))
  | .tuple _ => some (.bool (T == "tuple"))
  | .dict _ => none

section
variable {K : PySem.W.Frag} {F H : Hp}
theorem ints_of : ∀ {ds : List PyData} {ns : List Int} {vs : List V}, ints? ds = some ns → DqAll K F vs ds → vs = ns.map V.int
  | [], ns, vs, h, d => by
    cases h
    cases d
    rfl
  | x :: ds, ns, vs, h, d => by
    cases x with
    | int i =>
      obtain ⟨ms, h1, h2⟩ := bind_some h
      cases h2
      cases d with
      | cons d1 d2 =>
        cases d1
        rw [ints_of h1 d2]
        rfl
    | _ => cases h
theorem ints_map : ∀ {ds : List PyData} {ns : List Int}, ints? ds = some ns → ds = ns.map PyData.int
  | [], ns, h => by cases h; rfl
  | x :: ds, ns, h => by
    cases x with
    | int i =>
      obtain ⟨ms, h1, h2⟩ := bind_some h
      cases h2
      rw [ints_map h1]
      rfl
    | _ => cases h
theorem ints_make : ∀ ns : List Int, ints? (ns.map PyData.int) = some ns
  | [] => rfl
  | n :: ns => by
    show (ints? (ns.map PyData.int)).bind _ = _
    rw [ints_make ns]
    rfl
theorem bools_of : ∀ {ds : List PyData} {ns : List Bool} {vs : List V}, bools? ds = some ns → DqAll K F vs ds → vs = ns.map V.bl
  | [], ns, vs, h, d => by
    cases h
    cases d
    rfl
  | x :: ds, ns, vs, h, d => by
    cases x with
    | bool i =>
      obtain ⟨ms, h1, h2⟩ := bind_some h
      cases h2
      cases d with
      | cons d1 d2 =>
        cases d1
        rw [bools_of h1 d2]
        rfl
    | _ => cases h
theorem bools_make : ∀ ns : List Bool, bools? (ns.map PyData.bool) = some ns
  | [] => rfl
  | n :: ns => by
    show (bools? (ns.map PyData.bool)).bind _ = _
    rw [bools_make ns]
    rfl
theorem dq_ints : ∀ {ns : List Int}, DqAll K F (ns.map V.int) (ns.map PyData.int)
  | [] => .nil
  | n :: ns => .cons (.int n) dq_ints
/-! shapes of values -/
theorem Dq.i {v : V} {i : Int} (h : Dq K F v (.int i)) : v = .int i := by cases h; rfl
theorem Dq.b {v : V} {b : Bool} (h : Dq K F v (.bool b)) : v = .bl b := by cases h; rfl
theorem Dq.l {v : V} {ds : List PyData} (h : Dq K F v (.list ds)) : ∃ a xs, v = .ref a ∧ F a = some (.lst xs) ∧ DqAll K F xs ds := by
  cases h with
  | lst h1 h2 => exact ⟨_, _, rfl, h1, h2⟩
theorem Dq.t {v : V} {ds : List PyData} (h : Dq K F v (.tuple ds)) : ∃ a xs, v = .ref a ∧ SqT K F a xs ∧ DqAll K F xs ds := by
  cases h with
  | tup h1 h2 => exact ⟨_, _, rfl, h1, h2⟩
theorem Dq.s {v : V} {kvs : List (PyData × PyData)} (h : Dq K F v (.dict kvs)) : ∃ a ns, v = .ref a ∧ kvs = List.map (fun n => (PyData.int n, PyData.none)) ns ∧ SqL K F a (ns.map V.int) := by
  generalize hd : PyData.dict kvs = d at h
  cases h with
  | scr hs =>
    unfold scrD at hd
    injection hd with hd
    exact ⟨_, _, rfl, hd, hs⟩
  | _ => cases hd
theorem Dq.non_iff {v : V} {d : PyData} (h : Dq K F v d) : decide (v = .non) = isN d := by
  generalize hd : d = e at h ⊢
  cases h with
  | scr hs => rfl
  | _ => rfl
/-! numbers -/
theorem rd_ii {g : Int → Int → V} {C : Int → Int → Prop} {G : PyData → PyData → Option PyData} {w : Int → Int → PyData}
    (hG : ∀ d e z, G d e = some z → ∃ i j, d = .int i ∧ e = .int j ∧ C i j ∧ z = w i j) (hw : ∀ (i j : Int) (F : Hp), Dq K F (g i j) (w i j)) : RD K (rI C g) G := fun F H x y d e z s dx dy h Q q => by
  obtain ⟨i, j, rfl, rfl, hc, rfl⟩ := hG d e z h
  exact ⟨i, j, dx.i, dy.i, hc, q _ F H (Go.refl s) (hw i j F)⟩
theorem rd_ii0 {g : Int → Int → V} {G : PyData → PyData → Option PyData} {w : Int → Int → PyData}
    (hG : ∀ d e z, G d e = some z → ∃ i j, d = .int i ∧ e = .int j ∧ z = w i j) (hw : ∀ (i j : Int) (F : Hp), Dq K F (g i j) (w i j)) : RD K (rI0 g) G := fun F H x y d e z s dx dy h Q q => by
  obtain ⟨i, j, rfl, rfl, rfl⟩ := hG d e z h
  exact ⟨i, j, dx.i, dy.i, q _ F H (Go.refl s) (hw i j F)⟩
theorem rd_sub : RD K (rI0 fun i j => .int (i - j)) subD := rd_ii0 (w := fun i j => .int (i - j)) (fun d e z h => by
  unfold subD at h
  split at h
  · cases h; exact ⟨_, _, rfl, rfl, rfl⟩
  · cases h) fun i j F => .int _
theorem rd_lt : RD K (rI0 fun i j => .bl (decide (i < j))) ltD := rd_ii0 (w := fun i j => .bool (decide (i < j))) (fun d e z h => by
  unfold ltD at h
  split at h
  · cases h; exact ⟨_, _, rfl, rfl, rfl⟩
  · cases h) fun i j F => .bl _
theorem rd_gt : RD K (rI0 fun i j => .bl (decide (j < i))) gtD := rd_ii0 (w := fun i j => .bool (decide (j < i))) (fun d e z h => by
  unfold gtD at h
  split at h
  · cases h; exact ⟨_, _, rfl, rfl, rfl⟩
  · cases h) fun i j F => .bl _
theorem rd_ge : RD K (rI0 fun i j => .bl (decide (j ≤ i))) geD := rd_ii0 (w := fun i j => .bool (decide (j ≤ i))) (fun d e z h => by
  unfold geD at h
  split at h
  · cases h; exact ⟨_, _, rfl, rfl, rfl⟩
  · cases h) fun i j F => .bl _
theorem log2_of {n : Nat} (h : n < 2 ^ 1000) : n.log2 < 1000 := PySem.Flt.log2_lt_of (by decide) h
theorem rd_div : RD K (rI CDivW fun i j => .int (i / j)) divD := rd_ii (w := fun i j => .int (i / j)) (fun d e z h => by
  unfold divD at h
  split at h
  · split at h
    · rename_i i j hc
      cases h
      have hj : j.natAbs < 2 ^ 1000 := by
        have h1 := hc.1
        have h2 := hc.2
        have e : (j.natAbs : Int) = j := by omega
        have : (j.natAbs : Int) < ((2 ^ 1000 : Nat) : Int) := by rw [e]; exact_mod_cast h2
        exact Int.ofNat_lt.mp this
      exact ⟨_, _, rfl, rfl, ⟨hc.1, Nat.lt_trans (log2_of hj) (by decide)⟩, rfl⟩
    · cases h
  · cases h) fun i j F => .int _
theorem rd_mod : RD K (rI (fun _ j => 0 < j) fun i j => .int (i % j)) modD := rd_ii (w := fun i j => .int (i % j)) (fun d e z h => by
  unfold modD at h
  split at h
  · split at h
    · rename_i i j hc
      cases h
      exact ⟨_, _, rfl, rfl, hc, rfl⟩
    · cases h
  · cases h) fun i j F => .int _
theorem rd_pow : RD K (rI CPow fun i j => .int (i ^ j.toNat)) powD := rd_ii (w := fun i j => .int (i ^ j.toNat)) (fun d e z h => by
  unfold powD at h
  split at h
  · split at h
    · rename_i i j hc
      cases h
      exact ⟨_, _, rfl, rfl, ⟨hc.1, by omega, Nat.lt_trans hc.2.2 (by decide)⟩, rfl⟩
    · cases h
  · cases h) fun i j F => .int _
/-- either rule -/
def rOr (r r' : R2) : R2 := fun x y H Q => r x y H Q ∨ r' x y H Q
theorem op_or {X : Cx} {f : Value → Value → Sem Value} {r r' : R2} (h : OpR X f r) (h' : OpR X f r') : OpR X f (rOr r r') := by
  intro pins s σ H x y v u Q I rx ry q
  rcases q with q | q
  · exact h pins s σ H x y v u Q I rx ry q
  · exact h' pins s σ H x y v u Q I rx ry q
theorem rd_add : RD K (rOr (rI0 fun i j => .int (i + j)) rCat) addD := fun F H x y d e z s dx dy h Q q => by
  unfold addD at h
  split at h
  · cases h
    exact .inl ⟨_, _, dx.i, dy.i, q _ F H (Go.refl s) (.int _)⟩
  · split at h
    · rename_i hl
      cases h
      obtain ⟨a, xs, rfl, h1, h2⟩ := dx.l
      obtain ⟨b, ys, rfl, h3, h4⟩ := dy.l
      refine .inr ⟨a, b, xs, ys, rfl, rfl, s a _ h1, s b _ h3, ?_, fun p hp => ?_⟩
      · rw [DqAll.len h2, DqAll.len h4]
        exact small_line hl
      · exact q _ _ _ (Go.new s hp) (.lst upd_same (DqAll.mono (same_new (s.free hp)) (DqAll.app h2 h4)))
    · cases h
  · cases h
def CMulD (i j : Int) : Prop := IntMulOk i j
theorem mulOk_ok {i j : Int} (h : mulOk i j) : IntMulOk i j := by
  rcases h with h | h | ⟨h1, h2⟩
  · exact CMul.ok (.inl ⟨by omega, by omega⟩)
  · exact CMul.ok (.inr ⟨by omega, by omega⟩)
  · exact CMulW.ok (wide_mul h1 h2 (by decide) (by decide) (by decide))
theorem op_mulD {X : Cx} : OpR X (binaryOp .Mult) (rI CMulD fun i j => .int (i * j)) := opI fun _ _ _ _ _ _ _ hc q => mul_int q hc
theorem DqAll.rep {vs : List V} {ds : List PyData} (h : DqAll K F vs ds) : ∀ k : Nat, DqAll K F (List.replicate k vs).flatten (List.replicate k ds).flatten
  | 0 => .nil
  | k + 1 => by
    rw [List.replicate_succ, List.replicate_succ, List.flatten_cons, List.flatten_cons]
    exact DqAll.app h (DqAll.rep h k)
theorem rd_mul : RD K (rOr (rI CMulD fun i j => .int (i * j)) rRep) mulD := fun F H x y d e z s dx dy h Q q => by
  unfold mulD at h
  split at h
  · split at h
    · rename_i hc
      cases h
      exact .inl ⟨_, _, dx.i, dy.i, mulOk_ok hc, q _ F H (Go.refl s) (.int _)⟩
    · cases h
  · split at h
    · rename_i ds k hc
      cases h
      obtain ⟨a, xs, rfl, h1, h2⟩ := dx.l
      refine .inr ⟨a, k, xs, rfl, dy.i, s a _ h1, by omega, by omega, ?_, fun p hp => ?_⟩
      · rw [DqAll.len h2]
        have h5 : ds.length * k.toNat ≤ 100 * 100 := Nat.mul_le_mul hc.1 (by omega)
        exact Nat.le_trans h5 (by decide)
      · exact q _ _ _ (Go.new s hp) (.lst upd_same (DqAll.mono (same_new (s.free hp)) (DqAll.rep h2 _)))
    · cases h
  · cases h
theorem ru_neg : RU K (rU fun i => .int (-i)) negD := fun F H x d z s dx h Q q => by
  unfold negD at h
  split at h
  · cases h
    exact ⟨_, dx.i, q _ F H (Go.refl s) (.int _)⟩
  · cases h
/-! equality -/
theorem dp_up (s : Same F H) {x : V} {d : PyData} (h : Dq K F x d) (c : SeqAt.shaped d = true) : Dp K H x d := by
  have c' : d.canLay0 = true := by
    have z : (d.canLay0 && decide (d.depth ≤ 64)) = true := c
    rw [Bool.and_eq_true] at z
    exact z.1
  exact dq_dp d x c' (Dq.mono s h)
theorem rd_eq : RD K (rEqD K) eqD := fun F H x y d e z s dx dy h Q q => by
  unfold eqD at h
  split at h
  · rename_i hc
    cases h
    exact ⟨d, e, dp_up s dx hc.1, dp_up s dy hc.2, hc.1, hc.2, q _ F H (Go.refl s) (.bl _)⟩
  · cases h
theorem rd_ne : RD K (rNeD K) neD := fun F H x y d e z s dx dy h Q q => by
  unfold neD at h
  split at h
  · rename_i hc
    cases h
    exact ⟨d, e, dp_up s dx hc.1, dp_up s dy hc.2, hc.1, hc.2, q _ F H (Go.refl s) (.bl _)⟩
  · cases h
theorem rd_le : RD K (rOr (rI0 fun i j => .bl (decide (i ≤ j))) (rLeT K)) leD := fun F H x y d e z s dx dy h Q q => by
  unfold leD at h
  split at h
  · cases h
    exact .inl ⟨_, _, dx.i, dy.i, q _ F H (Go.refl s) (.bl _)⟩
  · obtain ⟨ns, h1, h⟩ := bind_some h
    obtain ⟨ms, h2, h⟩ := bind_some h
    cases h
    obtain ⟨a, xs, rfl, h3, h4⟩ := dx.t
    obtain ⟨b, ys, rfl, h5, h6⟩ := dy.t
    have e1 := ints_of h1 h4
    have e2 := ints_of h2 h6
    subst e1 e2
    exact .inr ⟨a, b, ns, ms, rfl, rfl, sqt_mono s h3, sqt_mono s h5, q _ F H (Go.refl s) (.bl _)⟩
  · cases h
def rInDT (K : PySem.W.Frag) : R2 := fun x y H Q => ∃ d ds, Dp K H x d ∧ Dp K H y (.tuple ds) ∧ SeqAt.shaped d = true ∧ SeqAt.shaped (.tuple ds) = true ∧ Q (.bl (ds.any fun z => PyData.eqv z d)) H
theorem op_inDT {X : Cx} (hu : X.A.units + 65 < cLine) : OpR X (compareOp .In) (rInDT X.K) := by
  intro pins s σ H x y v u Q I rx ry h
  obtain ⟨d, ds, hd, he, sd, se, q⟩ := h
  obtain ⟨as, r1⟩ := Dp.reads I d x v hd rx
  obtain ⟨bs, r2⟩ := Dp.reads I (.tuple ds) y u he ry
  have lay : ∀ {e : PyData}, SeqAt.shaped e = true → e.canLay0 = true ∧ e.depth ≤ 64 := fun {e} c => by
    have z : (e.canLay0 && decide (e.depth ≤ 64)) = true := c
    rw [Bool.and_eq_true, decide_eq_true_eq] at z
    exact z
  have l1 := lay sd
  have l2 := lay se
  refine SeqAt.in_tuple_reads r2 r1 (by simpa [PyData.canLay0] using l2.1) l1.1 ?_ ⟨.bl _, H, I, rfl, q⟩
  have := l1.2
  omega
theorem rd_in : RD K (rOr (rInD K) (rInDT K)) inD := fun F H x y d e z s dx dy h Q q => by
  unfold inD at h
  split at h
  · split at h
    · rename_i hc
      cases h
      exact .inl ⟨d, _, dp_up s dx hc.1, dp_up s dy hc.2, hc.1, hc.2, q _ F H (Go.refl s) (.bl _)⟩
    · cases h
  · split at h
    · rename_i hc
      cases h
      exact .inr ⟨d, _, dp_up s dx hc.1, dp_up s dy hc.2, hc.1, hc.2, q _ F H (Go.refl s) (.bl _)⟩
    · cases h
  · cases h
theorem rd_notIn : RD K (rNotInD K) notInD := fun F H x y d e z s dx dy h Q q => by
  unfold notInD at h
  split at h
  · split at h
    · rename_i hc
      cases h
      exact ⟨d, _, dp_up s dx hc.1, dp_up s dy hc.2, hc.1, hc.2, q _ F H (Go.refl s) (.bl _)⟩
    · cases h
  · cases h
theorem rd_isN {te : TE} {f : FE} (h : ED K te f) : ED K (tIsN te) (f1 isNoneD f) := fun H0 σ δ F H z S hz Q q => by
  obtain ⟨x, hx, h2⟩ := bind_some hz
  cases h2
  refine h H0 σ δ F H x S hx _ fun v F1 H1 g1 d1 => ?_
  show Q (.bl (decide (v = .non))) H1
  rw [d1.non_iff]
  exact q _ F1 H1 g1 (.bl _)
theorem rd_notN {te : TE} {f : FE} (h : ED K te f) : ED K (tNotN te) (f1 notNoneD f) := fun H0 σ δ F H z S hz Q q => by
  obtain ⟨x, hx, h2⟩ := bind_some hz
  cases h2
  refine h H0 σ δ F H x S hx _ fun v F1 H1 g1 d1 => ?_
  show Q (.bl (!decide (v = .non))) H1
  rw [d1.non_iff]
  exact q _ F1 H1 g1 (.bl _)
theorem rd_isBl : RD K (fun x y H Q => ∃ a b, x = .bl a ∧ y = .bl b ∧ Q (.bl (decide (a = b))) H) isBlD := fun F H x y d e z s dx dy h Q q => by
  unfold isBlD at h
  split at h
  · cases h
    exact ⟨_, _, dx.b, dy.b, q _ F H (Go.refl s) (.bl _)⟩
  · cases h
/-! subscripts -/
theorem atI_some {α : Type} {xs : List α} {i : Int} {x : α} (h : atI xs i = some x) : ∃ j, ixN xs.length i = some j ∧ xs[j]? = some x := bind_some h
theorem atI_dq {xs : List V} {ds : List PyData} {i : Int} {d : PyData} (h : DqAll K F xs ds) (e : atI ds i = some d) : ∃ v, atI xs i = some v ∧ Dq K F v d := by
  obtain ⟨j, h1, h2⟩ := atI_some e
  obtain ⟨v, h3, h4⟩ := DqAll.get h h2
  refine ⟨v, ?_, h4⟩
  unfold atI
  rw [DqAll.len h, h1]
  exact h3
theorem rd_ix : RD K (rIx K) ixD := fun F H x y d e z s dx dy h Q q => by
  unfold ixD at h
  split at h
  · obtain ⟨a, xs, rfl, h1, h2⟩ := dx.l
    obtain ⟨v, h3, h4⟩ := atI_dq h2 h
    exact .inl ⟨a, xs, _, v, rfl, dy.i, SqL.of (s a _ h1), h3, q _ F H (Go.refl s) h4⟩
  · obtain ⟨a, xs, rfl, h1, h2⟩ := dx.t
    obtain ⟨v, h3, h4⟩ := atI_dq h2 h
    exact .inr (.inl ⟨a, xs, _, v, rfl, dy.i, sqt_mono s h1, h3, q _ F H (Go.refl s) h4⟩)
  · obtain ⟨a, ns, rfl, rfl, h1⟩ := dx.s
    obtain ⟨p, h2, rfl⟩ := Option.map_eq_some_iff.mp h
    obtain ⟨j, h3, h4⟩ := atI_some h2
    rw [List.getElem?_map] at h4
    obtain ⟨n, h5, rfl⟩ := Option.map_eq_some_iff.mp h4
    refine .inl ⟨a, ns.map V.int, _, .int n, rfl, dy.i, s.seq h1, ?_, q _ F H (Go.refl s) (.int n)⟩
    unfold atI
    rw [List.length_map] at h3 ⊢
    rw [h3]
    show (ns.map V.int)[j]? = _
    rw [List.getElem?_map, h5]
    rfl
  · cases h
theorem sIx_top (n : Nat) (i : Int) (h : 0 ≤ i) : HT.sIx n n (some i) = min i.toNat n := by
  obtain ⟨k, rfl⟩ := Int.eq_ofNat_of_zero_le h
  exact HT.sIx_nat n n k
theorem cut_to {xs : List V} {i : Int} (h : 0 ≤ i) : cutV xs none (some i) = xs.take i.toNat := by
  unfold cutV
  rw [HT.sIx_none, sIx_top _ _ h, List.drop_zero, Nat.sub_zero]
  exact List.take_eq_take_iff.mpr (by omega)
def rSlD (K : PySem.W.Frag) : V → Option Int → Option Int → Hp → VK → Prop := fun x lo hi H Q => rSlL K x lo hi H Q ∨ rSlT K x lo hi H Q
theorem ed_to {te th : TE} {fe fh : FE} (he : ED K te fe) (hh : ED K th fh) : ED K (tSl (rSlD K) te tNoPart (tPart th)) (f2 toD fe fh) := fun H0 σ δ F H z S h Q q => by
  obtain ⟨x, hx, h⟩ := bind_some h
  obtain ⟨y, hy, h⟩ := bind_some h
  refine he H0 σ δ F H x S hx _ fun v F1 H1 g1 d1 => hh H0 σ δ F1 H1 y (S.go g1) hy _ fun w F2 H2 g2 d2 => ?_
  have d1' := Dq.mono g2.f d1
  unfold toD at h
  split at h
  · split at h
    · rename_i hn
      cases h
      obtain ⟨a, xs, rfl, h1, h2⟩ := d1'.l
      refine ⟨_, d2.i, .inl ⟨a, xs, rfl, SqL.of (g2.s a _ h1), fun p hp => ?_⟩⟩
      rw [cut_to hn]
      exact q _ _ _ ((g1.trans g2).trans (Go.new g2.s hp)) (.lst upd_same (DqAll.mono (same_new (g2.s.free hp)) (DqAll.tk _ h2)))
    · cases h
  · split at h
    · rename_i hn
      cases h
      obtain ⟨a, xs, rfl, h1, h2⟩ := d1'.t
      have hl := DqAll.len h2
      refine ⟨_, d2.i, .inr ⟨a, xs, rfl, sqt_mono g2.s h1, ?_, fun p hp => ?_⟩⟩
      · rintro ⟨_, z⟩
        rw [sIx_top _ _ hn.1] at z
        omega
      · rw [cut_to hn.1]
        exact q _ _ _ ((g1.trans g2).trans (Go.new g2.s hp)) (.tup (SqT.of upd_same) (DqAll.mono (same_new (g2.s.free hp)) (DqAll.tk _ h2)))
    · cases h
  · cases h
/-! calls of built-ins -/
theorem dq_one {vs : List V} {d : PyData} (h : DqAll K F vs [d]) : ∃ v, vs = [v] ∧ Dq K F v d := by
  cases h with
  | cons h1 h2 =>
    cases h2
    exact ⟨_, rfl, h1⟩
theorem dq_pair {vs : List V} {d e : PyData} (h : DqAll K F vs [d, e]) : ∃ v u, vs = [v, u] ∧ Dq K F v d ∧ Dq K F u e := by
  cases h with
  | cons h1 h2 =>
    obtain ⟨u, rfl, h3⟩ := dq_one h2
    exact ⟨_, u, rfl, h1, h3⟩
theorem rc_len : RC K (fun xs H Q => ∃ p ys, xs = [.ref p] ∧ (SqL K H p ys ∨ SqT K H p ys) ∧ Q (.int ys.length) H) lenD := fun F H xs ds z s dx h Q q => by
  unfold lenD at h
  split at h
  · cases h
    obtain ⟨v, rfl, h1⟩ := dq_one dx
    obtain ⟨a, xs, rfl, h2, h3⟩ := h1.l
    refine ⟨a, xs, rfl, .inl (SqL.of (s a _ h2)), ?_⟩
    rw [DqAll.len h3]
    exact q _ F H (Go.refl s) (.int _)
  · cases h
    obtain ⟨v, rfl, h1⟩ := dq_one dx
    obtain ⟨a, xs, rfl, h2, h3⟩ := h1.t
    refine ⟨a, xs, rfl, .inr (sqt_mono s h2), ?_⟩
    rw [DqAll.len h3]
    exact q _ F H (Go.refl s) (.int _)
  · cases h
    obtain ⟨v, rfl, h1⟩ := dq_one dx
    obtain ⟨a, ns, rfl, rfl, h2⟩ := h1.s
    refine ⟨a, _, rfl, .inl (s.seq h2), ?_⟩
    simp only [List.length_map] at q ⊢
    exact q _ F H (Go.refl s) (.int _)
  · cases h
theorem rc_abs : RC K (fun xs H Q => ∃ i, xs = [.int i] ∧ Q (.int (if i < 0 then -i else i)) H) absD := fun F H xs ds z s dx h Q q => by
  unfold absD at h
  split at h
  · cases h
    obtain ⟨v, rfl, h1⟩ := dq_one dx
    exact ⟨_, by rw [h1.i], q _ F H (Go.refl s) (.int _)⟩
  · cases h
theorem rc_min : RC K (fun xs H Q => ∃ i j, xs = [.int i, .int j] ∧ Q (.int (if j < i then j else i)) H) minD := fun F H xs ds z s dx h Q q => by
  unfold minD at h
  split at h
  · cases h
    obtain ⟨v, u, rfl, h1, h2⟩ := dq_pair dx
    exact ⟨_, _, by rw [h1.i, h2.i], q _ F H (Go.refl s) (.int _)⟩
  · cases h
theorem rc_all : RC K (rAll K) allD := fun F H xs ds z s dx h Q q => by
  unfold allD at h
  split at h
  · obtain ⟨bs, hb, h⟩ := bind_some h
    cases h
    obtain ⟨v, rfl, h1⟩ := dq_one dx
    obtain ⟨a, xs, rfl, h2, h3⟩ := h1.l
    have e := bools_of hb h3
    subst e
    exact ⟨a, bs, rfl, SqL.of (s a _ h2), q _ F H (Go.refl s) (.bl _)⟩
  · cases h
theorem rc_sum : RC K (rSum K) sumD := fun F H xs ds z s dx h Q q => by
  unfold sumD at h
  split at h
  · obtain ⟨bs, hb, h⟩ := bind_some h
    cases h
    obtain ⟨v, rfl, h1⟩ := dq_one dx
    obtain ⟨a, xs, rfl, h2, h3⟩ := h1.l
    have e := ints_of hb h3
    subst e
    exact ⟨a, bs, rfl, SqL.of (s a _ h2), q _ F H (Go.refl s) (.int _)⟩
  · cases h
theorem sortI_perm (ns : List Int) : (sortI ns).Perm ns := List.mergeSort_perm _ _
theorem sortI_le (ns : List Int) : (sortI ns).Pairwise (· ≤ ·) := by
  have h := List.pairwise_mergeSort (le := fun a b : Int => decide (a ≤ b)) (fun a b c h1 h2 => by simp at *; omega) (fun a b => by simp; omega) ns
  exact h.imp fun h => by simpa using h
theorem rc_sorted : RC K (rSorted K) sortedD := fun F H xs ds z s dx h Q q => by
  unfold sortedD at h
  split at h
  · obtain ⟨ns, hb, h⟩ := bind_some h
    split at h
    · rename_i hl
      cases h
      obtain ⟨v, rfl, h1⟩ := dq_one dx
      obtain ⟨a, xs, rfl, h2, h3⟩ := h1.l
      have e := ints_of hb h3
      subst e
      refine ⟨a, ns, rfl, SqL.of (s a _ h2), hl, fun ms p hp hs hn => ?_⟩
      have e : ms = sortI ns := PySem.W.ksm_same (hp.trans (sortI_perm ns).symm) hs (sortI_le ns)
      subst e
      exact q _ _ _ (Go.new s hn) (.lst upd_same dq_ints)
    · cases h
  · cases h
theorem ed_setLen {ta : TE} {fa : FE} (ha : ED K ta fa) : ED K (RZ.tLenSetI K ta) (f1 setLenD fa) := fun H0 σ δ F H z S h Q q => by
  obtain ⟨x, hx, h⟩ := bind_some h
  refine ha H0 σ δ F H x S hx _ fun v F1 H1 g1 d1 => ?_
  unfold setLenD at h
  split at h
  · obtain ⟨ns, hb, h⟩ := bind_some h
    split at h
    · rename_i hl
      cases h
      obtain ⟨a, xs, rfl, h2, h3⟩ := d1.l
      have e := ints_of hb h3
      subst e
      exact ⟨a, ns, rfl, SqL.of (g1.s a _ h2), hl.1, hl.2, q _ F1 H1 g1 (.int _)⟩
    · cases h
  · cases h
/-- isinstance(x, T), T a built-in class's name -/
def tIsi (K : PySem.W.Frag) (T : String) (ta : TE) : TE := tCB (rIsi K) (tCons ta (tCons (tC (.ty T)) tNil))
theorem ed_isi {T : String} (hT : T = "int" ∨ T = "bool" ∨ T = "list" ∨ T = "tuple" ∨ T = "str") {ta : TE} {fa : FE} (ha : ED K ta fa) : ED K (tIsi K T ta) (f1 (isiD T) fa) := fun H0 σ δ F H z S h Q q => by
  obtain ⟨x, hx, h⟩ := bind_some h
  refine ha H0 σ δ F H x S hx _ fun v F1 H1 g1 d1 => ?_
  show rIsi K [v, .ty T] H1 Q
  have fin : ∀ (t : String) (b : Bool), TyX K H1 v (.type t) → kitB t T = some b → z = .bool b → rIsi K [v, .ty T] H1 Q := fun t b ty hk hz => by
    subst hz
    exact ⟨v, .ty T, .type t, .type T, b, rfl, .ty T, ty, kit_ty hk, q _ F1 H1 g1 (.bl b)⟩
  have hl : ∀ (a : Addr) (xs : List V), SqL K H1 a xs → TyX K H1 (.ref a) (.type "list") := fun a xs hs => by
    rcases hs with (hs | ⟨o, hs⟩) | ⟨o, its, n, h1, h2, _⟩
    · exact .base (.lst hs)
    · exact .base (.frz hs)
    · exact .kList h1 h2
  have ht : ∀ (a : Addr) (xs : List V), SqT K H1 a xs → TyX K H1 (.ref a) (.type "tuple") := fun a xs hs => by
    rcases hs with (hs | ⟨o, hs⟩) | ⟨o, its, n, h1, h2, _⟩
    · exact .base (.tup hs)
    · exact .fTuple hs
    · exact .kTuple h1 h2
  have k0 : kitB "NoneType" T = some false := by rcases hT with rfl | rfl | rfl | rfl | rfl <;> decide +kernel
  have k1 : kitB "bool" T = some (T == "bool" || T == "int") := by rcases hT with rfl | rfl | rfl | rfl | rfl <;> decide +kernel
  have k2 : kitB "int" T = some (T == "int") := by rcases hT with rfl | rfl | rfl | rfl | rfl <;> decide +kernel
  have k3 : kitB "str" T = some (T == "str") := by rcases hT with rfl | rfl | rfl | rfl | rfl <;> decide +kernel
  have k4 : kitB "list" T = some (T == "list") := by rcases hT with rfl | rfl | rfl | rfl | rfl <;> decide +kernel
  have k5 : kitB "tuple" T = some (T == "tuple") := by rcases hT with rfl | rfl | rfl | rfl | rfl <;> decide +kernel
  unfold isiD at h
  split at h
  · cases d1
    cases h
    exact fin "NoneType" _ (.base .non) k0 rfl
  · cases d1
    cases h
    exact fin "bool" _ (.base (.bl _)) k1 rfl
  · cases d1
    cases h
    exact fin "int" _ (.base (.int _)) k2 rfl
  · cases d1
    cases h
    exact fin "str" _ (.base (.str _)) k3 rfl
  · obtain ⟨a, xs, rfl, h2, h3⟩ := d1.l
    cases h
    have ty := hl a xs (SqL.of (g1.s a _ h2))
    exact fin "list" _ ty k4 rfl
  · obtain ⟨a, xs, rfl, h2, h3⟩ := d1.t
    cases h
    have ty := ht a xs (sqt_mono g1.s h2)
    exact fin "tuple" _ ty k5 rfl
  · cases h
end
end DL

set_option Elab.async false
set_option linter.all false
set_option maxRecDepth 100000
set_option maxHeartbeats 4000000
/-! DL3: what is walked, targets, list comprehensions, statements. -/
namespace DL
open PySem PySem.Spec PyProof.Rows L2

/-! ### what is walked -/
def WalkD (K : PySem.W.Frag) (Rl : Hp → Hp → Prop) (J : It) (ds : List PyData) : Prop :=
  ∀ (i : Nat) (F H : Hp), Rl F H → (∀ d, ds[i]? = some d → J.go i H ∧ ∀ x H', J.yld i H x H' → ∃ F', Go F H F' H' ∧ Dq K F' x d) ∧ (ds.length ≤ i → J.stop i H)
def Rf (F1 : Hp) : Hp → Hp → Prop := fun F H => Same F1 F ∧ Same F H
def ID (K : PySem.W.Frag) (wi : TI) (g : FA) : Prop := ∀ (H0 : Hp) (σ : L2.St) (δ : DEnv) (F H : Hp) (ds : List PyData), Sd K H0 F H σ δ → g δ = some ds →
  ∀ R : It → Hp → Prop, (∀ J F1 H1, Go F H F1 H1 → WalkD K (Rf F1) J ds → R J H1) → wi σ H R
def IC (K : PySem.W.Frag) (wi : TI) (g : FA) : Prop := ∀ (H0 : Hp) (σ : L2.St) (δ : DEnv) (F H : Hp) (ds : List PyData), Sd K H0 F H σ δ → g δ = some ds →
  ∀ R : It → Hp → Prop, (∀ J F1 H1, Go F H F1 H1 → WalkD K (Go F1 H1) J ds → R J H1) → wi σ H R
theorem ID.ic {K : PySem.W.Frag} {wi : TI} {g : FA} (h : ID K wi g) : IC K wi g := fun H0 σ δ F H ds S hd R k =>
  h H0 σ δ F H ds S hd R fun J F1 H1 go w => k J F1 H1 go fun i F' H' q => w i F' H' ⟨q.f, q.s⟩

def dList (f : FE) : FA := fun δ => (f δ).bind fun x => match x with
  | .list ds => some ds
  | _ => none
def dVar (i : Nat) : FA := fun δ => match δ[i]? with
  | some (.val (.list ds)) => some ds
  | some (.own ds) => some ds
  | _ => none
def dRange1 (f : FE) : FA := fun δ => (f δ).bind fun x => match x with
  | .int n => if n.natAbs < 1000 then some ((List.range n.toNat).map fun k => PyData.int (0 + (k : Nat))) else none
  | _ => none
def dRange2 (f g : FE) : FA := fun δ => (f δ).bind fun x => (g δ).bind fun y => match x, y with
  | .int m, .int n => if m.natAbs < 1000 ∧ n.natAbs < 1000 then some ((List.range (n - m).toNat).map fun k => PyData.int (m + (k : Nat))) else none
  | _, _ => none
def enumD : Nat → List PyData → List PyData
  | _, [] => []
  | k, d :: r => .tuple [.int (k : Nat), d] :: enumD (k + 1) r
def dEnum (f : FE) : FA := fun δ => (f δ).bind fun x => match x with
  | .list ds => some (enumD 0 ds)
  | _ => none
def zipD (xs ys : List PyData) : List PyData := List.zipWith (fun x y => PyData.tuple [x, y]) xs ys
def dZip (f g : FE) : FA := fun δ => (f δ).bind fun x => (g δ).bind fun y => match x, y with
  | .list xs, .list ys => some (zipD xs ys)
  | _, _ => none
theorem enumD_get : ∀ (ds : List PyData) (k i : Nat), (enumD k ds)[i]? = ds[i]?.map fun d => PyData.tuple [.int ((k + i : Nat) : Int), d]
  | [], k, i => by simp [enumD]
  | d :: r, k, 0 => by simp [enumD]
  | d :: r, k, i + 1 => by
    show (enumD (k + 1) r)[i]? = _
    rw [enumD_get r (k + 1) i]
    have e : k + 1 + i = k + (i + 1) := by omega
    rw [e]
    simp
theorem enumD_len : ∀ (ds : List PyData) (k : Nat), (enumD k ds).length = ds.length
  | [], k => rfl
  | d :: r, k => congrArg (· + 1) (enumD_len r (k + 1))
section
variable {K : PySem.W.Frag}
theorem id_list {tl : TE} {f : FE} (h : ED K tl f) : ID K (iList K tl) (dList f) := fun H0 σ δ F H ds S hd R k => by
  obtain ⟨x, hx, h2⟩ := bind_some hd
  split at h2
  · cases h2
    refine h H0 σ δ F H _ S hx _ fun v F1 H1 g1 d1 => ?_
    obtain ⟨a, vs, rfl, h3, h4⟩ := d1.l
    refine ⟨a, rfl, ⟨vs, SqL.of (g1.s a _ h3)⟩, k (Itl K a) F1 H1 g1 fun i F' H' q => ?_⟩
    have hq : SqL K H' a vs := SqL.of (q.2 a _ (q.1 a _ h3))
    refine ⟨fun d hi => ?_, fun hl => ⟨vs, hq, by rw [DqAll.len h4]; exact hl⟩⟩
    obtain ⟨v, hv, dv⟩ := DqAll.get h4 hi
    refine ⟨⟨vs, v, hq, hv⟩, fun y H2 hy => ?_⟩
    obtain ⟨rfl, hy⟩ := hy
    have e := hy vs hq
    rw [hv] at e
    cases e
    exact ⟨F', Go.refl q.2, Dq.mono q.1 dv⟩
  · cases h2
theorem ic_var {i : Nat} : IC K (iList K (tVar i)) (dVar i) := fun H0 σ δ F H ds S hd R k => by
  unfold dVar at hd
  split at hd
  · rename_i es hi
    cases hd
    exact (id_list (ed_var (i := i))).ic H0 σ δ F H ds S (by
      show (fVar i δ).bind _ = _
      unfold fVar
      rw [hi]
      rfl) R k
  · rename_i es hi
    cases hd
    obtain ⟨a, vs, h1, h2, h3, h4, h5⟩ := S.own i ds hi
    refine ⟨.ref a, h1, a, rfl, ⟨vs, SqL.of h2⟩, k (Itl K a) F H (Go.refl S.sub) fun j F' H' q => ?_⟩
    have hq : SqL K H' a vs := SqL.of (q.h a _ h2)
    refine ⟨fun d hi => ?_, fun hl => ⟨vs, hq, by rw [DqAll.len h5]; exact hl⟩⟩
    obtain ⟨v, hv, dv⟩ := DqAll.get h5 hi
    refine ⟨⟨vs, v, hq, hv⟩, fun y H2 hy => ?_⟩
    obtain ⟨rfl, hy⟩ := hy
    have e := hy vs hq
    rw [hv] at e
    cases e
    exact ⟨F', Go.refl q.s, Dq.mono q.f dv⟩
  · cases hd
theorem walk_rng {Rl : Hp → Hp → Prop} (hR : ∀ F H, Rl F H → Same F H) (lo : Int) (n : Nat) : WalkD K Rl (Itr lo n) ((List.range n).map fun k => PyData.int (lo + (k : Nat))) := fun i F H q => by
  refine ⟨fun d hi => ?_, fun hl => ?_⟩
  · rw [List.getElem?_map] at hi
    obtain ⟨m, h1, rfl⟩ := Option.map_eq_some_iff.mp hi
    obtain ⟨h2, h3⟩ := List.getElem?_eq_some_iff.mp h1
    rw [List.getElem_range] at h3
    subst h3
    rw [List.length_range] at h2
    refine ⟨h2, fun x H' y => ?_⟩
    obtain ⟨rfl, rfl⟩ := y
    exact ⟨F, Go.refl (hR _ _ q), .int _⟩
  · rw [List.length_map, List.length_range] at hl
    exact hl
theorem id_rng1 {ta : TE} {f : FE} (h : ED K ta f) : ID K (iRng1 (tCons ta tNil)) (dRange1 f) := fun H0 σ δ F H ds S hd R k => by
  obtain ⟨x, hx, h2⟩ := bind_some hd
  split at h2
  · split at h2
    · rename_i hn
      cases h2
      refine h H0 σ δ F H _ S hx _ fun v F1 H1 g1 d1 => ?_
      exact ⟨_, by rw [d1.i], by omega, by omega, k _ F1 H1 g1 (walk_rng (fun _ _ q => q.2) 0 _)⟩
    · cases h2
  · cases h2
theorem id_rng2 {ta tb : TE} {f g : FE} (h : ED K ta f) (h' : ED K tb g) : ID K (iRng2 (tCons ta (tCons tb tNil))) (dRange2 f g) := fun H0 σ δ F H ds S hd R k => by
  obtain ⟨x, hx, h2⟩ := bind_some hd
  obtain ⟨y, hy, h2⟩ := bind_some h2
  split at h2
  · split at h2
    · rename_i hn
      cases h2
      refine h H0 σ δ F H _ S hx _ fun v F1 H1 g1 d1 => h' H0 σ δ F1 H1 _ (S.go g1) hy _ fun w F2 H2 g2 d2 => ?_
      exact ⟨_, _, by rw [d1.i, d2.i], ⟨by omega, by omega, by omega, by omega⟩, k _ F2 H2 (g1.trans g2) (walk_rng (fun _ _ q => q.2) _ _)⟩
    · cases h2
  · cases h2
theorem id_enum {ta : TE} {f : FE} (h : ED K ta f) : ID K (iEnum K (tCons ta tNil)) (dEnum f) := fun H0 σ δ F H ds S hd R k => by
  obtain ⟨x, hx, h2⟩ := bind_some hd
  split at h2
  · cases h2
    refine h H0 σ δ F H _ S hx _ fun v F1 H1 g1 d1 => ?_
    obtain ⟨a, vs, rfl, h3, h4⟩ := d1.l
    refine ⟨a, vs, rfl, SqL.of (g1.s a _ h3), k (Ite K a) F1 H1 g1 fun i F' H' q => ?_⟩
    have hq : SqL K H' a vs := SqL.of (q.2 a _ (q.1 a _ h3))
    have W := walk_enum (K := K) (a := a) (xs := vs)
    refine ⟨fun d hi => ?_, fun hl => ?_⟩
    · rw [enumD_get] at hi
      obtain ⟨e, he, rfl⟩ := Option.map_eq_some_iff.mp hi
      obtain ⟨v, hv, dv⟩ := DqAll.get h4 he
      have hlt : i < vs.length := (List.getElem?_eq_some_iff.mp hv).1
      refine ⟨W.goes i H' hlt hq, fun y H2 hy => ?_⟩
      obtain ⟨T, x1, x2, rfl, hT, rfl, e1, e2⟩ := W.yields i H' y H2 hlt hq hy
      cases e1
      have e2' : vs[i]? = some x2 := e2
      rw [hv] at e2'
      cases e2'
      have s1 : Same F' (upd F' T (.tup [.int (i : Nat), v])) := same_new (q.2.free hT)
      refine ⟨_, Go.new q.2 hT, .tup (SqT.of upd_same) (.cons ?_ (.cons (Dq.mono (q.1.trans s1) dv) .nil))⟩
      have e3 : 0 + i = i := Nat.zero_add i
      rw [e3]
      exact .int _
    · rw [enumD_len] at hl
      have e : vs.length = _ := DqAll.len h4
      exact ⟨vs, hq, by omega⟩
  · cases h2
theorem id_zip {ta tb : TE} {f g : FE} (h : ED K ta f) (h' : ED K tb g) : ID K (iZip K (tCons ta (tCons tb tNil))) (dZip f g) := fun H0 σ δ F H ds S hd R k => by
  obtain ⟨x, hx, h2⟩ := bind_some hd
  obtain ⟨y, hy, h2⟩ := bind_some h2
  split at h2
  · cases h2
    refine h H0 σ δ F H _ S hx _ fun v F1 H1 g1 d1 => h' H0 σ δ F1 H1 _ (S.go g1) hy _ fun w F2 H2 g2 d2 => ?_
    obtain ⟨a, vs, rfl, h3, h4⟩ := (Dq.mono g2.f d1).l
    obtain ⟨b, ws, rfl, h5, h6⟩ := d2.l
    refine ⟨a, b, vs, ws, rfl, SqL.of (g2.s a _ h3), SqL.of (g2.s b _ h5), k (Itz K a b) F2 H2 (g1.trans g2) fun i F' H' q => ?_⟩
    have hq : SqL K H' a vs ∧ SqL K H' b ws := ⟨SqL.of (q.2 a _ (q.1 a _ h3)), SqL.of (q.2 b _ (q.1 b _ h5))⟩
    have W := walk_zip (K := K) (a := a) (b := b) (xs := vs) (ys := ws) rfl
    have l1 := DqAll.len h4
    have l2 := DqAll.len h6
    refine ⟨fun d hi => ?_, fun hl => ?_⟩
    · unfold zipD at hi
      obtain ⟨e1, e2, he1, he2, rfl⟩ := List.getElem?_zipWith_eq_some.mp hi
      obtain ⟨v, hv, dv⟩ := DqAll.get h4 he1
      obtain ⟨u, hu, du⟩ := DqAll.get h6 he2
      have n1 : i < vs.length := (List.getElem?_eq_some_iff.mp hv).1
      have n2 : i < ws.length := (List.getElem?_eq_some_iff.mp hu).1
      have hlt : i < min vs.length ws.length := by omega
      refine ⟨W.goes i H' hlt hq, fun y H2 hy => ?_⟩
      obtain ⟨T, x1, x2, rfl, hT, rfl, e1, e2⟩ := W.yields i H' y H2 hlt hq hy
      have e1' : vs[i]? = some x1 := e1
      have e2' : ws[i]? = some x2 := e2
      rw [hv] at e1'
      rw [hu] at e2'
      cases e1'
      cases e2'
      have s1 : Same F' (upd F' T (.tup [v, u])) := same_new (q.2.free hT)
      exact ⟨_, Go.new q.2 hT, .tup (SqT.of upd_same) (.cons (Dq.mono (q.1.trans s1) dv) (.cons (Dq.mono (q.1.trans s1) du) .nil))⟩
    · unfold zipD at hl
      rw [List.length_zipWith] at hl
      exact ⟨vs, ws, hq.1, hq.2, by omega⟩
  · cases h2
end

/-! ### targets -/
theorem wipe_set_in {σ : L2.St} {j : Nat} {x : Option V} : ∀ {vs : List Nat}, j ∈ vs → L2.wipe (σ.set j x) vs = L2.wipe σ vs
  | v :: vs, h => by
    show (L2.wipe (σ.set j x) vs).set v none = (L2.wipe σ vs).set v none
    have out : ∀ {ws : List Nat}, j ∉ ws → L2.wipe (σ.set j x) ws = (L2.wipe σ ws).set j x := by
      intro ws
      induction ws with
      | nil => intro _; rfl
      | cons w ws ih =>
        intro hn
        show (L2.wipe (σ.set j x) ws).set w none = ((L2.wipe σ ws).set w none).set j x
        rw [ih fun z => hn (List.mem_cons_of_mem _ z)]
        exact List.set_comm _ _ fun z => hn (by rw [z]; exact List.mem_cons_self)
    by_cases hv : j ∈ vs
    · rw [wipe_set_in hv]
    · have e : j = v := by
        rcases List.mem_cons.mp h with e | e
        · exact e
        · exact absurd e hv
      rw [out hv, e, List.set_set]
abbrev FP := PyData → DEnv → Option DEnv
def pName (j : Nat) : FP := fun d δ => some (δ.set j (.val d))
def setAll : List Nat → List PyData → DEnv → Option DEnv
  | [], [], δ => some δ
  | j :: js, d :: ds, δ => setAll js ds (δ.set j (.val d))
  | _, _, _ => none
def pTup (js : List Nat) : FP := fun d δ => match d with
  | .tuple ds => setAll js ds δ
  | _ => none
def GD (K : PySem.W.Frag) (g : TG) (pat : FP) (js : List Nat) : Prop := ∀ (H0 : Hp) (σ : L2.St) (δ : DEnv) (F H : Hp) (x : V) (d : PyData) (δ' : DEnv), Sd K H0 F H σ δ → Dq K F x d → pat d δ = some δ' →
  ∀ Q : L2.St → Hp → Prop, (∀ σ', Sd K H0 F H σ' δ' → (∀ vs : List Nat, (∀ j ∈ js, j ∈ vs) → L2.wipe σ' vs = L2.wipe σ vs) → Q σ' H) → g x σ H Q
def GDs (K : PySem.W.Frag) (g : TGs) (js : List Nat) : Prop := ∀ (H0 : Hp) (σ : L2.St) (δ : DEnv) (F H : Hp) (xs : List V) (ds : List PyData) (δ' : DEnv), Sd K H0 F H σ δ → DqAll K F xs ds → setAll js ds δ = some δ' →
  ∀ Q : L2.St → Hp → Prop, (∀ σ', Sd K H0 F H σ' δ' → (∀ vs : List Nat, (∀ j ∈ js, j ∈ vs) → L2.wipe σ' vs = L2.wipe σ vs) → Q σ' H) → g xs σ H Q
section
variable {K : PySem.W.Frag}
theorem gd_name {j : Nat} : GD K (gName j) (pName j) [j] := fun H0 σ δ F H x d δ' S hd hp Q q => by
  cases hp
  exact q _ (S.put hd) fun vs h => wipe_set_in (h j List.mem_cons_self)
theorem gds_nil : GDs K gNil [] := fun H0 σ δ F H xs ds δ' S hd hp Q q => by
  cases hd with
  | nil =>
    cases hp
    exact ⟨rfl, q σ S fun _ _ => rfl⟩
  | cons _ _ => cases hp
theorem gds_cons {j : Nat} {js : List Nat} {g : TGs} (h : GDs K g js) : GDs K (gCons (gName j) g) (j :: js) := fun H0 σ δ F H xs ds δ' S hd hp Q q => by
  cases hd with
  | nil => cases hp
  | cons h1 h2 =>
    rename_i v vs d ds
    refine ⟨v, vs, rfl, ?_⟩
    exact h H0 _ _ F H vs ds δ' (S.put h1) h2 hp Q fun σ' S' hw => q σ' S' fun ws hj => by
      rw [hw ws fun k hk => hj k (List.mem_cons_of_mem _ hk)]
      exact wipe_set_in (hj j List.mem_cons_self)
theorem setAll_len : ∀ {js : List Nat} {ds : List PyData} {δ δ' : DEnv}, setAll js ds δ = some δ' → ds.length = js.length
  | [], [], _, _, _ => rfl
  | _ :: js, _ :: ds, _, _, h => congrArg (· + 1) (setAll_len (js := js) (ds := ds) h)
  | [], _ :: _, _, _, h => by cases h
  | _ :: _, [], _, _, h => by cases h
theorem gd_tup {js : List Nat} {g : TGs} {n : Nat} (hn : js.length = n) (h : GDs K g js) : GD K (gTup K n g) (pTup js) js := fun H0 σ δ F H x d δ' S hd hp Q q => by
  unfold pTup at hp
  split at hp
  · obtain ⟨a, xs, rfl, h1, h2⟩ := hd.t
    exact ⟨a, xs, rfl, sqt_mono S.sub h1, by rw [DqAll.len h2, setAll_len hp, hn], h H0 σ δ F H xs _ δ' S h2 hp Q q⟩
  · cases hp
end

/-! ### list comprehensions -/
def stepD (pat : FP) (t : FT) (e : FE) (δ : DEnv) (d : PyData) : Option (Option PyData) := (pat d δ).bind fun δ1 => (t δ1).bind fun b => match b with
  | true => (e δ1).bind fun x => some (some x)
  | false => some none
def compD (step : PyData → Option (Option PyData)) : List PyData → Option (List PyData)
  | [] => some []
  | d :: r => (step d).bind fun o => (compD step r).bind fun xs => some (match o with
    | some x => x :: xs
    | none => xs)
def fComp (it : FA) (pat : FP) (t : FT) (e : FE) (vs : List Nat) : FA := fun δ => (it δ).bind fun ds => if ds.length ≤ 1000 then compD (stepD pat t e (wipeD δ vs)) ds else none
theorem el_comp {K : PySem.W.Frag} {wi : TI} {g : TG} {tt : TT} {te : TE} {it : FA} {pat : FP} {js vs : List Nat} {t : FT} {e : FE} (hi : IC K wi it) (hg : GD K g pat js) (hj : ∀ j ∈ js, j ∈ vs) (ht : ET K tt t) (he : ED K te e) :
    EL K (tLc wi g tt te vs) (fComp it pat t e vs) := fun H0 σ δ F H out S hout Q q => by
  obtain ⟨ds, hds, h2⟩ := bind_some hout
  split at h2
  · rename_i hsz
    refine hi H0 σ δ F H ds S hds _ fun J F1 H1 g1 w D hD => ?_
    refine ⟨fun i m Hc => m = ds.length - i ∧ i ≤ ds.length ∧ ∃ F' vacc acc res, Go F1 H1 F' Hc ∧ Hc D = some (.lst vacc) ∧ F' D = none ∧ DqAll K F' vacc acc ∧ acc.length ≤ i ∧ compD (stepD pat t e (wipeD δ vs)) (ds.drop i) = some res ∧ acc ++ res = out,
      ⟨ds.length, rfl, Nat.zero_le _, F1, [], [], out, Go.newH g1.s hD, upd_same, g1.s.free hD, .nil, Nat.le_refl _, h2, rfl⟩, ?_⟩
    rintro i m Hc ⟨rfl, hil, F', vacc, acc, res, go, hDc, hFD, dacc, hal, hcd, hout⟩
    by_cases hlt : i < ds.length
    · have hdi : ds[i]? = some ds[i] := List.getElem?_eq_getElem hlt
      have hdrop : ds.drop i = ds[i] :: ds.drop (i + 1) := List.drop_eq_getElem_cons hlt
      rw [hdrop] at hcd
      obtain ⟨o, ho, hcd⟩ := bind_some hcd
      obtain ⟨rs, hrs, hcd⟩ := bind_some hcd
      obtain ⟨hgo, hy⟩ := (w i F' Hc go).1 _ hdi
      refine .inr ⟨hgo, fun Hn => ds.length - (i + 1) = ds.length - (i + 1) ∧ i + 1 ≤ ds.length ∧ ∃ F' vacc acc res, Go F1 H1 F' Hn ∧ Hn D = some (.lst vacc) ∧ F' D = none ∧ DqAll K F' vacc acc ∧ acc.length ≤ i + 1 ∧ compD (stepD pat t e (wipeD δ vs)) (ds.drop (i + 1)) = some res ∧ acc ++ res = out,
        fun Hn hn => ⟨ds.length - (i + 1), by omega, hn⟩, fun x H' hyld => ?_⟩
      obtain ⟨F2, g2, dx⟩ := hy x H' hyld
      obtain ⟨δ1, hp, ho⟩ := bind_some ho
      obtain ⟨b, hb, ho⟩ := bind_some ho
      have S2 : Sd K H0 F2 H' (L2.wipe σ vs) (wipeD δ vs) := ((S.go (g1.trans go)).go g2).wipe vs
      refine hg H0 _ _ F2 H' x _ δ1 S2 dx hp _ fun σ2 S3 hw => ⟨?_, ?_⟩
      · rw [hw vs hj]
        have ww : ∀ ws us : List Nat, (∀ u ∈ us, u ∈ ws) → L2.wipe (L2.wipe σ ws) us = L2.wipe σ ws := by
          intro ws us
          induction us with
          | nil => intro _; rfl
          | cons u us ih =>
            intro hu
            show (L2.wipe (L2.wipe σ ws) us).set u none = _
            rw [ih fun z hz => hu z (List.mem_cons_of_mem _ hz)]
            have hset : ∀ {ws : List Nat}, u ∈ ws → (L2.wipe σ ws).set u none = L2.wipe σ ws := by
              intro ws
              induction ws with
              | nil => intro z; cases z
              | cons a ws ih2 =>
                intro hm
                show ((L2.wipe σ ws).set a none).set u none = (L2.wipe σ ws).set a none
                by_cases hau : u = a
                · rw [hau, List.set_set]
                · rw [List.set_comm _ _ (fun z => hau z.symm), ih2 ((List.mem_cons.mp hm).resolve_left hau)]
            exact hset (hu u List.mem_cons_self)
        exact ww vs vs fun _ h => h
      · refine ht H0 σ2 δ1 F2 H' b S3 hb _ fun F3 H3 g3 => ?_
        cases b with
        | true =>
          obtain ⟨y, hy', ho⟩ := bind_some ho
          cases ho
          cases hcd
          refine he H0 σ2 δ1 F3 H3 y (S3.go g3) hy' _ fun v F4 H4 g4 d4 => ?_
          have G := ((go.trans g2).trans g3).trans g4
          have L := (g2.trans g3).trans g4
          have h4 : H4 D = some (.lst vacc) := L.h D _ hDc
          have f4 : F4 D = none := L.sep D (ne_none hDc) hFD
          refine ⟨vacc, h4, ?_, rfl, hlt, F4, vacc ++ [v], acc ++ [y], rs, G.mut f4 hD, upd_same, f4, DqAll.app (DqAll.mono L.f dacc) (DqAll.one d4), ?_, hrs, ?_⟩
          · rw [DqAll.len dacc]
            exact small1000 (by omega)
          · rw [List.length_append]
            exact Nat.succ_le_succ hal
          · rw [List.append_assoc]
            exact hout
        | false =>
          cases ho
          cases hcd
          have G := (go.trans g2).trans g3
          have L := g2.trans g3
          exact ⟨rfl, hlt, F3, vacc, acc, rs, G, L.h D _ hDc, L.sep D (ne_none hDc) hFD, DqAll.mono L.f dacc, Nat.le_succ_of_le hal, hrs, hout⟩
    · have hi' : i = ds.length := by omega
      subst hi'
      rw [List.drop_length] at hcd
      cases hcd
      rw [List.append_nil] at hout
      subst hout
      exact .inl ⟨(w _ F' Hc go).2 (Nat.le_refl _), q D vacc F' Hc (g1.trans go) (g1.h.free hD) hFD hDc dacc⟩
  · cases h2
end DL

set_option Elab.async false
set_option linter.all false
set_option maxRecDepth 100000
set_option maxHeartbeats 4000000
/-! DL4: statements on data. -/
namespace DL
open PySem PySem.Spec PyProof.Rows L2

inductive Res where
  | nx (δ : DEnv)
  | rt (d : PyData)
  | bk (δ : DEnv)
  | ct (δ : DEnv)
abbrev FS := DEnv → Option Res
def ResOk (K : PySem.W.Frag) (H0 F0 F : Hp) (D : Ends) : Res → Prop
  | .nx δ => ∀ σ' F' H', Sd K H0 F' H' σ' δ → Go F0 H0 F' H' → Same F F' → D.nx σ' H'
  | .rt d => ∀ v F' H', Dq K F' v d → Go F0 H0 F' H' → D.rt v H'
  | .bk δ => ∀ σ' F' H', Sd K H0 F' H' σ' δ → Go F0 H0 F' H' → Same F F' → D.bk σ' H'
  | .ct δ => ∀ σ' F' H', Sd K H0 F' H' σ' δ → Go F0 H0 F' H' → Same F F' → D.ct σ' H'
/-- a statement's reading does what f says -/
def SD (K : PySem.W.Frag) (ts : TS) (f : FS) : Prop := ∀ (H0 F0 : Hp) (σ : L2.St) (δ : DEnv) (F H : Hp) (r : Res) (D : Ends), Sd K H0 F H σ δ → Go F0 H0 F H → f δ = some r → ResOk K H0 F0 F D r → ts D σ H
theorem ResOk.up {K : PySem.W.Frag} {H0 F0 F F1 : Hp} {D : Ends} {r : Res} (s : Same F F1) (h : ResOk K H0 F0 F D r) : ResOk K H0 F0 F1 D r := by
  cases r with
  | nx δ => exact fun σ' F' H' a b c => h σ' F' H' a b (s.trans c)
  | rt d => exact h
  | bk δ => exact fun σ' F' H' a b c => h σ' F' H' a b (s.trans c)
  | ct δ => exact fun σ' F' H' a b c => h σ' F' H' a b (s.trans c)

def sSkip : FS := fun δ => some (.nx δ)
def sDead : FS := fun _ => none
def sSeq (a b : FS) : FS := fun δ => (a δ).bind fun r => match r with
  | .nx δ' => b δ'
  | .rt d => some (.rt d)
  | .bk δ' => some (.bk δ')
  | .ct δ' => some (.ct δ')
def sRet (e : FE) : FS := fun δ => (e δ).bind fun d => some (.rt d)
def sRetN : FS := fun _ => some (.rt .none)
def sPat (p : FP) (e : FE) : FS := fun δ => (e δ).bind fun d => (p d δ).bind fun δ' => some (.nx δ')
def sOwn (i : Nat) (e : FA) : FS := fun δ => (e δ).bind fun ds => some (.nx (δ.set i (.own ds)))
def sPar (i j : Nat) (a b : FE) : FS := fun δ => (a δ).bind fun x => (b δ).bind fun y => some (.nx ((δ.set i (.val x)).set j (.val y)))
def sIf (t : FT) (a b : FS) : FS := fun δ => (t δ).bind fun c => match c with
  | true => a δ
  | false => b δ
def forD (p : FP) (body : FS) : List PyData → DEnv → Option Res
  | [], δ => some (.nx δ)
  | d :: r, δ => (p d δ).bind fun δ1 => (body δ1).bind fun q => match q with
    | .nx δ' => forD p body r δ'
    | .ct δ' => forD p body r δ'
    | .bk δ' => some (.nx δ')
    | .rt x => some (.rt x)
def sFor (it : FA) (p : FP) (body : FS) : FS := fun δ => (it δ).bind fun ds => forD p body ds δ
def whileD (t : FT) (body : FS) : Nat → DEnv → Option Res
  | 0, _ => none
  | n + 1, δ => (t δ).bind fun c => match c with
    | true => (body δ).bind fun q => match q with
      | .nx δ' => whileD t body n δ'
      | .ct δ' => whileD t body n δ'
      | .bk δ' => some (.nx δ')
      | .rt x => some (.rt x)
    | false => some (.nx δ)
/-- how many turns a while is followed -/
def fuel : Nat := 2 ^ 2000
def sWhile (t : FT) (body : FS) : FS := fun δ => whileD t body fuel δ
def sApp (i : Nat) (e : FE) : FS := fun δ => match δ[i]? with
  | some (.own ds) => (e δ).bind fun d => if ds.length ≤ 1000 then some (.nx (δ.set i (.own (ds ++ [d])))) else none
  | _ => none
def sIns (i : Nat) (k e : FE) : FS := fun δ => match δ[i]? with
  | some (.own ds) => (k δ).bind fun x => (e δ).bind fun d => match x with
    | .int n => if ds.length ≤ 1000 ∧ 0 ≤ n ∧ n ≤ 1000 then some (.nx (δ.set i (.own (ds.take n.toNat ++ [d] ++ ds.drop n.toNat)))) else none
    | _ => none
  | _ => none
def sPut (i : Nat) (k e : FE) : FS := fun δ => (e δ).bind fun d => match δ[i]? with
  | some (.own ds) => (k δ).bind fun x => match x with
    | .int n => if 0 ≤ n ∧ n < ds.length then some (.nx (δ.set i (.own (ds.set n.toNat d)))) else none
    | _ => none
  | _ => none
def sFrz (is : List Nat) (s : FS) : FS := fun δ => s (frz is δ)

section
variable {K : PySem.W.Frag} {ta tb te : TE} {t u : TS} {c : TT} {fa fb fe : FE} {gc : FT} {sa sb : FS}
theorem sd_skip : SD K tNext sSkip := fun H0 F0 σ δ F H r D S G h q => by
  cases h
  exact q σ F H S G (Same.refl F)
theorem sd_dead : SD K tNever sDead := fun H0 F0 σ δ F H r D S G h q => by cases h
theorem sd_seq (ha : SD K t sa) (hb : SD K u sb) : SD K (tSeq t u) (sSeq sa sb) := fun H0 F0 σ δ F H r D S G h q => by
  obtain ⟨r1, h1, h2⟩ := bind_some h
  refine ha H0 F0 σ δ F H r1 { D with nx := u D } S G h1 ?_
  cases r1 with
  | nx δ1 => exact fun σ' F' H' S' G' s => hb H0 F0 σ' δ1 F' H' r D S' G' h2 (q.up s)
  | rt d =>
    cases h2
    exact q
  | bk δ1 =>
    cases h2
    exact q
  | ct δ1 =>
    cases h2
    exact q
theorem sd_ret (ha : ED K te fe) : SD K (tRet te) (sRet fe) := fun H0 F0 σ δ F H r D S G h q => by
  obtain ⟨d, h1, h2⟩ := bind_some h
  cases h2
  exact ha H0 σ δ F H d S h1 _ fun v F1 H1 g1 d1 => q v F1 H1 d1 (G.trans g1)
theorem sd_retN : SD K tRetN sRetN := fun H0 F0 σ δ F H r D S G h q => by
  cases h
  exact q .non F H .non G
theorem sd_pat {g : TG} {p : FP} {js : List Nat} (ha : ED K te fe) (hg : GD K g p js) : SD K (tAsg te g) (sPat p fe) := fun H0 F0 σ δ F H r D S G h q => by
  obtain ⟨d, h1, h2⟩ := bind_some h
  obtain ⟨δ1, h3, h4⟩ := bind_some h2
  cases h4
  exact ha H0 σ δ F H d S h1 _ fun v F1 H1 g1 d1 => hg H0 σ δ F1 H1 v d δ1 (S.go g1) d1 h3 _ fun σ' S' _ => q σ' F1 H1 S' (G.trans g1) g1.f
theorem sd_own {i : Nat} {f : FA} (ha : EL K te f) : SD K (tAsg te (gName i)) (sOwn i f) := fun H0 F0 σ δ F H r D S G h q => by
  obtain ⟨ds, h1, h2⟩ := bind_some h
  cases h2
  refine ha H0 σ δ F H ds S h1 _ fun p vs F1 H1 g1 n0 n1 e1 d1 => ?_
  exact q _ F1 H1 (S.putOwn G.h g1 n0 n1 e1 d1) (G.trans g1) g1.f
theorem sd_par {i j : Nat} (ha : ED K ta fa) (hb : ED K tb fb) : SD K (tPar i j (tCons ta (tCons tb tNil))) (sPar i j fa fb) := fun H0 F0 σ δ F H r D S G h q => by
  obtain ⟨x, h1, h2⟩ := bind_some h
  obtain ⟨y, h3, h4⟩ := bind_some h2
  cases h4
  exact ha H0 σ δ F H x S h1 _ fun v F1 H1 g1 d1 => hb H0 σ δ F1 H1 y (S.go g1) h3 _ fun w F2 H2 g2 d2 =>
    ⟨v, w, rfl, q _ F2 H2 ((((S.go g1).go g2).put (Dq.mono g2.f d1)).put d2) ((G.trans g1).trans g2) (g1.f.trans g2.f)⟩
theorem sd_if (hc : ET K c gc) (ha : SD K t sa) (hb : SD K u sb) : SD K (tIfS c t u) (sIf gc sa sb) := fun H0 F0 σ δ F H r D S G h q => by
  obtain ⟨x, h1, h2⟩ := bind_some h
  refine hc H0 σ δ F H x S h1 _ fun F1 H1 g1 => ?_
  cases x with
  | true => exact ha H0 F0 σ δ F1 H1 r D (S.go g1) (G.trans g1) h2 (q.up g1.f)
  | false => exact hb H0 F0 σ δ F1 H1 r D (S.go g1) (G.trans g1) h2 (q.up g1.f)
theorem sd_drop (ha : ED K te fe) : SD K (tDrop te) (fun δ => (fe δ).bind fun _ => some (.nx δ)) := fun H0 F0 σ δ F H r D S G h q => by
  obtain ⟨d, h1, h2⟩ := bind_some h
  cases h2
  exact ha H0 σ δ F H d S h1 _ fun v F1 H1 g1 d1 => q σ F1 H1 (S.go g1) (G.trans g1) g1.f
theorem sd_frz {is : List Nat} (ha : SD K t sa) : SD K t (sFrz is sa) := fun H0 F0 σ δ F H r D S G h q => by
  obtain ⟨F1, S1, G1, s1⟩ := S.frz is G
  exact ha H0 F0 σ _ F1 H r D S1 G1 h (q.up s1)
theorem sd_for {wi : TI} {g : TG} {it : FA} {p : FP} {js : List Nat} (hi : ID K wi it) (hg : GD K g p js) (hb : SD K t sb) : SD K (tFor wi g t) (sFor it p sb) := fun H0 F0 σ δ F H r D S G h q => by
  obtain ⟨ds, hds, h2⟩ := bind_some h
  refine hi H0 σ δ F H ds S hds _ fun J F1 H1 g1 w => ?_
  refine ⟨fun i m σ' H' => m = ds.length - i ∧ i ≤ ds.length ∧ ∃ F' δ', Sd K H0 F' H' σ' δ' ∧ Go F0 H0 F' H' ∧ Same F1 F' ∧ forD p sb (ds.drop i) δ' = some r, ⟨ds.length, rfl, Nat.zero_le _, F1, δ, S.go g1, G.trans g1, Same.refl F1, h2⟩, ?_⟩
  rintro i m σ' H' ⟨rfl, hil, F', δ', S', G', s', hr⟩
  by_cases hlt : i < ds.length
  · have hdi : ds[i]? = some ds[i] := List.getElem?_eq_getElem hlt
    have hdrop : ds.drop i = ds[i] :: ds.drop (i + 1) := List.drop_eq_getElem_cons hlt
    rw [hdrop] at hr
    obtain ⟨δ1, hp, hr⟩ := bind_some hr
    obtain ⟨r1, hb1, hr⟩ := bind_some hr
    obtain ⟨hgo, hy⟩ := (w i F' H' ⟨s', S'.sub⟩).1 _ hdi
    refine .inr ⟨hgo, fun σ' H' => i + 1 ≤ ds.length ∧ ∃ F' δ', Sd K H0 F' H' σ' δ' ∧ Go F0 H0 F' H' ∧ Same F1 F' ∧ forD p sb (ds.drop (i + 1)) δ' = some r,
      fun σ2 H2 hn => ⟨ds.length - (i + 1), by omega, rfl, hn⟩, fun x H2 hyld => ?_⟩
    obtain ⟨F2, g2, dx⟩ := hy x H2 hyld
    refine hg H0 σ' δ' F2 H2 x _ δ1 (S'.go g2) dx hp _ fun σ3 S3 _ => ?_
    refine hb H0 F0 σ3 δ1 F2 H2 r1 _ S3 (G'.trans g2) hb1 ?_
    have sF : Same F1 F2 := s'.trans g2.f
    cases r1 with
    | nx δ2 => exact fun σ4 F4 H4 S4 G4 s4 => ⟨hlt, F4, δ2, S4, G4, sF.trans s4, hr⟩
    | ct δ2 => exact fun σ4 F4 H4 S4 G4 s4 => ⟨hlt, F4, δ2, S4, G4, sF.trans s4, hr⟩
    | bk δ2 =>
      cases hr
      exact fun σ4 F4 H4 S4 G4 s4 => q σ4 F4 H4 S4 G4 (g1.f.trans (sF.trans s4))
    | rt d =>
      cases hr
      exact q
  · have hi' : i = ds.length := by omega
    subst hi'
    rw [List.drop_length] at hr
    cases hr
    exact .inl ⟨(w _ F' H' ⟨s', S'.sub⟩).2 (Nat.le_refl _), q σ' F' H' S' G' (g1.f.trans s')⟩
theorem sd_while (hc : ET K c gc) (hb : SD K t sb) : SD K (tWhile c t) (sWhile gc sb) := fun H0 F0 σ δ F H r D S G h q => by
  refine ⟨fun m σ' H' => ∃ F' δ', Sd K H0 F' H' σ' δ' ∧ Go F0 H0 F' H' ∧ Same F F' ∧ whileD gc sb m δ' = some r, ⟨fuel, F, δ, S, G, Same.refl F, h⟩, ?_⟩
  rintro m σ' H' ⟨F', δ', S', G', s', hr⟩
  cases m with
  | zero => cases hr
  | succ n =>
    obtain ⟨b, h1, h2⟩ := bind_some hr
    refine hc H0 σ' δ' F' H' b S' h1 _ fun F1 H1 g1 => ?_
    cases b with
    | true =>
      obtain ⟨r1, h3, h4⟩ := bind_some h2
      rw [if_pos rfl]
      refine ⟨fun σ' H' => ∃ F' δ', Sd K H0 F' H' σ' δ' ∧ Go F0 H0 F' H' ∧ Same F F' ∧ whileD gc sb n δ' = some r, fun σ2 H2 hn => ⟨n, Nat.lt_succ_self n, hn⟩, ?_⟩
      refine hb H0 F0 σ' δ' F1 H1 r1 _ (S'.go g1) (G'.trans g1) h3 ?_
      have sF : Same F F1 := s'.trans g1.f
      cases r1 with
      | nx δ2 => exact fun σ4 F4 H4 S4 G4 s4 => ⟨F4, δ2, S4, G4, sF.trans s4, h4⟩
      | ct δ2 => exact fun σ4 F4 H4 S4 G4 s4 => ⟨F4, δ2, S4, G4, sF.trans s4, h4⟩
      | bk δ2 =>
        cases h4
        exact fun σ4 F4 H4 S4 G4 s4 => q σ4 F4 H4 S4 G4 (sF.trans s4)
      | rt d =>
        cases h4
        exact q
    | false =>
      cases h2
      rw [if_neg Bool.false_ne_true]
      exact q σ' F1 H1 (S'.go g1) (G'.trans g1) (s'.trans g1.f)
/-! the owned list changed -/
theorem own_go {H0 F H F1 H1 : Hp} {σ : L2.St} {δ : DEnv} {i : Nat} {ds : List PyData} (S : Sd K H0 F H σ δ) (g1 : Go F H F1 H1) (hi : δ[i]? = some (DV.own ds)) :
    ∃ a vs, σ[i]? = some (some (V.ref a)) ∧ H a = some (.lst vs) ∧ H1 a = some (.lst vs) ∧ F1 a = none ∧ H0 a = none ∧ DqAll K F1 vs ds := by
  obtain ⟨a, vs, h1, h2, h3, h4, h5⟩ := S.own i ds hi
  exact ⟨a, vs, h1, h2, g1.h a _ h2, g1.sep a (ne_none h2) h3, h4, DqAll.mono g1.f h5⟩
theorem sd_app {i : Nat} (ha : ED K te fe) : SD K (tDrop (tBM K "list" rAppend (tVar i) (tCons te tNil))) (sApp i fe) := fun H0 F0 σ δ F H r D S G h q => by
  unfold sApp at h
  split at h
  · rename_i ds hi
    obtain ⟨d, h1, h2⟩ := bind_some h
    split at h2
    · rename_i hl
      cases h2
      obtain ⟨a0, vs0, z1, z2, _⟩ := S.own i ds hi
      refine ⟨.ref a0, z1, .inl ⟨rfl, _, SqL.of z2⟩, ?_⟩
      refine ha H0 σ δ F H d S h1 _ fun v F1 H1 g1 d1 => ?_
      obtain ⟨a, vs, e1, e0, e2, e3, e4, e5⟩ := own_go S g1 hi
      rw [z1] at e1
      cases e1
      refine ⟨a0, vs, v, rfl, rfl, e2, ?_, ?_⟩
      · rw [DqAll.len e5]
        exact small1000 hl
      · exact q σ F1 _ ((S.go g1).mut hi z1 e3 e4 (DqAll.app e5 (DqAll.one d1))) ((G.trans g1).mut e3 e4) g1.f
    · cases h2
  · cases h
def rIns : V → List V → Hp → VK → Prop := fun x vs H Q => ∃ (l : Addr) (xs : List V) (i : Int) (y : V), x = .ref l ∧ vs = [.int i, y] ∧ H l = some (.lst xs) ∧ xs.length < sizeLine ∧ 0 ≤ i ∧ i < 2 ^ 63 ∧
    Q .non (upd H l (.lst (xs.take i.toNat ++ [y] ++ xs.drop i.toNat)))
theorem sd_ins {i : Nat} (hk : ED K ta fa) (ha : ED K te fe) : SD K (tDrop (tBM K "list" rIns (tVar i) (tCons ta (tCons te tNil)))) (sIns i fa fe) := fun H0 F0 σ δ F H r D S G h q => by
  unfold sIns at h
  split at h
  · rename_i ds hi
    obtain ⟨x, h1, h2⟩ := bind_some h
    obtain ⟨d, h3, h4⟩ := bind_some h2
    split at h4
    · split at h4
      · rename_i hl
        cases h4
        obtain ⟨a0, vs0, z1, z2, _⟩ := S.own i ds hi
        refine ⟨.ref a0, z1, .inl ⟨rfl, _, SqL.of z2⟩, ?_⟩
        refine hk H0 σ δ F H _ S h1 _ fun w F1 H1 g1 d1 => ha H0 σ δ F1 H1 d (S.go g1) h3 _ fun v F2 H2 g2 d2 => ?_
        obtain ⟨a, vs, e1, e0, e2, e3, e4, e5⟩ := own_go S (g1.trans g2) hi
        rw [z1] at e1
        cases e1
        refine ⟨a0, vs, _, v, rfl, by rw [d1.i], e2, ?_, hl.2.1, by have := hl.2.2; omega, ?_⟩
        · rw [DqAll.len e5]
          exact small1000 hl.1
        · exact q σ F2 _ ((S.go (g1.trans g2)).mut hi z1 e3 e4 (DqAll.app (DqAll.app (DqAll.tk _ e5) (DqAll.one d2)) (DqAll.dr _ e5))) ((G.trans (g1.trans g2)).mut e3 e4) (g1.trans g2).f
      · cases h4
    · cases h4
  · cases h
theorem sd_put {i : Nat} (hk : ED K ta fa) (ha : ED K te fe) : SD K (tAsg te (gSub (tVar i) ta rSetL)) (sPut i fa fe) := fun H0 F0 σ δ F H r D S G h q => by
  obtain ⟨d, h1, h2⟩ := bind_some h
  split at h2
  · rename_i ds hi
    obtain ⟨x, h3, h4⟩ := bind_some h2
    split at h4
    · split at h4
      · rename_i n hl
        cases h4
        refine ha H0 σ δ F H d S h1 _ fun v F1 H1 g1 d1 => ?_
        obtain ⟨a0, vs0, z1, z2, _⟩ := S.own i ds hi
        refine ⟨.ref a0, z1, ?_⟩
        refine hk H0 σ δ F1 H1 _ (S.go g1) h3 _ fun w F2 H2 g2 d2 => ?_
        obtain ⟨a, vs, e1, e0, e2, e3, e4, e5⟩ := own_go S (g1.trans g2) hi
        rw [z1] at e1
        cases e1
        refine ⟨a0, vs, _, _, rfl, d2.i, e2, ?_, q σ F2 _ ((S.go (g1.trans g2)).mut hi z1 e3 e4 (DqAll.st _ e5 (Dq.mono g2.f d1))) ((G.trans (g1.trans g2)).mut e3 e4) (g1.trans g2).f⟩
        unfold ixN
        rw [if_pos hl.1, if_pos (by rw [DqAll.len e5]; exact hl.2)]
      · cases h4
    · cases h4
  · cases h2
end

/-! ### a def -/
def env0 (n : Nat) (ds : List PyData) : DEnv := ds.map DV.val ++ List.replicate (n - ds.length) .no
/-- what a def of n names and m parameters with this body makes of its arguments -/
def runD (m n : Nat) (body : FS) (ds : List PyData) : Option PyData := if ds.length = m then (body (env0 n ds)).bind fun r => match r with
  | .rt d => some d
  | .nx _ => some .none
  | _ => none else none
/-- the promise -/
def spD (K : PySem.W.Frag) (m : Nat) (f : List PyData → Option PyData) : Sp := fun vs H Q _ => vs.length = m ∧ ∃ F ds d, Same F H ∧ DqAll K F vs ds ∧ f ds = some d ∧ ∀ v F' H', Go F H F' H' → Dq K F' v d → Q v H'
theorem start_sd {K : PySem.W.Frag} {F H : Hp} {N : List Str} {vs : List V} {ds : List PyData} (s : Same F H) (d : DqAll K F vs ds) : Sd K H F H (L2.start N vs) (env0 N.length ds) := by
  have hl := DqAll.len d
  have key : ∀ {i : Nat} {x : DV}, (env0 N.length ds)[i]? = some x → (∃ e, ds[i]? = some e ∧ x = .val e) ∨ x = .no := fun {i x} h => by
    unfold env0 at h
    by_cases hi : i < ds.length
    · rw [List.getElem?_append_left (by simpa using hi), List.getElem?_map] at h
      obtain ⟨e, h1, h2⟩ := Option.map_eq_some_iff.mp h
      exact .inl ⟨e, h1, h2.symm⟩
    · rw [List.getElem?_append_right (by simpa using hi), List.getElem?_replicate] at h
      split at h
      · cases h
        exact .inr rfl
      · cases h
  refine ⟨?_, s, fun i e h => ?_, fun i es h => ?_, fun i j a es fs h => ?_⟩
  · unfold L2.start env0
    rw [List.length_append, List.length_append, List.length_map, List.length_map, List.length_replicate, List.length_replicate, hl]
  · rcases key h with ⟨e', h1, h2⟩ | h2
    · cases h2
      obtain ⟨v, h3, h4⟩ := DqAll.get d h1
      refine ⟨v, ?_, h4⟩
      have hi : i < vs.length := (List.getElem?_eq_some_iff.mp h3).1
      unfold L2.start
      rw [List.getElem?_append_left (by simpa using hi), List.getElem?_map, h3]
      rfl
    · cases h2
  · rcases key h with ⟨e', h1, h2⟩ | h2 <;> cases h2
  · rcases key h with ⟨e', h1, h2⟩ | h2 <;> cases h2
theorem tcall_ed {K : PySem.W.Frag} {m : Nat} {g : List PyData → Option PyData} {tl : TA} {ra : FA} (ha : EA K tl ra) (hm : ∀ δ ds, ra δ = some ds → ds.length = m) : ED K (tCall (spD K m g) [] E0 tl) (fCall g ra) := fun H0 σ δ F H z S h Q q => by
  obtain ⟨ds, h1, h2⟩ := bind_some h
  refine ha H0 σ δ F H ds S h1 _ fun vs F1 H1 g1 d1 => ?_
  show spD K m g (vs ++ []) H1 Q E0
  rw [List.append_nil]
  exact ⟨by rw [DqAll.len d1]; exact hm δ ds h1, F1, ds, z, g1.s, d1, h2, fun v F2 H2 g2 d2 => q v F2 H2 (g1.trans g2) d2⟩
/-- a body that does what f says keeps the promise -/
theorem body_ok {K : PySem.W.Frag} {ts : TS} {f : FS} {N : List Str} {m : Nat} {vs : List V} {H : Hp} {Q : VK} {E : XK} (hb : SD K ts f) (h : spD K m (runD m N.length f) vs H Q E) : ts { nx := fun _ H' => Q .non H', rt := Q } (L2.start N vs) H := by
  obtain ⟨hl, F, ds, d, s, da, hd, k⟩ := h
  unfold runD at hd
  split at hd
  · obtain ⟨r, h1, h2⟩ := bind_some hd
    refine hb H F (L2.start N vs) (env0 N.length ds) F H r _ (start_sd s da) (Go.refl s) h1 ?_
    cases r with
    | nx δ =>
      cases h2
      exact fun σ' F' H' _ G _ => k .non F' H' G .non
    | rt e =>
      cases h2
      exact fun v F' H' dv G => k v F' H' G dv
    | bk δ => cases h2
    | ct δ => cases h2
  · cases hd
end DL

set_option Elab.async false
set_option linter.all false
set_option maxRecDepth 100000
set_option maxHeartbeats 4000000
/-! DL5: a def's text and the function of data that it is: one lemma a construct. -/
namespace DL
open PySem PySem.Spec PyProof.Rows L2

abbrev Fd := List PyData → Option PyData
/-- where a text stands: its names by slot, its scope, which cells are its own, the defs and the constants that it may use, the slots that ever hold a list of its own, whether str of data is known -/
structure Ctx where
  N : List Str
  sc : Scope
  fnb : Str → Bool
  tab : List (Str × Nat × Fd)
  con : List (Str × PyData)
  ow : List Nat
  gs : Bool
def blts : List Str := ["len", "isinstance", "abs", "all", "sum", "sorted", "min", "set", "str", "range", "enumerate", "zip", "int", "bool", "list", "tuple"]
/-- what stands behind a name of the table -/
def Kept (X : Cx) (p : Str × Nat × Fd) : Prop := ∃ k f fd ps, FnOk X.prog X.w X.K X.mg X.base CX0 k f fd ps (spD X.K p.2.1 p.2.2) ∧ Room k X.A ∧ X.mg p.1 = some (.ref f) ∧ PySem.W.keepIn X.K (.ref f) = true ∧ Binds X.K fd ps []
structure Good (C : Ctx) (X : Cx) : Prop where
  N : X.N = C.N
  nd : C.N.Nodup
  sc : X.env.scope = C.sc
  knd : C.sc.kind = .function
  fn : X.fn = C.fnb
  calm : X.calm = true
  xe : X.xe = fun _ _ => False
  room : X.A.units + 70 < cLine
  blt : ∀ x ∈ blts, X.mg x = none
  con : ∀ p ∈ C.con, ∃ v u, X.mg p.1 = some u ∧ RelV v u ∧ ∀ F, Dq X.K F v p.2
  tab : ∀ p ∈ C.tab, Kept X p
  gs : C.gs = true → X.A.guards = some []

def PEc (C : Ctx) (e : Expr) (f : FE) : Prop := ∀ K, ∃ te, ED K te f ∧ ∀ X, Good C X → X.K = K → PE X e te
def PTc (C : Ctx) (e : Expr) (f : FT) : Prop := ∀ K, ∃ te, ET K te f ∧ ∀ X, Good C X → X.K = K → PT X e te
def PWc (C : Ctx) (e : Expr) (f : FT) : Prop := ∀ K, ∃ te, ET K te f ∧ ∀ X, Good C X → X.K = K → PW X e te
def PLc (C : Ctx) (e : Expr) (f : FA) : Prop := ∀ K, ∃ te, EL K te f ∧ ∀ X, Good C X → X.K = K → PE X e te
def PAc (C : Ctx) (es : List Expr) (f : FA) : Prop := (∀ δ ds, f δ = some ds → ds.length = es.length) ∧ ∀ K, ∃ te, EA K te f ∧ ∀ X, Good C X → X.K = K → PA X es te
def PIc (C : Ctx) (tg e : Expr) (f : FA) : Prop := ∀ K, ∃ wi, ID K wi f ∧ ∀ X, Good C X → X.K = K → PI X tg e wi
def PCc (C : Ctx) (tg e : Expr) (f : FA) : Prop := ∀ K, ∃ wi, IC K wi f ∧ ∀ X, Good C X → X.K = K → PI X tg e wi
def PGc (C : Ctx) (tg : Expr) (p : FP) (js : List Nat) : Prop := ∀ K, ∃ g, GD K g p js ∧ ∀ X, Good C X → X.K = K → PG X tg g
def PSc (C : Ctx) (st : Stmt) (f : FS) : Prop := ∀ K, ∃ ts, SD K ts f ∧ ∀ X, Good C X → X.K = K → PS X st ts
def PSsc (C : Ctx) (st : List Stmt) (f : FS) : Prop := ∀ K, ∃ ts, SD K ts f ∧ ∀ X, Good C X → X.K = K → PSs X st ts

section
variable {C : Ctx} {e a b : Expr} {es rest : List Expr} {fe fa fb : FE} {fr : FA} {ga gb : FT} {p p2 pos : Pos} {k : Nat}
/-! ### names, constants -/
def visB (sc : Scope) (x : Str) : Bool := match sc.names.lookup x with
  | some .local => true
  | some .cell => true
  | some .free => true
  | _ => false
theorem vis_of {sc : Scope} {x : Str} (h : visB sc x = true) : Vis sc x := by
  unfold visB at h
  split at h
  · exact .inl (by assumption)
  · exact .inr (.inl (by assumption))
  · exact .inr (.inr (by assumption))
  · cases h
def dunder (x : Str) : Bool := x == ("__debug__" : Str) || x == ("__classdict__" : Str) || x == ("__name__" : Str)
theorem dunder_of {x : Str} (h : dunder x = false) : (x == ("__debug__" : Str)) = false ∧ (x == ("__classdict__" : Str)) = false ∧ x ≠ "__name__" := by
  unfold dunder at h
  rw [Bool.or_eq_false_iff, Bool.or_eq_false_iff] at h
  exact ⟨h.1.1, h.1.2, fun z => by rw [z] at h; exact absurd h.2 (by simp)⟩
def glB (sc : Scope) (x : Str) : Bool := match sc.names.lookup x with
  | some .globalImplicit => true
  | _ => false
theorem Good.gl {X : Cx} (G : Good C X) {x : Str} (h : glB C.sc x = true) : Gl X x := by
  show X.env.scope.names.lookup x = _
  rw [G.sc]
  unfold glB at h
  split at h
  · assumption
  · cases h
theorem c_var {x : Str} {i : Nat} (h1 : C.N[i]? = some x) (h2 : visB C.sc x = true) (h3 : dunder x = false) : PEc C (.Name x pos) (fVar i) := fun K =>
  ⟨tVar i, ed_var, fun X G hK => pe_var (by rw [G.N]; exact h1) (by rw [G.sc]; exact vis_of h2) (dunder_of h3).1 (dunder_of h3).2.1⟩
theorem c_con {x : Str} {d : PyData} (h1 : (x, d) ∈ C.con) (h2 : glB C.sc x = true) (h3 : dunder x = false) : PEc C (.Name x pos) (fC d) := fun K =>
  ⟨fun σ H Q => ∀ v, (∀ F, Dq K F v d) → Q v H, fun H0 σ δ F H z S hz Q q v hv => by
    cases hz
    exact q v F H (Go.refl S.sub) (hv F), fun X G hK => by
    subst hK
    obtain ⟨v, u, m1, m2, m3⟩ := G.con _ h1
    exact ⟨fun pins s σ H Q I h => (pe_glob (G.gl h2) m1 m2 (dunder_of h3).1).run pins s σ H Q I (h v m3)⟩⟩
theorem c_int {i : Int} : PEc C (.Constant (.int i) k pos) (fC (.int i)) := fun K => ⟨_, ed_c fun F => .int i, fun X G hK => pe_int⟩
theorem c_bl {i : Bool} : PEc C (.Constant (.bool i) k pos) (fC (.bool i)) := fun K => ⟨_, ed_c fun F => .bl i, fun X G hK => pe_bl⟩
theorem c_non : PEc C (.Constant .none k pos) (fC .none) := fun K => ⟨_, ed_c fun F => .non, fun X G hK => pe_non⟩
theorem c_str {x : Str} : PEc C (.Constant (.str x) k pos) (fC (.str x)) := fun K => ⟨_, ed_c fun F => .str x, fun X G hK => pe_str⟩
/-! ### operators -/
theorem c_op {op : Operator} {r : PySem.W.Frag → R2} {g : PyData → PyData → Option PyData} (ho : ∀ X, Good C X → OpR X (binaryOp op) (r X.K)) (hr : ∀ K, RD K (r K) g) (ha : PEc C a fa) (hb : PEc C b fb) : PEc C (.BinOp a op b pos) (f2 g fa fb) := fun K => by
  obtain ⟨ta, h1, h2⟩ := ha K
  obtain ⟨tb, h3, h4⟩ := hb K
  exact ⟨_, ed_op h1 h3 (hr K), fun X G hK => by subst hK; exact pe_op (ho X G) (h2 X G rfl) (h4 X G rfl)⟩
theorem c_add (ha : PEc C a fa) (hb : PEc C b fb) : PEc C (.BinOp a .Add b pos) (f2 addD fa fb) := c_op (r := fun _ => _) (fun X G => op_or op_add op_cat) (fun K => rd_add) ha hb
theorem c_sub (ha : PEc C a fa) (hb : PEc C b fb) : PEc C (.BinOp a .Sub b pos) (f2 subD fa fb) := c_op (r := fun _ => _) (fun X G => op_sub) (fun K => rd_sub) ha hb
theorem c_mul (ha : PEc C a fa) (hb : PEc C b fb) : PEc C (.BinOp a .Mult b pos) (f2 mulD fa fb) := c_op (r := fun _ => _) (fun X G => op_or op_mulD op_rep) (fun K => rd_mul) ha hb
theorem c_div (ha : PEc C a fa) (hb : PEc C b fb) : PEc C (.BinOp a .FloorDiv b pos) (f2 divD fa fb) := c_op (r := fun _ => _) (fun X G => op_fdivW) (fun K => rd_div) ha hb
theorem c_mod (ha : PEc C a fa) (hb : PEc C b fb) : PEc C (.BinOp a .Mod b pos) (f2 modD fa fb) := c_op (r := fun _ => _) (fun X G => op_mod) (fun K => rd_mod) ha hb
theorem c_pow (ha : PEc C a fa) (hb : PEc C b fb) : PEc C (.BinOp a .Pow b pos) (f2 powD fa fb) := c_op (r := fun _ => _) (fun X G => op_pow) (fun K => rd_pow) ha hb
theorem c_neg (ha : PEc C a fa) : PEc C (.UnaryOp .USub a pos) (f1 negD fa) := fun K => by
  obtain ⟨ta, h1, h2⟩ := ha K
  exact ⟨_, ed_un h1 ru_neg, fun X G hK => pe_un un_neg (h2 X G hK)⟩
theorem c_cmp {op : CmpOp} {r : PySem.W.Frag → R2} {g : PyData → PyData → Option PyData} (ho : ∀ X, Good C X → OpR X (compareOp op) (r X.K)) (hr : ∀ K, RD K (r K) g) (hm : behindInMarks op b = false) (ha : PEc C a fa) (hb : PEc C b fb) :
    PEc C (.Compare a [op] [b] pos) (f2 g fa fb) := fun K => by
  obtain ⟨ta, h1, h2⟩ := ha K
  obtain ⟨tb, h3, h4⟩ := hb K
  exact ⟨_, ed_op h1 h3 (hr K), fun X G hK => by subst hK; exact pe_cmpR (ho X G) (h2 X G rfl) (h4 X G rfl) hm⟩
theorem pt_of {X : Cx} {op : CmpOp} {te : TE} (h : PE X (.Compare a [op] [b] pos) te) : True := trivial
theorem Good.r64 {X : Cx} (G : Good C X) : X.A.units + 64 < cLine := by have := G.room; omega
theorem Good.r65 {X : Cx} (G : Good C X) : X.A.units + 65 < cLine := by have := G.room; omega
theorem Good.r0 {X : Cx} (G : Good C X) : X.A.units < cLine := by have := G.room; omega
theorem c_eq (ha : PEc C a fa) (hb : PEc C b fb) : PEc C (.Compare a [.Eq] [b] pos) (f2 eqD fa fb) := c_cmp (r := fun K => rEqD K) (fun X G => op_eqD G.r64) (fun K => rd_eq) (nomark b) ha hb
theorem c_ne (ha : PEc C a fa) (hb : PEc C b fb) : PEc C (.Compare a [.NotEq] [b] pos) (f2 neD fa fb) := c_cmp (r := fun K => rNeD K) (fun X G => op_neD G.r64) (fun K => rd_ne) (nomark b) ha hb
theorem c_lt (ha : PEc C a fa) (hb : PEc C b fb) : PEc C (.Compare a [.Lt] [b] pos) (f2 ltD fa fb) := c_cmp (r := fun _ => _) (fun X G => op_lt) (fun K => rd_lt) (nomark b) ha hb
theorem c_gt (ha : PEc C a fa) (hb : PEc C b fb) : PEc C (.Compare a [.Gt] [b] pos) (f2 gtD fa fb) := c_cmp (r := fun _ => _) (fun X G => op_gt) (fun K => rd_gt) (nomark b) ha hb
theorem c_ge (ha : PEc C a fa) (hb : PEc C b fb) : PEc C (.Compare a [.GtE] [b] pos) (f2 geD fa fb) := c_cmp (r := fun _ => _) (fun X G => op_ge) (fun K => rd_ge) (nomark b) ha hb
theorem c_le (ha : PEc C a fa) (hb : PEc C b fb) : PEc C (.Compare a [.LtE] [b] pos) (f2 leD fa fb) := c_cmp (r := fun K => rOr _ (rLeT K)) (fun X G => op_or op_le (op_leT G.r0)) (fun K => rd_le) (nomark b) ha hb
theorem c_in (hm : behindInMarks .In b = false) (ha : PEc C a fa) (hb : PEc C b fb) : PEc C (.Compare a [.In] [b] pos) (f2 inD fa fb) := c_cmp (r := fun K => rOr (rInD K) (rInDT K)) (fun X G => op_or (op_inD G.r65) (op_inDT G.r65)) (fun K => rd_in) hm ha hb
theorem c_notIn (hm : behindInMarks .NotIn b = false) (ha : PEc C a fa) (hb : PEc C b fb) : PEc C (.Compare a [.NotIn] [b] pos) (f2 notInD fa fb) := c_cmp (r := fun K => rNotInD K) (fun X G => op_notInD G.r65) (fun K => rd_notIn) hm ha hb
theorem c_isN (ha : PEc C a fa) : PEc C (.Compare a [.Is] [.Constant .none k p] pos) (f1 isNoneD fa) := fun K => by
  obtain ⟨ta, h1, h2⟩ := ha K
  exact ⟨_, rd_isN h1, fun X G hK => pe_cmp (pc_isN (h2 X G hK))⟩
theorem c_notN (ha : PEc C a fa) : PEc C (.Compare a [.IsNot] [.Constant .none k p] pos) (f1 notNoneD fa) := fun K => by
  obtain ⟨ta, h1, h2⟩ := ha K
  exact ⟨_, rd_notN h1, fun X G hK => pe_cmp (pc_notN (h2 X G hK))⟩
theorem c_isBl {i : Bool} (ha : PEc C a fa) : PEc C (.Compare a [.Is] [.Constant (.bool i) k p] pos) (f2 isBlD fa (fC (.bool i))) := c_cmp (r := fun _ => _) (fun X G => op_is_bl) (fun K => rd_isBl) (nomark _) ha c_bl
theorem c_not (ha : PEc C a fa) : PEc C (.UnaryOp .Not a pos) (fNot fa) := fun K => by
  obtain ⟨ta, h1, h2⟩ := ha K
  exact ⟨_, ed_not h1, fun X G hK => pe_not (h2 X G hK)⟩
theorem c_one {op : BoolOp} (ha : PEc C a fa) : PEc C (.BoolOp op [a] pos) fa := fun K => by
  obtain ⟨ta, h1, h2⟩ := ha K
  exact ⟨_, h1, fun X G hK => pe_one (h2 X G hK)⟩
theorem c_and (ha : PEc C a fa) (hb : PEc C (.BoolOp .And (b :: rest) pos) fb) : PEc C (.BoolOp .And (a :: b :: rest) pos) (fAnd fa fb) := fun K => by
  obtain ⟨ta, h1, h2⟩ := ha K
  obtain ⟨tb, h3, h4⟩ := hb K
  exact ⟨_, ed_and h1 h3, fun X G hK => pe_and (h2 X G hK) (h4 X G hK)⟩
theorem c_or (ha : PEc C a fa) (hb : PEc C (.BoolOp .Or (b :: rest) pos) fb) : PEc C (.BoolOp .Or (a :: b :: rest) pos) (fOr fa fb) := fun K => by
  obtain ⟨ta, h1, h2⟩ := ha K
  obtain ⟨tb, h3, h4⟩ := hb K
  exact ⟨_, ed_or h1 h3, fun X G hK => pe_or (h2 X G hK) (h4 X G hK)⟩
theorem c_ifx {t : Expr} {gt : FT} (ht : PTc C t gt) (ha : PEc C a fa) (hb : PEc C b fb) : PEc C (.IfExp t a b pos) (fIf gt fa fb) := fun K => by
  obtain ⟨tt, h5, h6⟩ := ht K
  obtain ⟨ta, h1, h2⟩ := ha K
  obtain ⟨tb, h3, h4⟩ := hb K
  exact ⟨_, ed_if h5 h1 h3, fun X G hK => pe_ifExp (h6 X G hK) (h2 X G hK) (h4 X G hK)⟩
/-! ### tests -/
/-- a test that is an expression of no form of its own -/
def plainT : Expr → Bool
  | .Call .. => true
  | .Name .. => true
  | .Subscript .. => true
  | _ => false
theorem c_test (h : plainT e = true) (ha : PEc C e fe) : PTc C e (bOf fe) := fun K => by
  obtain ⟨ta, h1, h2⟩ := ha K
  refine ⟨_, et_B h1, fun X G hK => pt_val (h2 X G hK) ?_⟩
  cases e <;> first
    | (intro _; rfl)
    | cases h
theorem pt_cmpE {X : Cx} {op : CmpOp} {te : TE} (hm : behindInMarks op b = false) (h : PC X op a b te) : PT X (.Compare a [op] [b] pos) (tB te) := pt_cmp h hm
theorem pc_of {X : Cx} {op : CmpOp} {r : R2} {ta tb : TE} (ho : OpR X (compareOp op) r) (ha : PE X a ta) (hb : PE X b tb) : PC X op a b (tOp r ta tb) := ⟨fun pins s σ H Q I h =>
  bin ha hb I h fun v u s2 x y H2 I2 rx ry q => ho pins s2 σ H2 x y v u Q I2 rx ry q⟩
theorem c_tcmp {op : CmpOp} {r : PySem.W.Frag → R2} {g : PyData → PyData → Option PyData} (ho : ∀ X, Good C X → OpR X (compareOp op) (r X.K)) (hr : ∀ K, RD K (r K) g) (hm : behindInMarks op b = false) (ha : PEc C a fa) (hb : PEc C b fb) :
    PTc C (.Compare a [op] [b] pos) (bOf (f2 g fa fb)) := fun K => by
  obtain ⟨ta, h1, h2⟩ := ha K
  obtain ⟨tb, h3, h4⟩ := hb K
  exact ⟨_, et_B (ed_op h1 h3 (hr K)), fun X G hK => by subst hK; exact pt_cmp (pc_of (ho X G) (h2 X G rfl) (h4 X G rfl)) hm⟩
theorem t_eq (ha : PEc C a fa) (hb : PEc C b fb) : PTc C (.Compare a [.Eq] [b] pos) (bOf (f2 eqD fa fb)) := c_tcmp (r := fun K => rEqD K) (fun X G => op_eqD G.r64) (fun K => rd_eq) (nomark b) ha hb
theorem t_ne (ha : PEc C a fa) (hb : PEc C b fb) : PTc C (.Compare a [.NotEq] [b] pos) (bOf (f2 neD fa fb)) := c_tcmp (r := fun K => rNeD K) (fun X G => op_neD G.r64) (fun K => rd_ne) (nomark b) ha hb
theorem t_lt (ha : PEc C a fa) (hb : PEc C b fb) : PTc C (.Compare a [.Lt] [b] pos) (bOf (f2 ltD fa fb)) := c_tcmp (r := fun _ => _) (fun X G => op_lt) (fun K => rd_lt) (nomark b) ha hb
theorem t_gt (ha : PEc C a fa) (hb : PEc C b fb) : PTc C (.Compare a [.Gt] [b] pos) (bOf (f2 gtD fa fb)) := c_tcmp (r := fun _ => _) (fun X G => op_gt) (fun K => rd_gt) (nomark b) ha hb
theorem t_ge (ha : PEc C a fa) (hb : PEc C b fb) : PTc C (.Compare a [.GtE] [b] pos) (bOf (f2 geD fa fb)) := c_tcmp (r := fun _ => _) (fun X G => op_ge) (fun K => rd_ge) (nomark b) ha hb
theorem t_le (ha : PEc C a fa) (hb : PEc C b fb) : PTc C (.Compare a [.LtE] [b] pos) (bOf (f2 leD fa fb)) := c_tcmp (r := fun K => rOr _ (rLeT K)) (fun X G => op_or op_le (op_leT G.r0)) (fun K => rd_le) (nomark b) ha hb
theorem t_in (hm : behindInMarks .In b = false) (ha : PEc C a fa) (hb : PEc C b fb) : PTc C (.Compare a [.In] [b] pos) (bOf (f2 inD fa fb)) := c_tcmp (r := fun K => rOr (rInD K) (rInDT K)) (fun X G => op_or (op_inD G.r65) (op_inDT G.r65)) (fun K => rd_in) hm ha hb
theorem t_notIn (hm : behindInMarks .NotIn b = false) (ha : PEc C a fa) (hb : PEc C b fb) : PTc C (.Compare a [.NotIn] [b] pos) (bOf (f2 notInD fa fb)) := c_tcmp (r := fun K => rNotInD K) (fun X G => op_notInD G.r65) (fun K => rd_notIn) hm ha hb
theorem t_isN (ha : PEc C a fa) : PTc C (.Compare a [.Is] [.Constant .none k p] pos) (bOf (f1 isNoneD fa)) := fun K => by
  obtain ⟨ta, h1, h2⟩ := ha K
  exact ⟨_, et_B (rd_isN h1), fun X G hK => pt_cmp (pc_isN (h2 X G hK))⟩
theorem t_notN (ha : PEc C a fa) : PTc C (.Compare a [.IsNot] [.Constant .none k p] pos) (bOf (f1 notNoneD fa)) := fun K => by
  obtain ⟨ta, h1, h2⟩ := ha K
  exact ⟨_, et_B (rd_notN h1), fun X G hK => pt_cmp (pc_notN (h2 X G hK))⟩
theorem t_not (ha : PTc C a ga) : PTc C (.UnaryOp .Not a pos) (bNot ga) := fun K => by
  obtain ⟨ta, h1, h2⟩ := ha K
  exact ⟨_, et_not h1, fun X G hK => pt_not (h2 X G hK)⟩
theorem t_pw (ha : PWc C a ga) : PTc C a ga := fun K => by
  obtain ⟨ta, h1, h2⟩ := ha K
  exact ⟨_, h1, fun X G hK => PW.pt (h2 X G hK)⟩
theorem w_and1 (ha : PTc C a ga) : PWc C (.BoolOp .And [a] pos) ga := fun K => by
  obtain ⟨ta, h1, h2⟩ := ha K
  exact ⟨_, h1, fun X G hK => pw_and1 (h2 X G hK)⟩
theorem w_or1 (ha : PTc C a ga) : PWc C (.BoolOp .Or [a] pos) ga := fun K => by
  obtain ⟨ta, h1, h2⟩ := ha K
  exact ⟨_, h1, fun X G hK => pw_or1 (h2 X G hK)⟩
theorem w_and (ha : PTc C a ga) (hb : PWc C (.BoolOp .And (b :: rest) pos) gb) : PWc C (.BoolOp .And (a :: b :: rest) pos) (bAnd ga gb) := fun K => by
  obtain ⟨ta, h1, h2⟩ := ha K
  obtain ⟨tb, h3, h4⟩ := hb K
  exact ⟨_, et_and h1 h3, fun X G hK => pw_and (h2 X G hK) (h4 X G hK)⟩
theorem w_or (ha : PTc C a ga) (hb : PWc C (.BoolOp .Or (b :: rest) pos) gb) : PWc C (.BoolOp .Or (a :: b :: rest) pos) (bOr ga gb) := fun K => by
  obtain ⟨ta, h1, h2⟩ := ha K
  obtain ⟨tb, h3, h4⟩ := hb K
  exact ⟨_, et_or h1 h3, fun X G hK => pw_or (h2 X G hK) (h4 X G hK)⟩
/-! ### arguments -/
def noStar : Expr → Bool
  | .Starred .. => false
  | _ => true
theorem star_of {es : List Expr} {env : Env} (h : noStar e = true) : starEach (e :: es) env = (false, eval e env) :: starEach es env := by
  cases e <;> first
    | rfl
    | cases h
theorem back_of {pos : Pos} {env : Env} : ∀ {es : List Expr}, es.all noStar = true → (backTo pos (starEach es env)).any (·.1) = false
  | [], _ => rfl
  | e :: es, h => by
    rw [List.all_cons, Bool.and_eq_true] at h
    rw [star_of h.1]
    show ((false || (backTo pos (starEach es env)).any (·.1)) = false)
    rw [back_of h.2]
    rfl
theorem a_nil : PAc C [] fNil := ⟨fun δ ds h => by cases h; rfl, fun K => ⟨_, ea_nil, fun X G hK => pa_nil⟩⟩
theorem a_cons (hs : noStar e = true) (ha : PEc C e fe) (hr : PAc C es fr) : PAc C (e :: es) (fCons fe fr) := ⟨fun δ ds h => by
    obtain ⟨x, h1, h2⟩ := bind_some h
    obtain ⟨y, h3, h4⟩ := bind_some h2
    cases h4
    exact congrArg (· + 1) (hr.1 δ y h3), fun K => by
    obtain ⟨ta, h1, h2⟩ := ha K
    obtain ⟨tr, h3, h4⟩ := hr.2 K
    exact ⟨_, ea_cons h1 h3, fun X G hK => pa_cons (h2 X G hK) (h4 X G hK) (star_of hs)⟩⟩
theorem c_tup (hr : PAc C es fr) : PEc C (.Tuple es k pos) (fTup fr) := fun K => by
  obtain ⟨tr, h3, h4⟩ := hr.2 K
  exact ⟨_, ed_tup h3, fun X G hK => pe_tup (h4 X G hK)⟩
theorem l_lst (hr : PAc C es fr) : PLc C (.List es pos) (fLstN fr) := fun K => by
  obtain ⟨tr, h3, h4⟩ := hr.2 K
  exact ⟨_, el_lst h3, fun X G hK => pe_lst (h4 X G hK)⟩
theorem c_list (h : PLc C e fr) : PEc C e (fList fr) := fun K => by
  obtain ⟨ta, h1, h2⟩ := h K
  exact ⟨_, ed_list h1, h2⟩
/-! ### subscripts -/
def plainI : Expr → Bool
  | .Slice .. => false
  | .Tuple .. => false
  | _ => true
theorem c_ix (hs : plainI b = true) (ha : PEc C a fa) (hb : PEc C b fb) : PEc C (.Subscript a b pos) (f2 ixD fa fb) := fun K => by
  obtain ⟨ta, h1, h2⟩ := ha K
  obtain ⟨tb, h3, h4⟩ := hb K
  refine ⟨_, ed_op h1 h3 rd_ix, fun X G hK => ?_⟩
  subst hK
  refine pe_ix ix_seq (h2 X G rfl) (h4 X G rfl) ?_
  cases b <;> first
    | exact fun _ _ => rfl
    | cases hs
theorem c_to (ha : PEc C a fa) (hb : PEc C b fb) : PEc C (.Subscript a (.Slice none (some b) none p) pos) (f2 toD fa fb) := fun K => by
  obtain ⟨ta, h1, h2⟩ := ha K
  obtain ⟨tb, h3, h4⟩ := hb K
  refine ⟨_, ed_to h1 h3, fun X G hK => ?_⟩
  subst hK
  exact pe_slice (SlR.or sl_list sl_tup) (h2 X G rfl) po_none (po_some (h4 X G rfl))
/-! ### calls -/
theorem c_callB {x : Str} {id : String} {r : PySem.W.Frag → List V → Hp → VK → Prop} {g : Fd} (hc : ∀ X, Good C X → CallR X (.builtin id) (r X.K)) (hr : ∀ K, RC K (r K) g) (hv : bootBuiltins x = some (.builtin id)) (hx : x ∈ blts) (hg : glB C.sc x = true) (hd : dunder x = false)
    (hn : (e :: es).all noStar = true) (ha : PAc C (e :: es) fr) : PEc C (.Call (.Name x p) (e :: es) [] pos) (fCall g fr) := fun K => by
  obtain ⟨tr, h3, h4⟩ := ha.2 K
  rw [List.all_cons, Bool.and_eq_true] at hn
  refine ⟨_, ed_cb h3 (hr K), fun X G hK => ?_⟩
  subst hK
  exact pe_callB (hc X G) (G.gl hg) (G.blt x hx) hv (h4 X G rfl) (dunder_of hd).2.2 (dunder_of hd).1 (star_of hn.1) (back_of hn.2)
theorem c_setLen {x y : Str} {q : Pos} (hx : x = "len") (hy : y = "set") (hg : glB C.sc x = true) (hg2 : glB C.sc y = true) (hn : noStar a = true) (ha : PEc C a fa) :
    PEc C (.Call (.Name x p) [.Call (.Name y p2) [a] [] q] [] pos) (f1 setLenD fa) := fun K => by
  subst hx hy
  obtain ⟨ta, h1, h2⟩ := ha K
  refine ⟨_, ed_setLen h1, fun X G hK => ?_⟩
  subst hK
  exact RZ.pe_lenSetI (G.gl hg) (G.blt _ (by decide +kernel)) (G.gl hg2) (G.blt _ (by decide +kernel)) (h2 X G rfl) G.calm (star_of hn)
def tyNames : List (Str × String) := [("int", "int"), ("bool", "bool"), ("list", "list"), ("tuple", "tuple"), ("str", "str")]
theorem c_isi {x T : Str} {t : String} (hx : x = "isinstance") (hT : (T, t) ∈ tyNames) (hg : glB C.sc x = true) (hg2 : glB C.sc T = true) (hd : dunder T = false) (hn : noStar a = true) (ha : PEc C a fa) :
    PEc C (.Call (.Name x p) [a, .Name T p2] [] pos) (f1 (isiD t) fa) := fun K => by
  subst hx
  obtain ⟨ta, h1, h2⟩ := ha K
  have ht : (t = "int" ∨ t = "bool" ∨ t = "list" ∨ t = "tuple" ∨ t = "str") ∧ T ∈ blts ∧ bootBuiltins T = some (.type t) := by
    simp only [tyNames, List.mem_cons, Prod.mk.injEq, List.not_mem_nil, or_false] at hT
    rcases hT with ⟨rfl, rfl⟩ | ⟨rfl, rfl⟩ | ⟨rfl, rfl⟩ | ⟨rfl, rfl⟩ | ⟨rfl, rfl⟩
    · exact ⟨.inl rfl, by decide +kernel, by decide +kernel⟩
    · exact ⟨.inr (.inl rfl), by decide +kernel, by decide +kernel⟩
    · exact ⟨.inr (.inr (.inl rfl)), by decide +kernel, by decide +kernel⟩
    · exact ⟨.inr (.inr (.inr (.inl rfl))), by decide +kernel, by decide +kernel⟩
    · exact ⟨.inr (.inr (.inr (.inr rfl))), by decide +kernel, by decide +kernel⟩
  refine ⟨_, ed_isi ht.1 h1, fun X G hK => ?_⟩
  subst hK
  have hT2 : PE X (.Name T p2) (tC (.ty t)) := pe_bltn (G.gl hg2) (G.blt T ht.2.1) ht.2.2 rfl (dunder_of hd).2.2 (dunder_of hd).1
  exact pe_callB call_isi (G.gl hg) (G.blt _ (by decide +kernel)) boot_isinstance (pa_cons (h2 X G rfl) (pa_cons hT2 pa_nil (star_of rfl)) (star_of hn)) (by decide) (by decide) (star_of hn) (back_of (es := [.Name T p2]) rfl)
theorem c_fn {x : Str} {m : Nat} {g : Fd} (ht : (x, m, g) ∈ C.tab) (hl : (e :: es).length = m) (hg : glB C.sc x = true) (hd : dunder x = false) (hn : (e :: es).all noStar = true) (ha : PAc C (e :: es) fr) : PEc C (.Call (.Name x p) (e :: es) [] pos) (fCall g fr) := fun K => by
  obtain ⟨tr, h3, h4⟩ := ha.2 K
  rw [List.all_cons, Bool.and_eq_true] at hn
  refine ⟨tCall (spD K m g) [] E0 tr, tcall_ed h3 fun δ ds h => by rw [ha.1 δ ds h, hl], fun X G hK => ?_⟩
  subst hK
  obtain ⟨k, f, fd, ps, F, hr, hm, hk, hb⟩ := G.tab _ ht
  exact pe_call F hr (G.gl hg) hm hk hb .nil pass0 (h4 X G rfl) (dunder_of hd).1 (star_of hn.1) (back_of hn.2)
end
end DL

set_option Elab.async false
set_option linter.all false
set_option maxRecDepth 100000
set_option maxHeartbeats 4000000
/-! DL6: str of data, what is walked, comprehensions, targets, statements. -/
namespace DL
open PySem PySem.Spec PyProof.Rows L2

/-! ### str of a list of data -/
def strOk (d : PyData) : Prop := d.canLay0 = true ∧ d.showable = true ∧ d.depth ≤ 20 ∧ d.shown.length ≤ sizeLine
instance (d : PyData) : Decidable (strOk d) := by unfold strOk; infer_instance
def strD : Fd
  | [.list ds] => if strOk (.list ds) then some (.str (PyData.shown (.list ds))) else none
  | _ => none
def rStr (K : PySem.W.Frag) : List V → Hp → VK → Prop := fun xs H Q => ∃ a d, xs = [.ref a] ∧ Dp K H (.ref a) d ∧ strOk d ∧ Q (.str d.shown) H
theorem call_strD {X : Cx} (hg : X.A.guards = some []) (hu : X.A.units + 70 < cLine) : CallR X (.type "str") (rStr X.K) := by
  intro pins s σ H xs us Q I r h
  obtain ⟨a, d, rfl, hd, ⟨h1, h2, h3, h4⟩, q⟩ := h
  obtain ⟨u, rfl, ru⟩ := Vals.one r
  cases ru
  obtain ⟨as, rd⟩ := Dp.reads I d (.ref a) (.ref a) hd rfl
  exact PySem.str_of_reads rd h2 (PyData.noDict_hsm (PyData.hasDict_of_canLay d h1)) hg (by omega) (fun _ _ e => e) (fun h' u tk hk => ⟨.str d.shown, H, I.kept hk, ⟨u, rfl⟩, q⟩) h4
theorem rc_str {K : PySem.W.Frag} : RC K (rStr K) strD := fun F H xs ds z s dx h Q q => by
  unfold strD at h
  split at h
  · split at h
    · rename_i hc
      cases h
      obtain ⟨v, rfl, h1⟩ := dq_one dx
      obtain ⟨a, xs, rfl, h2, h3⟩ := h1.l
      exact ⟨a, _, rfl, dq_dp _ _ hc.1 (Dq.mono s h1), hc, q _ F H (Go.refl s) (.str _)⟩
    · cases h
  · cases h
section
variable {C : Ctx} {e a b tg it : Expr} {es rest : List Expr} {fe fa fb : FE} {fr fi : FA} {ga gb : FT} {p p2 pos : Pos} {k : Nat}
theorem c_strD {x : Str} (hx : x = "str") (hgs : C.gs = true) (hg : glB C.sc x = true) (hn : (e :: es).all noStar = true) (ha : PAc C (e :: es) fr) : PEc C (.Call (.Name x p) (e :: es) [] pos) (fCall strD fr) := fun K => by
  subst hx
  obtain ⟨tr, h3, h4⟩ := ha.2 K
  rw [List.all_cons, Bool.and_eq_true] at hn
  refine ⟨_, ed_cb h3 rc_str, fun X G hK => ?_⟩
  subst hK
  exact pe_callTy (call_strD (G.gs hgs) G.room) (G.gl hg) (G.blt _ (by decide +kernel)) PyProof.Rows.boot_str (h4 X G rfl) (by decide) (by decide) (star_of hn.1) (back_of hn.2)
/-! ### what is walked -/
theorem i_list (ha : PEc C e fe) : PIc C tg e (dList fe) := fun K => by
  obtain ⟨ta, h1, h2⟩ := ha K
  exact ⟨_, id_list h1, fun X G hK => by subst hK; exact pi_list (h2 X G rfl)⟩
theorem i_rng1 {x : Str} (hx : x = "range") (hg : glB C.sc x = true) (hn : noStar a = true) (ha : PEc C a fa) : PIc C tg (.Call (.Name x p) [a] [] pos) (dRange1 fa) := fun K => by
  subst hx
  obtain ⟨ta, h1, h2⟩ := ha K
  exact ⟨_, id_rng1 h1, fun X G hK => pi_range1 (G.gl hg) (G.blt _ (by decide +kernel)) (pa_cons (h2 X G hK) pa_nil (star_of hn)) (star_of hn)⟩
theorem i_rng2 {x : Str} (hx : x = "range") (hg : glB C.sc x = true) (hn : noStar a = true) (hn2 : noStar b = true) (ha : PEc C a fa) (hb : PEc C b fb) : PIc C tg (.Call (.Name x p) [a, b] [] pos) (dRange2 fa fb) := fun K => by
  subst hx
  obtain ⟨ta, h1, h2⟩ := ha K
  obtain ⟨tb, h3, h4⟩ := hb K
  exact ⟨_, id_rng2 h1 h3, fun X G hK => pi_range2 (G.gl hg) (G.blt _ (by decide +kernel)) (pa_cons (h2 X G hK) (pa_cons (h4 X G hK) pa_nil (star_of hn2)) (star_of hn)) (by rw [star_of hn, star_of hn2]; rfl) (star_of hn2)⟩
theorem i_enum {x : Str} {ts : List Expr} {kk : Nat} {tp : Pos} (hx : x = "enumerate") (hg : glB C.sc x = true) (hn : noStar a = true) (ha : PEc C a fa) : PIc C (.Tuple ts kk tp) (.Call (.Name x p) [a] [] pos) (dEnum fa) := fun K => by
  subst hx
  obtain ⟨ta, h1, h2⟩ := ha K
  exact ⟨_, id_enum h1, fun X G hK => by subst hK; exact pi_enum (G.gl hg) (G.blt _ (by decide +kernel)) (pa_cons (h2 X G rfl) pa_nil (star_of hn)) (star_of hn)⟩
theorem i_zip {x : Str} {ts : List Expr} {kk : Nat} {tp : Pos} (hx : x = "zip") (hg : glB C.sc x = true) (hn : noStar a = true) (hn2 : noStar b = true) (ha : PEc C a fa) (hb : PEc C b fb) : PIc C (.Tuple ts kk tp) (.Call (.Name x p) [a, b] [] pos) (dZip fa fb) := fun K => by
  subst hx
  obtain ⟨ta, h1, h2⟩ := ha K
  obtain ⟨tb, h3, h4⟩ := hb K
  exact ⟨_, id_zip h1 h3, fun X G hK => by
    subst hK
    exact pi_zip (G.gl hg) (G.blt _ (by decide +kernel)) (pa_cons (h2 X G rfl) (pa_cons (h4 X G rfl) pa_nil (star_of hn2)) (star_of hn)) (star_of hn) (back_of (es := [b]) (by rw [List.all_cons, hn2]; rfl))⟩
theorem i_ic (h : PIc C tg e fr) : PCc C tg e fr := fun K => by
  obtain ⟨wi, h1, h2⟩ := h K
  exact ⟨wi, h1.ic, h2⟩
theorem i_var {x : Str} {i : Nat} (h1 : C.N[i]? = some x) (h2 : visB C.sc x = true) (h3 : dunder x = false) : PCc C tg (.Name x pos) (dVar i) := fun K =>
  ⟨_, ic_var, fun X G hK => by subst hK; exact pi_list (pe_var (by rw [G.N]; exact h1) (by rw [G.sc]; exact vis_of h2) (dunder_of h3).1 (dunder_of h3).2.1)⟩
/-! ### targets -/
def stoB (C : Ctx) (x : Str) : Bool := match C.sc.names.lookup x with
  | some .local => true
  | some .cell => C.fnb x
  | _ => false
theorem Good.loc {X : Cx} (G : Good C X) {x : Str} (h : stoB C x = true) : Loc X.env.scope x ∧ (X.fn x = true ∨ X.env.scope.names.lookup x = some .local) := by
  rw [G.sc, G.fn]
  unfold stoB at h
  split at h
  · exact ⟨.inl (by assumption), .inr (by assumption)⟩
  · exact ⟨.inr (by assumption), .inl h⟩
  · cases h
theorem g_name {x : Str} {i : Nat} (h1 : C.N[i]? = some x) (h2 : stoB C x = true) : PGc C (.Name x pos) (pName i) [i] := fun K =>
  ⟨gName i, gd_name, fun X G hK => pg_name (by rw [G.N]; exact G.nd) (by rw [G.N]; exact h1) (G.loc h2).1 (G.loc h2).2⟩
/-- several names -/
def PNs (C : Ctx) (ts : List Expr) (js : List Nat) : Prop := ts.length = js.length ∧ ∀ K, ∃ g, GDs K g js ∧ ∀ X, Good C X → X.K = K → PGs X ts g ∧ (assignEach ts X.env).length = ts.length ∧ (assignEach ts X.env).findIdx? (·.1) = none
theorem ns_nil : PNs C [] [] := ⟨rfl, fun K => ⟨gNil, gds_nil, fun X G hK => ⟨pgs_nil, rfl, rfl⟩⟩⟩
theorem ns_cons {x : Str} {i : Nat} {js : List Nat} (h1 : C.N[i]? = some x) (h2 : stoB C x = true) (h : PNs C es js) : PNs C (.Name x pos :: es) (i :: js) := ⟨congrArg (· + 1) h.1, fun K => by
  obtain ⟨g, h3, h4⟩ := h.2 K
  refine ⟨gCons (gName i) g, gds_cons h3, fun X G hK => ?_⟩
  obtain ⟨h5, h6, h7⟩ := h4 X G hK
  refine ⟨pgs_cons (pg_name (by rw [G.N]; exact G.nd) (by rw [G.N]; exact h1) (G.loc h2).1 (G.loc h2).2) h5 (by rfl), ?_, ?_⟩
  · show (assignEach es X.env).length + 1 = es.length + 1
    rw [h6]
  · show (List.findIdx? (fun x => x.1) ((false, _) :: assignEach es X.env)) = none
    rw [List.findIdx?_cons, h7]
    rfl⟩
theorem g_tup {js : List Nat} (h : PNs C es js) : PGc C (.Tuple es k pos) (pTup js) js := fun K => by
  obtain ⟨g, h3, h4⟩ := h.2 K
  refine ⟨gTup K es.length g, gd_tup h.1.symm h3, fun X G hK => ?_⟩
  subst hK
  obtain ⟨h5, h6, h7⟩ := h4 X G rfl
  exact pg_tup G.calm h5 h6 h7
/-! ### comprehensions -/
def Ctx.blk (C : Ctx) (scope : Scope) : Ctx := { C with sc := relS scope C.sc, fnb := fun x => scope.names.lookup x == some .cell }
theorem Good.blk {X : Cx} (G : Good C X) {scope : Scope} (hk : scope.kind = .function) (s : Shared) (H : Hp) (D : Addr) (cl : List (Str × Addr)) (fp : List Addr) : Good (C.blk scope) (X.blk s H scope (compEnvC scope cl D X.env) fp) :=
  ⟨G.N, G.nd, by
    show relS scope X.env.scope = relS scope C.sc
    rw [G.sc], hk, rfl, G.calm, rfl, G.room, G.blt, G.con, G.tab, G.gs⟩
def PTsc (C : Ctx) (ifs : List Expr) (f : FT) : Prop := ∀ K, ∃ tt, ET K tt f ∧ ∀ X, Good C X → X.K = K → PTs X ifs tt
theorem ts_nil : PTsc C [] bYes := fun K => ⟨tYes, et_yes, fun X G hK => pts_nil⟩
theorem ts_one (h : PTc C e ga) : PTsc C [e] ga := fun K => by
  obtain ⟨t, h1, h2⟩ := h K
  exact ⟨t, h1, fun X G hK => pts_one (h2 X G hK)⟩
def isSet : Expr → Bool
  | .Set .. => true
  | _ => false
theorem set_of {env : Env} (h : isSet e = false) : ∀ x, foldedSetIterable e env x = pure x := by
  intro x
  cases e <;> first
    | rfl
    | cases h
theorem blk_kind {N : List Str} {sc scope : Scope} {own : List (Str × Nat)} (h : blkC N sc scope own = true) : scope.kind = .function := (blkOk_by h).kind
/-- what the rules of a comprehension ask -/
structure LcOk (K : PySem.W.Frag) (C : Ctx) (elt tg it : Expr) (ifs : List Expr) (scope : Scope) (own : List (Str × Nat)) (fi : FA) (pt : FP) (gt : FT) (fe : FE) (wi : TI) (g : TG) (tt : TT) (te : TE) : Prop where
  el : EL K (tLc wi g tt te (own.map (·.2))) (fComp fi pt gt fe (own.map (·.2)))
  rules : ∀ X, Good C X → X.K = K → PI X tg it wi ∧ BlkOk X.N X.env.scope scope own ∧ (∀ (s : Shared) (H : Hp) (D : Addr) (cl : List (Str × Addr)) (fp : List Addr), PG (X.blk s H scope (compEnvC scope cl D X.env) fp) tg g ∧ PTs (X.blk s H scope (compEnvC scope cl D X.env) fp) ifs tt ∧ PE (X.blk s H scope (compEnvC scope cl D X.env) fp) elt te)
theorem lc_ok {ifs : List Expr} {scope : Scope} {own : List (Str × Nat)} {pt : FP} {js : List Nat} {gt : FT} (hi : PCc C tg it fi) (hg : PGc (C.blk scope) tg pt js) (hj : (js.all fun j => (own.map (·.2)).contains j) = true) (ht : PTsc (C.blk scope) ifs gt) (he : PEc (C.blk scope) e fe)
    (hb : blkC C.N C.sc scope own = true) (K : PySem.W.Frag) : ∃ wi g tt te, LcOk K C e tg it ifs scope own fi pt gt fe wi g tt te := by
  obtain ⟨wi, h1, h2⟩ := hi K
  obtain ⟨g, h3, h4⟩ := hg K
  obtain ⟨tt, h5, h6⟩ := ht K
  obtain ⟨te, h7, h8⟩ := he K
  refine ⟨wi, g, tt, te, el_comp h1 h3 (fun j h => ?_) h5 h7, fun X G hK => ⟨h2 X G hK, ?_, fun s H D cl fp => ?_⟩⟩
  · have := List.all_eq_true.mp hj j h
    exact List.contains_iff_mem.mp this
  · rw [G.N, G.sc]
    exact blkOk_by hb
  · have G2 := G.blk (blk_kind hb) s H D cl fp
    exact ⟨h4 _ G2 hK, h6 _ G2 hK, h8 _ G2 hK⟩
theorem l_comp {ifs : List Expr} {scope : Scope} {own : List (Str × Nat)} {pt : FP} {js : List Nat} {gt : FT} (hi : PCc C tg it fi) (hg : PGc (C.blk scope) tg pt js) (hj : (js.all fun j => (own.map (·.2)).contains j) = true) (ht : PTsc (C.blk scope) ifs gt) (he : PEc (C.blk scope) e fe)
    (hb : blkC C.N C.sc scope own = true) (hs : isSet it = false) : PLc C (.ListComp e [⟨tg, it, ifs, 0⟩] scope pos) (fComp fi pt gt fe (own.map (·.2))) := fun K => by
  obtain ⟨wi, g, tt, te, L⟩ := lc_ok hi hg hj ht he hb K
  refine ⟨_, L.el, fun X G hK => ?_⟩
  obtain ⟨r1, r2, r3⟩ := L.rules X G hK
  exact pe_lc G.calm (by rw [G.N]; exact G.nd) r1 r2 (fun s H D cl fp => (r3 s H D cl fp).1) (fun s H D cl fp => (r3 s H D cl fp).2.1) (fun s H D cl fp => (r3 s H D cl fp).2.2) (set_of hs)
/-! ### statements -/
theorem s_frz {st : Stmt} {f : FS} (is : List Nat) (h : PSc C st f) : PSc C st (sFrz is f) := fun K => by
  obtain ⟨t, h1, h2⟩ := h K
  exact ⟨t, sd_frz h1, h2⟩
theorem s_dead {st : Stmt} : PSc C st sDead := fun K => ⟨tNever, sd_dead, fun X G hK => ps_never⟩
theorem s_ret (ha : PEc C e fe) : PSc C (.Return (some e) pos) (sRet fe) := fun K => by
  obtain ⟨t, h1, h2⟩ := ha K
  exact ⟨_, sd_ret h1, fun X G hK => ps_ret (h2 X G hK)⟩
theorem s_retN : PSc C (.Return none pos) sRetN := fun K => ⟨_, sd_retN, fun X G hK => ps_retN⟩
theorem s_pass : PSc C (.Pass pos) sSkip := fun K => ⟨_, sd_skip, fun X G hK => ps_pass⟩
def isComp : Expr → Bool
  | .ListComp .. => true
  | .SetComp .. => true
  | .DictComp .. => true
  | _ => false
theorem sw_not {t : Option Expr} {l : Nat} {env : Env} (h : isComp e = false) : swapsWith e t l env = pure false := by
  cases e <;> first
    | rfl
    | cases h
theorem s_set {x : Str} {i : Nat} {py : Pos} (h1 : C.N[i]? = some x) (h2 : stoB C x = true) (h3 : isComp e = false) (ha : PEc C e fe) : PSc C (.Assign [.Name x py] e pos) (sPat (pName i) fe) := fun K => by
  obtain ⟨t, h5, h6⟩ := ha K
  exact ⟨_, sd_pat h5 gd_name, fun X G hK => ps_set (by rw [G.N]; exact G.nd) (by rw [G.N]; exact h1) (G.loc h2).1 (h6 X G hK) (sw_not h3) (G.loc h2).2⟩
theorem s_own {x : Str} {i : Nat} {py : Pos} (h1 : C.N[i]? = some x) (h2 : stoB C x = true) (h3 : isComp e = false) (ha : PLc C e fr) : PSc C (.Assign [.Name x py] e pos) (sOwn i fr) := fun K => by
  obtain ⟨t, h5, h6⟩ := ha K
  exact ⟨_, sd_own h5, fun X G hK => ps_set (by rw [G.N]; exact G.nd) (by rw [G.N]; exact h1) (G.loc h2).1 (h6 X G hK) (sw_not h3) (G.loc h2).2⟩
theorem s_comp {x : Str} {i : Nat} {py q : Pos} {ifs : List Expr} {scope : Scope} {own : List (Str × Nat)} {pt : FP} {js : List Nat} {gt : FT} (h1 : C.N[i]? = some x) (h2 : C.sc.names.lookup x = some .local) (hl : (py.line == q.line) = true)
    (hn : (scope.names.any fun (n, k) => n == x && (k == .local || k == .cell)) = false) (hi : PCc C tg it fi) (hg : PGc (C.blk scope) tg pt js) (hj : (js.all fun j => (own.map (·.2)).contains j) = true) (ht : PTsc (C.blk scope) ifs gt) (he : PEc (C.blk scope) e fe)
    (hb : blkC C.N C.sc scope own = true) (hs : isSet it = false) : PSc C (.Assign [.Name x py] (.ListComp e [⟨tg, it, ifs, 0⟩] scope q) pos) (sOwn i (fComp fi pt gt fe (own.map (·.2)))) := fun K => by
  obtain ⟨wi, g, tt, te, L⟩ := lc_ok hi hg hj ht he hb K
  refine ⟨_, sd_own L.el, fun X G hK => ?_⟩
  obtain ⟨r1, r2, r3⟩ := L.rules X G hK
  have hloc : X.env.scope.names.lookup x = some .local := by rw [G.sc]; exact h2
  exact ps_setLc G.calm (by rw [G.N]; exact G.nd) (by rw [G.N]; exact h1) hloc (sw_true (by rw [G.sc]; exact G.knd) hloc hl hn) r1 r2 (fun s H D cl fp => (r3 s H D cl fp).1) (fun s H D cl fp => (r3 s H D cl fp).2.1) (fun s H D cl fp => (r3 s H D cl fp).2.2) (set_of hs)
theorem sw_cell {gs : List Comprehension} {scope : Scope} {q py : Pos} {x : Str} {l : Nat} {env : Env} (h : env.scope.names.lookup x = some .cell) : swapsWith (.ListComp e gs scope q) (some (.Name x py)) l env = pure false := by
  have k : env.kindOf x = some .cell := h
  unfold swapsWith
  have z : (env.kindOf x == some NameKind.local) = false := by rw [k]; rfl
  simp only [z, Bool.and_false, Bool.false_and]
theorem s_compC {x : Str} {i : Nat} {py q : Pos} {gs : List Comprehension} {scope : Scope} (h1 : C.N[i]? = some x) (h2 : C.sc.names.lookup x = some .cell) (h3 : C.fnb x = true) (ha : PLc C (.ListComp e gs scope q) fr) :
    PSc C (.Assign [.Name x py] (.ListComp e gs scope q) pos) (sOwn i fr) := fun K => by
  obtain ⟨t, h5, h6⟩ := ha K
  refine ⟨_, sd_own h5, fun X G hK => ?_⟩
  have hc : X.env.scope.names.lookup x = some .cell := by rw [G.sc]; exact h2
  exact ps_set (by rw [G.N]; exact G.nd) (by rw [G.N]; exact h1) (.inr hc) (h6 X G hK) (sw_cell hc) (.inl (by rw [G.fn]; exact h3))
def isTup : Expr → Bool
  | .Tuple .. => true
  | _ => false
theorem s_unp {ts : List Expr} {kk : Nat} {tp : Pos} {js : List Nat} (hg : PNs C ts js) (h3 : isComp e = false) (h4 : isTup e = false) (ha : PEc C e fe) : PSc C (.Assign [.Tuple ts kk tp] e pos) (sPat (pTup js) fe) := fun K => by
  obtain ⟨t, h5, h6⟩ := ha K
  obtain ⟨g, h7, h8⟩ := g_tup (k := kk) (pos := tp) hg K
  refine ⟨_, sd_pat h5 h7, fun X G hK => ps_asg (h6 X G hK) (h8 X G hK) (by cases e <;> first | rfl | exact (by cases h3)) ?_ rfl⟩
  cases e <;> first
    | rfl
    | cases h4
theorem s_par {x y : Str} {i j : Nat} {px py tp tp2 : Pos} {kt k2 : Nat} (h1 : C.N[i]? = some x) (h2 : C.N[j]? = some y) (hx : C.sc.names.lookup x = some .local) (hy : C.sc.names.lookup y = some .local) (hij : i ≠ j) (hna : noStar a = true) (hnb : noStar b = true)
    (hl : (py.line == px.line) = true) (hxy : (y == x) = false) (hf : ([a, b].all (foldedForSure 8)) = false) (hc : ([a, b].all (constantsAlone 8)) = false) (ha : PEc C a fa) (hb : PEc C b fb) :
    PSc C (.Assign [.Tuple [.Name x px, .Name y py] kt tp] (.Tuple [a, b] k2 tp2) pos) (sPar i j fa fb) := fun K => by
  obtain ⟨ta, h3, h4⟩ := ha K
  obtain ⟨tb, h5, h6⟩ := hb K
  refine ⟨_, sd_par h3 h5, fun X G hK => ?_⟩
  have kx : X.env.kindOf x = some .local := by show X.env.scope.names.lookup x = _; rw [G.sc]; exact hx
  have ky : X.env.kindOf y = some .local := by show X.env.scope.names.lookup y = _; rw [G.sc]; exact hy
  have kb : X.env.blockKind = .function := by
    unfold Env.blockKind
    rw [G.sc, G.knd]
    rfl
  refine ps_par G.calm (by rw [G.N]; exact G.nd) (by rw [G.N]; exact h1) (by rw [G.N]; exact h2) hij kx ky (pa_cons (h4 X G hK) (pa_cons (h6 X G hK) pa_nil (star_of hnb)) (star_of hna)) ?_ rfl
  have sa : ∀ F : Expr → Bool, (∀ e, noStar e = true → F e = false) → [a, b].any F = false := fun F hF => by
    rw [List.any_cons, List.any_cons, List.any_nil, hF a hna, hF b hnb]
    rfl
  unfold swappedStores
  simp only [List.length_cons, List.length_nil]
  rw [sa _ (fun e he => by cases e <;> first | rfl | exact (by cases he))]
  simp only [kb, hf, hc, kx, ky, List.filterMap_cons, List.filterMap_nil, List.head?_cons, Option.map_some, Option.getD_some, Expr.pos, hl, beq_self_eq_true, Bool.and_self, if_true, Bool.and_true]
  have hxy' : (x == y) = false := by
    cases q : x == y with
    | false => rfl
    | true =>
      have : x = y := by simpa using q
      rw [this, beq_self_eq_true] at hxy
      cases hxy
  simp [List.eraseDups, List.eraseDupsBy, List.eraseDupsBy.loop, hxy, hxy']
theorem s_expr {x : Str} {ks : List Keyword} (ha : PEc C (.Call (.Name x p) es ks p2) fe) : PSc C (.Expr (.Call (.Name x p) es ks p2) pos) (fun δ => (fe δ).bind fun _ => some (.nx δ)) := fun K => by
  obtain ⟨t, h1, h2⟩ := ha K
  exact ⟨_, sd_drop h1, fun X G hK => ps_expr (h2 X G hK)⟩
theorem s_app {x m : Str} {i : Nat} {px ap cp : Pos} (hm : m = "append") (h1 : C.N[i]? = some x) (h2 : visB C.sc x = true) (h3 : dunder x = false) (hl : (ap.endLine == cp.line) = true) (hn : noStar e = true) (ha : PEc C e fe) :
    PSc C (.Expr (.Call (.Attribute (.Name x px) m ap) [e] [] cp) pos) (sApp i fe) := fun K => by
  subst hm
  obtain ⟨t, h5, h6⟩ := ha K
  refine ⟨_, sd_app h5, fun X G hK => ?_⟩
  subst hK
  refine ps_expr (pe_bm PySem.F.plainAttrs_list PySem.F.slot_list_append PySem.F.type_list_append mt_append (pe_var (by rw [G.N]; exact h1) (by rw [G.sc]; exact vis_of h2) (dunder_of h3).1 (dunder_of h3).2.1) (pa_cons (h6 X G rfl) pa_nil (star_of hn)) rfl ?_ hl (star_of hn) rfl)
  rw [star_of hn]
  rfl
theorem s_ins {x m : Str} {i : Nat} {px ap cp : Pos} (hm : m = "insert") (h1 : C.N[i]? = some x) (h2 : visB C.sc x = true) (h3 : dunder x = false) (hl : (ap.endLine == cp.line) = true) (hna : noStar a = true) (hn : noStar e = true) (hk : PEc C a fa) (ha : PEc C e fe) :
    PSc C (.Expr (.Call (.Attribute (.Name x px) m ap) [a, e] [] cp) pos) (sIns i fa fe) := fun K => by
  subst hm
  obtain ⟨t, h5, h6⟩ := ha K
  obtain ⟨t', h7, h8⟩ := hk K
  refine ⟨_, sd_ins h7 h5, fun X G hK => ?_⟩
  subst hK
  refine ps_expr (pe_bm PySem.F.plainAttrs_list PySem.F.slot_list_insert PySem.F.type_list_insert (r := rIns) mt_insert (pe_var (by rw [G.N]; exact h1) (by rw [G.sc]; exact vis_of h2) (dunder_of h3).1 (dunder_of h3).2.1) (pa_cons (h8 X G rfl) (pa_cons (h6 X G rfl) pa_nil (star_of hn)) (star_of hna)) rfl ?_ hl (star_of hna) (back_of (es := [e]) (by rw [List.all_cons, hn]; rfl)))
  rw [star_of hna, star_of hn]
  rfl
theorem s_put {x : Str} {i : Nat} {px sp : Pos} (hp : plainI a = true) (h1 : C.N[i]? = some x) (h2 : visB C.sc x = true) (h3 : dunder x = false) (h4 : isComp e = false) (hk : PEc C a fa) (ha : PEc C e fe) :
    PSc C (.Assign [.Subscript (.Name x px) a sp] e pos) (sPut i fa fe) := fun K => by
  obtain ⟨t, h5, h6⟩ := ha K
  obtain ⟨t', h7, h8⟩ := hk K
  refine ⟨_, sd_put h7 h5, fun X G hK => ?_⟩
  exact ps_asg (h6 X G hK) (pg_sub (pe_var (by rw [G.N]; exact h1) (by rw [G.sc]; exact vis_of h2) (dunder_of h3).1 (dunder_of h3).2.1) (h8 X G hK) set_list (by cases a <;> first | (intro _; rfl) | exact (by cases hp))) (by cases e <;> first | rfl | exact (by cases h4)) rfl rfl
theorem s_if {t : Expr} {gt : FT} {A B : List Stmt} {sa sb : FS} (ht : PTc C t gt) (ha : PSsc C A sa) (hb : PSsc C B sb) : PSc C (.If t A B pos) (sIf gt sa sb) := fun K => by
  obtain ⟨tt, h1, h2⟩ := ht K
  obtain ⟨ta, h3, h4⟩ := ha K
  obtain ⟨tb, h5, h6⟩ := hb K
  exact ⟨_, sd_if h1 h3 h5, fun X G hK => ps_if (h2 X G hK) (h4 X G hK) (h6 X G hK)⟩
theorem s_for {A : List Stmt} {sa : FS} {pt : FP} {js : List Nat} (hi : PIc C tg it fi) (hg : PGc C tg pt js) (ha : PSsc C A sa) (hs : isSet it = false) : PSc C (.For tg it A [] pos) (sFor fi pt sa) := fun K => by
  obtain ⟨wi, h1, h2⟩ := hi K
  obtain ⟨g, h3, h4⟩ := hg K
  obtain ⟨ta, h5, h6⟩ := ha K
  exact ⟨_, sd_for h1 h3 h5, fun X G hK => ps_for (by rw [G.xe]; exact PassesOwn.never) G.calm (h2 X G hK) (h4 X G hK) (h6 X G hK) (set_of hs)⟩
theorem s_while {t : Expr} {gt : FT} {A : List Stmt} {sa : FS} (ht : PTc C t gt) (ha : PSsc C A sa) : PSc C (.While t A [] pos) (sWhile gt sa) := fun K => by
  obtain ⟨tt, h1, h2⟩ := ht K
  obtain ⟨ta, h5, h6⟩ := ha K
  exact ⟨_, sd_while h1 h5, fun X G hK => ps_while (by rw [G.xe]; exact PassesOwn.never) (h2 X G hK) (h6 X G hK)⟩
theorem ss_nil : PSsc C [] sSkip := fun K => ⟨_, sd_skip, fun X G hK => pss_nil⟩
theorem ss_one {st : Stmt} {f : FS} (h : PSc C st f) : PSsc C [st] f := fun K => by
  obtain ⟨t, h1, h2⟩ := h K
  exact ⟨t, h1, fun X G hK => pss_one (h2 X G hK)⟩
theorem ss_cons {st : Stmt} {r : List Stmt} {f g : FS} (h : PSc C st f) (hr : PSsc C r g) : PSsc C (st :: r) (sSeq f g) := fun K => by
  obtain ⟨t, h1, h2⟩ := h K
  obtain ⟨u, h3, h4⟩ := hr K
  exact ⟨_, sd_seq h1 h3, fun X G hK => pss_cons (h2 X G hK) (h4 X G hK)⟩
end
/-! ### a def -/
theorem def_ok {P : Program} {w : World} {K : PySem.W.Frag} {mg : Str → Option Value} {base : Heap} {C : Ctx} {x : Str} {st : Stmt} {f : Addr} {fd : FuncData} {ps : List Str} {k : Nat} {sb : FS} {dvs : List V} {kws : List (Str × V)}
    (F : FunD K x x (defArgs st) (defBody st) (defScope st) dvs kws f fd) (S : FnScope C.N ps (defScope st)) (hsc : C.sc = defScope st) (hfn : C.fnb = fun _ => true) (hgs : C.gs = false) (hb : PSsc C (defBody st) sb)
    (blt : ∀ x ∈ blts, mg x = none) (con : ∀ p ∈ C.con, ∃ v u, mg p.1 = some u ∧ RelV v u ∧ ∀ F, Dq K F v p.2)
    (tab : ∀ p ∈ C.tab, ∃ f fd ps, FnOk P w K mg base CX0 k f fd ps (spD K p.2.1 p.2.2) ∧ mg p.1 = some (.ref f) ∧ PySem.W.keepIn K (.ref f) = true ∧ Binds K fd ps []) :
    FnOk P w K mg base CX0 (k + 1) f fd ps (spD K ps.length (runD ps.length C.N.length sb)) := by
  obtain ⟨ts, h1, h2⟩ := hb K
  refine F.ok S (fun vs H Q E h => h.1) (fun cdv A outer s H vs Q E hr h => ⟨ts, PSs.nox ?_, body_ok (E := E) h1 h⟩)
  refine h2 _ ⟨rfl, S.nd, hsc.symm, by rw [hsc]; exact S.kind, by rw [hfn]; rfl, rfl, rfl, ?_, blt, con, fun p hp => ?_, fun z => by rw [hgs] at z; cases z⟩ rfl
  · have z := hr.un
    show (A.deeper (envOfC x (defScope st) s.heap.objs.size f cdv)).units + 70 < cLine
    omega
  · obtain ⟨f', fd', ps', F', m1, m2, m3⟩ := tab p hp
    exact ⟨k, f', fd', ps', F', hr, m1, m2, m3⟩
end DL

set_option Elab.async false
set_option linter.all false
set_option maxRecDepth 100000
set_option maxHeartbeats 4000000
/-! DL7: the function of data made of a text, with its certificate. -/
namespace DL
open PySem PySem.Spec PyProof.Rows L2
section
variable {C : Ctx} {e a b : Expr} {es : List Expr} {fr : FA} {p p2 pos : Pos}
theorem c_len {x : Str} (hx : x = "len") (hg : glB C.sc x = true) (hd : dunder x = false) (hn : (e :: es).all noStar = true) (ha : PAc C (e :: es) fr) : PEc C (.Call (.Name x p) (e :: es) [] pos) (fCall lenD fr) := by
  subst hx
  exact c_callB (r := fun K => _) (fun X G => call_len_seq) (fun K => rc_len) boot_len (by decide +kernel) hg hd hn ha
theorem c_abs {x : Str} (hx : x = "abs") (hg : glB C.sc x = true) (hd : dunder x = false) (hn : (e :: es).all noStar = true) (ha : PAc C (e :: es) fr) : PEc C (.Call (.Name x p) (e :: es) [] pos) (fCall absD fr) := by
  subst hx
  exact c_callB (r := fun K => _) (fun X G => call_abs) (fun K => rc_abs) boot_abs (by decide +kernel) hg hd hn ha
theorem c_all {x : Str} (hx : x = "all") (hg : glB C.sc x = true) (hd : dunder x = false) (hn : (e :: es).all noStar = true) (ha : PAc C (e :: es) fr) : PEc C (.Call (.Name x p) (e :: es) [] pos) (fCall allD fr) := by
  subst hx
  exact c_callB (r := fun K => rAll K) (fun X G => cr_all G.calm) (fun K => rc_all) boot_all (by decide +kernel) hg hd hn ha
theorem c_sum {x : Str} (hx : x = "sum") (hg : glB C.sc x = true) (hd : dunder x = false) (hn : (e :: es).all noStar = true) (ha : PAc C (e :: es) fr) : PEc C (.Call (.Name x p) (e :: es) [] pos) (fCall sumD fr) := by
  subst hx
  exact c_callB (r := fun K => rSum K) (fun X G => cr_sum G.calm) (fun K => rc_sum) boot_sum (by decide +kernel) hg hd hn ha
theorem c_sorted {x : Str} (hx : x = "sorted") (hg : glB C.sc x = true) (hd : dunder x = false) (hn : (e :: es).all noStar = true) (ha : PAc C (e :: es) fr) : PEc C (.Call (.Name x p) (e :: es) [] pos) (fCall sortedD fr) := by
  subst hx
  exact c_callB (r := fun K => rSorted K) (fun X G => cr_sorted) (fun K => rc_sorted) boot_sorted (by decide +kernel) hg hd hn ha
theorem c_min {x : Str} (hx : x = "min") (hg : glB C.sc x = true) (hd : dunder x = false) (hn : (e :: es).all noStar = true) (ha : PAc C (e :: es) fr) : PEc C (.Call (.Name x p) (e :: es) [] pos) (fCall minD fr) := by
  subst hx
  exact c_callB (r := fun K => _) (fun X G => call_min2 G.calm) (fun K => rc_min) boot_min (by decide +kernel) hg hd hn ha
end

abbrev RE (C : Ctx) (e : Expr) := Option {f : FE // PEc C e f}
abbrev RT (C : Ctx) (e : Expr) := Option {f : FT // PTc C e f}
abbrev RL (C : Ctx) (e : Expr) := Option {f : FA // PLc C e f}
abbrev Rec := (C : Ctx) → (e : Expr) → RE C e × RT C e
def slot (C : Ctx) (x : Str) : Nat := C.N.idxOf x
def cName (C : Ctx) (x : Str) (pos : Pos) : RE C (.Name x pos) :=
  if h : C.N[slot C x]? = some x ∧ visB C.sc x = true ∧ dunder x = false then some ⟨fVar (slot C x), c_var h.1 h.2.1 h.2.2⟩
  else match hq : C.con.find? (fun q => q.1 == x) with
    | some q => if h : q.1 = x ∧ glB C.sc x = true ∧ dunder x = false then some ⟨fC q.2, c_con (by
        have m := List.mem_of_find?_eq_some hq
        rw [← h.1]
        exact m) h.2.1 h.2.2⟩ else none
    | none => none
def cArgs (rec : Rec) (C : Ctx) : (es : List Expr) → Option {f : FA // PAc C es f}
  | [] => some ⟨fNil, a_nil⟩
  | e :: es => if h : noStar e = true then match (rec C e).1, cArgs rec C es with
      | some a, some r => some ⟨fCons a.1 r.1, a_cons h a.2 r.2⟩
      | _, _ => none
    else none
def cAnds (rec : Rec) (C : Ctx) (pos : Pos) : (es : List Expr) → RE C (.BoolOp .And es pos)
  | [] => none
  | [a] => match (rec C a).1 with
    | some a => some ⟨a.1, c_one a.2⟩
    | none => none
  | a :: b :: r => match (rec C a).1, cAnds rec C pos (b :: r) with
    | some a, some r => some ⟨fAnd a.1 r.1, c_and a.2 r.2⟩
    | _, _ => none
def cOrs (rec : Rec) (C : Ctx) (pos : Pos) : (es : List Expr) → RE C (.BoolOp .Or es pos)
  | [] => none
  | [a] => match (rec C a).1 with
    | some a => some ⟨a.1, c_one a.2⟩
    | none => none
  | a :: b :: r => match (rec C a).1, cOrs rec C pos (b :: r) with
    | some a, some r => some ⟨fOr a.1 r.1, c_or a.2 r.2⟩
    | _, _ => none
abbrev RW (C : Ctx) (e : Expr) := Option {f : FT // PWc C e f}
def tAnds (rec : Rec) (C : Ctx) (pos : Pos) : (es : List Expr) → RW C (.BoolOp .And es pos)
  | [] => none
  | [a] => match (rec C a).2 with
    | some a => some ⟨a.1, w_and1 a.2⟩
    | none => none
  | a :: b :: r => match (rec C a).2, tAnds rec C pos (b :: r) with
    | some a, some r => some ⟨bAnd a.1 r.1, w_and a.2 r.2⟩
    | _, _ => none
def tOrs (rec : Rec) (C : Ctx) (pos : Pos) : (es : List Expr) → RW C (.BoolOp .Or es pos)
  | [] => none
  | [a] => match (rec C a).2 with
    | some a => some ⟨a.1, w_or1 a.2⟩
    | none => none
  | a :: b :: r => match (rec C a).2, tOrs rec C pos (b :: r) with
    | some a, some r => some ⟨bOr a.1 r.1, w_or a.2 r.2⟩
    | _, _ => none
def cBin (C : Ctx) {a b : Expr} (x : {f : FE // PEc C a f}) (y : {f : FE // PEc C b f}) (pos : Pos) : (op : Operator) → RE C (.BinOp a op b pos)
  | .Add => some ⟨f2 addD x.1 y.1, c_add x.2 y.2⟩
  | .Sub => some ⟨f2 subD x.1 y.1, c_sub x.2 y.2⟩
  | .Mult => some ⟨f2 mulD x.1 y.1, c_mul x.2 y.2⟩
  | .FloorDiv => some ⟨f2 divD x.1 y.1, c_div x.2 y.2⟩
  | .Mod => some ⟨f2 modD x.1 y.1, c_mod x.2 y.2⟩
  | .Pow => some ⟨f2 powD x.1 y.1, c_pow x.2 y.2⟩
  | _ => none
def cCmp (C : Ctx) {a b : Expr} (x : {f : FE // PEc C a f}) (y : {f : FE // PEc C b f}) (pos : Pos) : (op : CmpOp) → RE C (.Compare a [op] [b] pos)
  | .Eq => some ⟨f2 eqD x.1 y.1, c_eq x.2 y.2⟩
  | .NotEq => some ⟨f2 neD x.1 y.1, c_ne x.2 y.2⟩
  | .Lt => some ⟨f2 ltD x.1 y.1, c_lt x.2 y.2⟩
  | .LtE => some ⟨f2 leD x.1 y.1, c_le x.2 y.2⟩
  | .Gt => some ⟨f2 gtD x.1 y.1, c_gt x.2 y.2⟩
  | .GtE => some ⟨f2 geD x.1 y.1, c_ge x.2 y.2⟩
  | .In => if h : behindInMarks .In b = false then some ⟨f2 inD x.1 y.1, c_in h x.2 y.2⟩ else none
  | .NotIn => if h : behindInMarks .NotIn b = false then some ⟨f2 notInD x.1 y.1, c_notIn h x.2 y.2⟩ else none
  | _ => none
def tCmp' (C : Ctx) {a b : Expr} (x : {f : FE // PEc C a f}) (y : {f : FE // PEc C b f}) (pos : Pos) : (op : CmpOp) → RT C (.Compare a [op] [b] pos)
  | .Eq => some ⟨bOf (f2 eqD x.1 y.1), t_eq x.2 y.2⟩
  | .NotEq => some ⟨bOf (f2 neD x.1 y.1), t_ne x.2 y.2⟩
  | .Lt => some ⟨bOf (f2 ltD x.1 y.1), t_lt x.2 y.2⟩
  | .LtE => some ⟨bOf (f2 leD x.1 y.1), t_le x.2 y.2⟩
  | .Gt => some ⟨bOf (f2 gtD x.1 y.1), t_gt x.2 y.2⟩
  | .GtE => some ⟨bOf (f2 geD x.1 y.1), t_ge x.2 y.2⟩
  | .In => if h : behindInMarks .In b = false then some ⟨bOf (f2 inD x.1 y.1), t_in h x.2 y.2⟩ else none
  | .NotIn => if h : behindInMarks .NotIn b = false then some ⟨bOf (f2 notInD x.1 y.1), t_notIn h x.2 y.2⟩ else none
  | _ => none
/-- a built-in's call or a def's, of one argument or more -/
def cGen (rec : Rec) (C : Ctx) (x : Str) (p : Pos) (e : Expr) (r : List Expr) (q : Pos) : RE C (.Call (.Name x p) (e :: r) [] q) :=
  if h : glB C.sc x = true ∧ dunder x = false ∧ (e :: r).all noStar = true then match cArgs rec C (e :: r) with
    | none => none
    | some ar => match hq : C.tab.find? (fun t => t.1 == x) with
      | some t => if h2 : t.1 = x ∧ (e :: r).length = t.2.1 then some ⟨fCall t.2.2 ar.1, c_fn (m := t.2.1) (by
          have m := List.mem_of_find?_eq_some hq
          rw [← h2.1]
          exact m) h2.2 h.1 h.2.1 h.2.2 ar.2⟩ else none
      | none =>
        if h3 : x = "len" then some ⟨fCall lenD ar.1, c_len h3 h.1 h.2.1 h.2.2 ar.2⟩
        else if h3 : x = "abs" then some ⟨fCall absD ar.1, c_abs h3 h.1 h.2.1 h.2.2 ar.2⟩
        else if h3 : x = "all" then some ⟨fCall allD ar.1, c_all h3 h.1 h.2.1 h.2.2 ar.2⟩
        else if h3 : x = "sum" then some ⟨fCall sumD ar.1, c_sum h3 h.1 h.2.1 h.2.2 ar.2⟩
        else if h3 : x = "sorted" then some ⟨fCall sortedD ar.1, c_sorted h3 h.1 h.2.1 h.2.2 ar.2⟩
        else if h3 : x = "min" then some ⟨fCall minD ar.1, c_min h3 h.1 h.2.1 h.2.2 ar.2⟩
        else if h3 : x = "str" ∧ C.gs = true then some ⟨fCall strD ar.1, c_strD h3.1 h3.2 h.1 h.2.2 ar.2⟩
        else none
  else none
def cCall (rec : Rec) (C : Ctx) (x : Str) (p : Pos) : (es : List Expr) → (q : Pos) → RE C (.Call (.Name x p) es [] q)
  | [], _ => none
  | [.Call (.Name y p2) [a] [] q2], q => if h : x = "len" ∧ y = "set" ∧ glB C.sc x = true ∧ glB C.sc y = true ∧ noStar a = true then match (rec C a).1 with
      | some a => some ⟨f1 setLenD a.1, c_setLen h.1 h.2.1 h.2.2.1 h.2.2.2.1 h.2.2.2.2 a.2⟩
      | none => none
    else cGen rec C x p (.Call (.Name y p2) [a] [] q2) [] q
  | [a, .Name T p2], q => if h0 : x = "isinstance" then match hq : tyNames.find? (fun t => t.1 == T) with
      | some t => if h : t.1 = T ∧ glB C.sc x = true ∧ glB C.sc T = true ∧ dunder T = false ∧ noStar a = true then match (rec C a).1 with
          | some a => some ⟨f1 (isiD t.2) a.1, c_isi h0 (by
              have m := List.mem_of_find?_eq_some hq
              rw [← h.1]
              exact m) h.2.1 h.2.2.1 h.2.2.2.1 h.2.2.2.2 a.2⟩
          | none => none
        else none
      | none => none
    else cGen rec C x p a [.Name T p2] q
  | e :: r, q => cGen rec C x p e r q
def cNs (C : Ctx) : (es : List Expr) → Option {js : List Nat // PNs C es js}
  | [] => some ⟨[], ns_nil⟩
  | .Name x p :: es => if h : C.N[slot C x]? = some x ∧ stoB C x = true then match cNs C es with
      | some r => some ⟨slot C x :: r.1, ns_cons h.1 h.2 r.2⟩
      | none => none
    else none
  | _ :: _ => none
def cTg (C : Ctx) : (tg : Expr) → Option {pj : FP × List Nat // PGc C tg pj.1 pj.2}
  | .Name x p => if h : C.N[slot C x]? = some x ∧ stoB C x = true then some ⟨(pName (slot C x), [slot C x]), g_name h.1 h.2⟩ else none
  | .Tuple es k p => match cNs C es with
    | some r => some ⟨(pTup r.1, r.1), g_tup r.2⟩
    | none => none
  | _ => none
def tgNames : Expr → List Str
  | .Name x _ => [x]
  | .Tuple es _ _ => es.filterMap fun
    | .Name x _ => some x
    | _ => none
  | _ => []
abbrev RI (C : Ctx) (tg it : Expr) := Option {f : FA // PIc C tg it f}
def cItL (rec : Rec) (C : Ctx) (tg it : Expr) : RI C tg it := match (rec C it).1 with
  | some a => some ⟨dList a.1, i_list a.2⟩
  | none => none
def cIt (rec : Rec) (C : Ctx) : (tg it : Expr) → RI C tg it
  | .Tuple ts kk tp, .Call (.Name x p) [a] [] q => if h : x = "enumerate" ∧ glB C.sc x = true ∧ noStar a = true then match (rec C a).1 with
      | some a => some ⟨dEnum a.1, i_enum h.1 h.2.1 h.2.2 a.2⟩
      | none => none
    else cItL rec C _ _
  | .Tuple ts kk tp, .Call (.Name x p) [a, b] [] q => if h : x = "zip" ∧ glB C.sc x = true ∧ noStar a = true ∧ noStar b = true then match (rec C a).1, (rec C b).1 with
      | some a, some b => some ⟨dZip a.1 b.1, i_zip h.1 h.2.1 h.2.2.1 h.2.2.2 a.2 b.2⟩
      | _, _ => none
    else cItL rec C _ _
  | tg, .Call (.Name x p) [a] [] q => if h : x = "range" ∧ glB C.sc x = true ∧ noStar a = true then match (rec C a).1 with
      | some a => some ⟨dRange1 a.1, i_rng1 h.1 h.2.1 h.2.2 a.2⟩
      | none => none
    else cItL rec C _ _
  | tg, .Call (.Name x p) [a, b] [] q => if h : x = "range" ∧ glB C.sc x = true ∧ noStar a = true ∧ noStar b = true then match (rec C a).1, (rec C b).1 with
      | some a, some b => some ⟨dRange2 a.1 b.1, i_rng2 h.1 h.2.1 h.2.2.1 h.2.2.2 a.2 b.2⟩
      | _, _ => none
    else cItL rec C _ _
  | tg, it => cItL rec C tg it
def cItC (rec : Rec) (C : Ctx) (tg : Expr) : (it : Expr) → Option {f : FA // PCc C tg it f}
  | .Name x p => if h : C.N[slot C x]? = some x ∧ visB C.sc x = true ∧ dunder x = false then some ⟨dVar (slot C x), i_var h.1 h.2.1 h.2.2⟩ else none
  | it => match cIt rec C tg it with
    | some a => some ⟨a.1, i_ic a.2⟩
    | none => none
def cIfs (rec : Rec) (C : Ctx) : (ifs : List Expr) → Option {f : FT // PTsc C ifs f}
  | [] => some ⟨bYes, ts_nil⟩
  | [c] => match (rec C c).2 with
    | some c => some ⟨c.1, ts_one c.2⟩
    | none => none
  | _ => none
/-- the parts of a comprehension -/
structure LcD (C : Ctx) (elt tg it : Expr) (ifs : List Expr) (scope : Scope) where
  own : List (Str × Nat)
  fi : {f : FA // PCc C tg it f}
  pt : {pj : FP × List Nat // PGc (C.blk scope) tg pj.1 pj.2}
  gt : {f : FT // PTsc (C.blk scope) ifs f}
  fe : {f : FE // PEc (C.blk scope) elt f}
  ok : (pt.1.2.all fun j => (own.map (·.2)).contains j) = true ∧ blkC C.N C.sc scope own = true ∧ isSet it = false
def cLc (rec : Rec) (C : Ctx) (elt tg it : Expr) (ifs : List Expr) (scope : Scope) : Option (LcD C elt tg it ifs scope) :=
  match cItC rec C tg it, cTg (C.blk scope) tg, cIfs rec (C.blk scope) ifs, (rec (C.blk scope) elt).1 with
  | some fi, some pt, some gt, some fe =>
    if h : (pt.1.2.all fun j => ((tgNames tg).map (slot C)).contains j) = true ∧ blkC C.N C.sc scope ((tgNames tg).map fun x => (x, slot C x)) = true ∧ isSet it = false then
      some ⟨(tgNames tg).map fun x => (x, slot C x), fi, pt, gt, fe, by rw [List.map_map]; exact h.1, h.2.1, h.2.2⟩
    else none
  | _, _, _, _ => none
def LcD.f {C : Ctx} {elt tg it : Expr} {ifs : List Expr} {scope : Scope} (d : LcD C elt tg it ifs scope) : FA := fComp d.fi.1 d.pt.1.1 d.gt.1 d.fe.1 (d.own.map (·.2))
theorem LcD.l {C : Ctx} {elt tg it : Expr} {ifs : List Expr} {scope : Scope} (d : LcD C elt tg it ifs scope) {k : Int} (hk : k = 0) (pos : Pos) : PLc C (.ListComp elt [⟨tg, it, ifs, k⟩] scope pos) d.f := by
  subst hk
  exact l_comp d.fi.2 d.pt.2 d.ok.1 d.gt.2 d.fe.2 d.ok.2.1 d.ok.2.2
def cLs (rec : Rec) (C : Ctx) : (e : Expr) → RL C e
  | .List es p => match cArgs rec C es with
    | some a => some ⟨fLstN a.1, l_lst a.2⟩
    | none => none
  | .ListComp elt [⟨tg, it, ifs, k⟩] scope pos => if hk : k = 0 then match cLc rec C elt tg it ifs scope with
      | some d => some ⟨d.f, d.l hk pos⟩
      | none => none
    else none
  | _ => none
def cVal (rec : Rec) (C : Ctx) : (e : Expr) → RE C e
  | .Name x p => cName C x p
  | .Constant (.int i) k p => some ⟨fC (.int i), c_int⟩
  | .Constant (.bool i) k p => some ⟨fC (.bool i), c_bl⟩
  | .Constant .none k p => some ⟨fC .none, c_non⟩
  | .Constant (.str x) k p => some ⟨fC (.str x), c_str⟩
  | .BinOp a op b p => match (rec C a).1, (rec C b).1 with
    | some x, some y => cBin C x y p op
    | _, _ => none
  | .UnaryOp .USub a p => match (rec C a).1 with
    | some x => some ⟨f1 negD x.1, c_neg x.2⟩
    | none => none
  | .UnaryOp .Not a p => match (rec C a).1 with
    | some x => some ⟨fNot x.1, c_not x.2⟩
    | none => none
  | .BoolOp .And es p => cAnds rec C p es
  | .BoolOp .Or es p => cOrs rec C p es
  | .Compare a [.Is] [.Constant .none k p2] p => match (rec C a).1 with
    | some x => some ⟨f1 isNoneD x.1, c_isN x.2⟩
    | none => none
  | .Compare a [.IsNot] [.Constant .none k p2] p => match (rec C a).1 with
    | some x => some ⟨f1 notNoneD x.1, c_notN x.2⟩
    | none => none
  | .Compare a [.Is] [.Constant (.bool i) k p2] p => match (rec C a).1 with
    | some x => some ⟨f2 isBlD x.1 (fC (.bool i)), c_isBl x.2⟩
    | none => none
  | .Compare a [op] [b] p => match (rec C a).1, (rec C b).1 with
    | some x, some y => cCmp C x y p op
    | _, _ => none
  | .IfExp t a b p => match (rec C t).2, (rec C a).1, (rec C b).1 with
    | some t, some x, some y => some ⟨fIf t.1 x.1 y.1, c_ifx t.2 x.2 y.2⟩
    | _, _, _ => none
  | .Call (.Name x p) es [] q => cCall rec C x p es q
  | .Subscript a (.Slice none (some b) none p) q => match (rec C a).1, (rec C b).1 with
    | some x, some y => some ⟨f2 toD x.1 y.1, c_to x.2 y.2⟩
    | _, _ => none
  | .Subscript a b q => if h : plainI b = true then match (rec C a).1, (rec C b).1 with
      | some x, some y => some ⟨f2 ixD x.1 y.1, c_ix h x.2 y.2⟩
      | _, _ => none
    else none
  | .Tuple es k p => match cArgs rec C es with
    | some a => some ⟨fTup a.1, c_tup a.2⟩
    | none => none
  | .List es p => match cLs rec C (.List es p) with
    | some a => some ⟨fList a.1, c_list a.2⟩
    | none => none
  | .ListComp elt gs scope p => match cLs rec C (.ListComp elt gs scope p) with
    | some a => some ⟨fList a.1, c_list a.2⟩
    | none => none
  | _ => none
def cTst (rec : Rec) (C : Ctx) : (e : Expr) → RT C e
  | .UnaryOp .Not a p => match (rec C a).2 with
    | some x => some ⟨bNot x.1, t_not x.2⟩
    | none => none
  | .BoolOp .And es p => match tAnds rec C p es with
    | some x => some ⟨x.1, t_pw x.2⟩
    | none => none
  | .BoolOp .Or es p => match tOrs rec C p es with
    | some x => some ⟨x.1, t_pw x.2⟩
    | none => none
  | .Compare a [.Is] [.Constant .none k p2] p => match (rec C a).1 with
    | some x => some ⟨bOf (f1 isNoneD x.1), t_isN x.2⟩
    | none => none
  | .Compare a [.IsNot] [.Constant .none k p2] p => match (rec C a).1 with
    | some x => some ⟨bOf (f1 notNoneD x.1), t_notN x.2⟩
    | none => none
  | .Compare a [op] [b] p => match (rec C a).1, (rec C b).1 with
    | some x, some y => tCmp' C x y p op
    | _, _ => none
  | e => if h : plainT e = true then match (rec C e).1 with
      | some x => some ⟨bOf x.1, c_test h x.2⟩
      | none => none
    else none
def cX : Nat → Rec
  | 0 => fun _ _ => (none, none)
  | n + 1 => fun C e => (cVal (cX n) C e, cTst (cX n) C e)

/-! ### statements -/
/-- the names that an expression takes as values -/
def uses : Nat → Expr → List Str
  | 0, _ => []
  | n + 1, e => match e with
    | .Name x _ => [x]
    | .BoolOp _ es _ => es.flatMap (uses n)
    | .BinOp a _ b _ => uses n a ++ uses n b
    | .UnaryOp _ a _ => uses n a
    | .IfExp t a b _ => uses n t ++ (uses n a ++ uses n b)
    | .Compare a _ bs _ => uses n a ++ bs.flatMap (uses n)
    | .Call _ es _ _ => es.flatMap (uses n)
    | .Subscript a b _ => uses n a ++ uses n b
    | .Slice lo hi st _ => (lo.toList ++ (hi.toList ++ st.toList)).flatMap (uses n)
    | .Tuple es _ _ => es.flatMap (uses n)
    | .List es _ => es.flatMap (uses n)
    | .ListComp elt gs _ _ => uses n elt ++ gs.flatMap fun g => (match g.iter with
      | .Name _ _ => []
      | it => uses n it) ++ g.ifs.flatMap (uses n)
    | _ => []
abbrev RS (C : Ctx) (st : Stmt) := {f : FS // PSc C st f}
def frzL (C : Ctx) (es : List Expr) : List Nat := (((es.flatMap (uses 40)).map (slot C)).filter fun i => C.ow.contains i).eraseDups
def wrap (C : Ctx) {st : Stmt} (is : List Nat) (s : RS C st) : RS C st := match is with
  | [] => s
  | i :: r => ⟨sFrz (i :: r) s.1, s_frz (i :: r) s.2⟩
def cAsgN (rec : Rec) (C : Ctx) (x : Str) (px : Pos) (e : Expr) (pos : Pos) : RS C (.Assign [.Name x px] e pos) :=
  if h : C.N[slot C x]? = some x ∧ stoB C x = true then
    match e with
    | .ListComp elt [⟨tg, it, ifs, k⟩] scope q => if hk : k = 0 then match cLc rec C elt tg it ifs scope with
        | some d =>
          if h2 : C.sc.names.lookup x = some .local ∧ (px.line == q.line) = true ∧ (scope.names.any fun (n, k) => n == x && (k == .local || k == .cell)) = false then
            ⟨sOwn (slot C x) d.f, by subst hk; exact s_comp h.1 h2.1 h2.2.1 h2.2.2 d.fi.2 d.pt.2 d.ok.1 d.gt.2 d.fe.2 d.ok.2.1 d.ok.2.2⟩
          else if h3 : C.sc.names.lookup x = some .cell ∧ C.fnb x = true then ⟨sOwn (slot C x) d.f, s_compC h.1 h3.1 h3.2 (d.l hk q)⟩
          else ⟨sDead, s_dead⟩
        | none => ⟨sDead, s_dead⟩
      else ⟨sDead, s_dead⟩
    | .List es q => match cLs rec C (.List es q) with
      | some a => ⟨sOwn (slot C x) a.1, s_own h.1 h.2 rfl a.2⟩
      | none => ⟨sDead, s_dead⟩
    | e => if h3 : isComp e = false then match (rec C e).1 with
        | some a => ⟨sPat (pName (slot C x)) a.1, s_set h.1 h.2 h3 a.2⟩
        | none => ⟨sDead, s_dead⟩
      else ⟨sDead, s_dead⟩
  else ⟨sDead, s_dead⟩
def cAsgT (rec : Rec) (C : Ctx) (ts : List Expr) (kt : Nat) (tp : Pos) (e : Expr) (pos : Pos) : RS C (.Assign [.Tuple ts kt tp] e pos) :=
  match ts, e with
  | [.Name x px, .Name y py], .Tuple [a, b] k2 p2 =>
    if h : C.N[slot C x]? = some x ∧ C.N[slot C y]? = some y ∧ C.sc.names.lookup x = some .local ∧ C.sc.names.lookup y = some .local ∧ slot C x ≠ slot C y ∧ noStar a = true ∧ noStar b = true ∧ (py.line == px.line) = true ∧ (y == x) = false ∧
        ([a, b].all (foldedForSure 8)) = false ∧ ([a, b].all (constantsAlone 8)) = false then
      match (rec C a).1, (rec C b).1 with
      | some u, some v => ⟨sPar (slot C x) (slot C y) u.1 v.1, s_par h.1 h.2.1 h.2.2.1 h.2.2.2.1 h.2.2.2.2.1 h.2.2.2.2.2.1 h.2.2.2.2.2.2.1 h.2.2.2.2.2.2.2.1 h.2.2.2.2.2.2.2.2.1 h.2.2.2.2.2.2.2.2.2.1 h.2.2.2.2.2.2.2.2.2.2 u.2 v.2⟩
      | _, _ => ⟨sDead, s_dead⟩
    else ⟨sDead, s_dead⟩
  | ts, e => if h : isComp e = false ∧ isTup e = false then match cNs C ts, (rec C e).1 with
      | some js, some a => ⟨sPat (pTup js.1) a.1, s_unp js.2 h.1 h.2 a.2⟩
      | _, _ => ⟨sDead, s_dead⟩
    else ⟨sDead, s_dead⟩
def cExp (rec : Rec) (C : Ctx) (e : Expr) (pos : Pos) : RS C (.Expr e pos) := match e with
  | .Call (.Attribute (.Name x px) m ap) [e] [] cp => if h : m = "append" ∧ C.N[slot C x]? = some x ∧ visB C.sc x = true ∧ dunder x = false ∧ (ap.endLine == cp.line) = true ∧ noStar e = true then match (rec C e).1 with
      | some a => wrap C (frzL C [e]) ⟨sApp (slot C x) a.1, s_app h.1 h.2.1 h.2.2.1 h.2.2.2.1 h.2.2.2.2.1 h.2.2.2.2.2 a.2⟩
      | none => ⟨sDead, s_dead⟩
    else ⟨sDead, s_dead⟩
  | .Call (.Attribute (.Name x px) m ap) [a, e] [] cp => if h : m = "insert" ∧ C.N[slot C x]? = some x ∧ visB C.sc x = true ∧ dunder x = false ∧ (ap.endLine == cp.line) = true ∧ noStar a = true ∧ noStar e = true then match (rec C a).1, (rec C e).1 with
      | some k, some v => wrap C (frzL C [a, e]) ⟨sIns (slot C x) k.1 v.1, s_ins h.1 h.2.1 h.2.2.1 h.2.2.2.1 h.2.2.2.2.1 h.2.2.2.2.2.1 h.2.2.2.2.2.2 k.2 v.2⟩
      | _, _ => ⟨sDead, s_dead⟩
    else ⟨sDead, s_dead⟩
  | .Call (.Name x p) es ks q => match (rec C (.Call (.Name x p) es ks q)).1 with
    | some a => wrap C (frzL C es) ⟨fun δ => (a.1 δ).bind fun _ => some (.nx δ), s_expr a.2⟩
    | none => ⟨sDead, s_dead⟩
  | _ => ⟨sDead, s_dead⟩
def cPut (rec : Rec) (C : Ctx) (x : Str) (px : Pos) (a : Expr) (sp : Pos) (e : Expr) (pos : Pos) : RS C (.Assign [.Subscript (.Name x px) a sp] e pos) :=
  if h : plainI a = true ∧ C.N[slot C x]? = some x ∧ visB C.sc x = true ∧ dunder x = false ∧ isComp e = false then match (rec C a).1, (rec C e).1 with
    | some k, some v => wrap C (frzL C [a, e]) ⟨sPut (slot C x) k.1 v.1, s_put h.1 h.2.1 h.2.2.1 h.2.2.2.1 h.2.2.2.2 k.2 v.2⟩
    | _, _ => ⟨sDead, s_dead⟩
  else ⟨sDead, s_dead⟩
def cBlock (C : Ctx) (rs : (st : Stmt) → RS C st) : (sts : List Stmt) → {f : FS // PSsc C sts f}
  | [] => ⟨sSkip, ss_nil⟩
  | [st] => ⟨(rs st).1, ss_one (rs st).2⟩
  | st :: st2 :: r => ⟨sSeq (rs st).1 (cBlock C rs (st2 :: r)).1, ss_cons (rs st).2 (cBlock C rs (st2 :: r)).2⟩
def cStm (C : Ctx) (rs : (st : Stmt) → RS C st) : (st : Stmt) → RS C st
  | .Return (some e) p => match ((cX 40) C e).1 with
    | some a => wrap C (frzL C [e]) ⟨sRet a.1, s_ret a.2⟩
    | none => ⟨sDead, s_dead⟩
  | .Return none p => ⟨sRetN, s_retN⟩
  | .Pass p => ⟨sSkip, s_pass⟩
  | .Assign [.Name x px] e p => wrap C (frzL C [e]) (cAsgN (cX 40) C x px e p)
  | .Assign [.Tuple ts kt tp] e p => wrap C (frzL C [e]) (cAsgT (cX 40) C ts kt tp e p)
  | .Assign [.Subscript (.Name x px) a sp] e p => cPut (cX 40) C x px a sp e p
  | .Expr e p => cExp (cX 40) C e p
  | .If t A B p => match ((cX 40) C t).2 with
    | some t' => wrap C (frzL C [t]) ⟨sIf t'.1 (cBlock C rs A).1 (cBlock C rs B).1, s_if t'.2 (cBlock C rs A).2 (cBlock C rs B).2⟩
    | none => ⟨sDead, s_dead⟩
  | .For tg it A [] p => match cIt (cX 40) C tg it, cTg C tg with
    | some i, some g => if h : isSet it = false then wrap C (frzL C [it]) ⟨sFor i.1 g.1.1 (cBlock C rs A).1, s_for i.2 g.2 (cBlock C rs A).2 h⟩ else ⟨sDead, s_dead⟩
    | _, _ => ⟨sDead, s_dead⟩
  | .While t A [] p => match ((cX 40) C t).2 with
    | some t' => wrap C (frzL C [t]) ⟨sWhile t'.1 (cBlock C rs A).1, s_while t'.2 (cBlock C rs A).2⟩
    | none => ⟨sDead, s_dead⟩
  | _ => ⟨sDead, s_dead⟩
def cSt : Nat → (C : Ctx) → (st : Stmt) → RS C st
  | 0, _, _ => ⟨sDead, s_dead⟩
  | n + 1, C, st => cStm C (cSt n C) st
def cBody (C : Ctx) (sts : List Stmt) : {f : FS // PSsc C sts f} := cBlock C (cSt 20 C) sts
end DL

set_option linter.all false
set_option maxRecDepth 100000
/-! Ir: the program's defs as functions of data (printed by genfiles.py from the program's text). -/
namespace DL
open PySem
def sDo (e : FE) : FS := fun δ => (e δ).bind fun _ => some (.nx δ)
def nought : PyData := .tuple [.int 0, .int 1]
def one : PyData := .tuple [.int 1, .int 1]
def alone : PyData := .tuple [.tuple [.str "least"], .tuple [.str "greatest"], .tuple [.str "product"]]
def B_common_of : FS := sSeq (sWhile (bOf (f2 neD (fVar 1) (fC (.int 0)))) (sPar 0 1 (fVar 1) (f2 modD (fVar 0) (fVar 1)))) (sRet (fCall absD (fCons (fVar 0) fNil)))
def F_common_of : Fd := runD 2 2 B_common_of
def B_is_whole : FS := sRet (fAnd (f1 (isiD "int") (fVar 0)) (fNot (f1 (isiD "bool") (fVar 0))))
def F_is_whole : Fd := runD 1 1 B_is_whole
def B_is_fraction : FS := sSeq (sIf (bOr (bNot (bOf (f1 (isiD "tuple") (fVar 0)))) (bOr (bOf (f2 neD (fCall lenD (fCons (fVar 0) fNil)) (fC (.int 2)))) (bOr (bNot (bOf (fCall F_is_whole (fCons (f2 ixD (fVar 0) (fC (.int 0))) fNil)))) (bNot (bOf (fCall F_is_whole (fCons (f2 ixD (fVar 0) (fC (.int 1))) fNil))))))) (sRet (fC (.bool false))) (sSkip)) (sRet (fAnd (f2 geD (f2 ixD (fVar 0) (fC (.int 1))) (fC (.int 1))) (f2 eqD (fCall F_common_of (fCons (f2 ixD (fVar 0) (fC (.int 0))) (fCons (f2 ixD (fVar 0) (fC (.int 1))) fNil))) (fC (.int 1)))))
def F_is_fraction : Fd := runD 1 1 B_is_fraction
def B_fraction_of : FS := sSeq (sIf (bOf (f2 eqD (fVar 1) (fC (.int 0)))) (sDead) (sSkip)) (sSeq (sPat (pName 2) (fCall F_common_of (fCons (fVar 0) (fCons (fVar 1) fNil)))) (sSeq (sIf (bOf (f2 ltD (fVar 1) (fC (.int 0)))) (sPat (pName 2) (f2 subD (fC (.int 0)) (fVar 2))) (sSkip)) (sRet (fTup (fCons (f2 divD (fVar 0) (fVar 2)) (fCons (f2 divD (fVar 1) (fVar 2)) fNil))))))
def F_fraction_of : Fd := runD 2 3 B_fraction_of
def B_frac_sum : FS := sRet (fCall F_fraction_of (fCons (f2 addD (f2 mulD (f2 ixD (fVar 0) (fC (.int 0))) (f2 ixD (fVar 1) (fC (.int 1)))) (f2 mulD (f2 ixD (fVar 1) (fC (.int 0))) (f2 ixD (fVar 0) (fC (.int 1))))) (fCons (f2 mulD (f2 ixD (fVar 0) (fC (.int 1))) (f2 ixD (fVar 1) (fC (.int 1)))) fNil)))
def F_frac_sum : Fd := runD 2 2 B_frac_sum
def B_frac_times : FS := sRet (fCall F_fraction_of (fCons (f2 mulD (f2 ixD (fVar 0) (fC (.int 0))) (f2 ixD (fVar 1) (fC (.int 0)))) (fCons (f2 mulD (f2 ixD (fVar 0) (fC (.int 1))) (f2 ixD (fVar 1) (fC (.int 1)))) fNil)))
def F_frac_times : Fd := runD 2 2 B_frac_times
def B_frac_below : FS := sRet (f2 ltD (f2 mulD (f2 ixD (fVar 0) (fC (.int 0))) (f2 ixD (fVar 1) (fC (.int 1)))) (f2 mulD (f2 ixD (fVar 1) (fC (.int 0))) (f2 ixD (fVar 0) (fC (.int 1)))))
def F_frac_below : Fd := runD 2 2 B_frac_below
def B_is_worth : FS := sRet (fAnd (fCall F_is_fraction (fCons (fVar 0) fNil)) (fAnd (f2 geD (f2 ixD (fVar 0) (fC (.int 0))) (fC (.int 0))) (f2 leD (f2 ixD (fVar 0) (fC (.int 0))) (f2 ixD (fVar 0) (fC (.int 1))))))
def F_is_worth : Fd := runD 1 1 B_is_worth
def B_are_worths : FS := sRet (fAnd (f1 (isiD "list") (fVar 0)) (fAnd (f2 eqD (fCall lenD (fCons (fVar 0) fNil)) (fVar 1)) (fCall allD (fCons (fList (fComp (dVar 0) (pName 2) bYes (fCall F_is_worth (fCons (fVar 2) fNil)) [2])) fNil))))
def F_are_worths : Fd := runD 2 3 B_are_worths
def B_is_book : FS := sSeq (sIf (bOr (bNot (bOf (f1 (isiD "list") (fVar 0)))) (bOr (bOf (f2 ltD (fCall lenD (fCons (fVar 0) fNil)) (fC (.int 1)))) (bOr (bOf (f2 gtD (fCall lenD (fCons (fVar 0) fNil)) (fC (.int 4)))) (bNot (bOf (f1 (isiD "list") (f2 ixD (fVar 0) (fC (.int 0))))))))) (sRet (fC (.bool false))) (sSkip)) (sSeq (sPat (pName 1) (fCall lenD (fCons (f2 ixD (fVar 0) (fC (.int 0))) fNil))) (sRet (fAnd (f2 geD (fVar 1) (fC (.int 1))) (fAnd (f2 leD (fVar 1) (fC (.int 12))) (fCall allD (fCons (fList (fComp (dVar 0) (pName 2) bYes (fCall F_are_worths (fCons (fVar 2) (fCons (fVar 1) fNil))) [2])) fNil))))))
def F_is_book : Fd := runD 1 3 B_is_book
def B_look_at_book : FS := sIf (bNot (bOf (fCall F_is_book (fCons (fVar 0) fNil)))) (sDead) (sSkip)
def F_look_at_book : Fd := runD 1 1 B_look_at_book
def B_order_of_1 : FS := sSeq (sOwn 4 (fComp (dVar 1) (pName 5) (bNot (bOf (fCall F_frac_below (fCons (f2 ixD (fVar 0) (fVar 5)) (fCons (fVar 3) fNil))))) (fVar 5) [5])) (sFrz [4] (sIns 1 (fCall lenD (fCons (fVar 4) fNil)) (fVar 2)))
def B_order_of : FS := sSeq (sOwn 1 (fLstN (fNil))) (sSeq (sFor (dEnum (fVar 0)) (pTup [2, 3]) B_order_of_1) (sFrz [1] (sRet (fVar 1))))
def F_order_of : Fd := runD 1 6 B_order_of
def B_is_weight : FS := sRet (fAnd (fCall F_is_fraction (fCons (fVar 0) fNil)) (f2 geD (f2 ixD (fVar 0) (fC (.int 0))) (fC (.int 0))))
def F_is_weight : Fd := runD 1 1 B_is_weight
def B_is_rule : FS := sSeq (sIf (bOr (bNot (bOf (f1 (isiD "tuple") (fVar 0)))) (bOr (bOf (f2 eqD (fCall lenD (fCons (fVar 0) fNil)) (fC (.int 0)))) (bNot (bOf (f1 (isiD "str") (f2 ixD (fVar 0) (fC (.int 0)))))))) (sRet (fC (.bool false))) (sSkip)) (sSeq (sIf (bAnd (bOf (f2 eqD (f2 ixD (fVar 0) (fC (.int 0))) (fC (.str "shares")))) (bAnd (bOf (f2 eqD (fCall lenD (fCons (fVar 0) fNil)) (fC (.int 2)))) (bOf (f1 (isiD "list") (f2 ixD (fVar 0) (fC (.int 1))))))) (sRet (fAnd (f2 eqD (fCall lenD (fCons (f2 ixD (fVar 0) (fC (.int 1))) fNil)) (fVar 1)) (fCall allD (fCons (fList (fComp (dList (f2 ixD (fVar 0) (fC (.int 1)))) (pName 2) bYes (fCall F_is_weight (fCons (fVar 2) fNil)) [2])) fNil)))) (sSkip)) (sSeq (sIf (bAnd (bOf (f2 eqD (f2 ixD (fVar 0) (fC (.int 0))) (fC (.str "middle")))) (bAnd (bOf (f2 eqD (fCall lenD (fCons (fVar 0) fNil)) (fC (.int 2)))) (bOf (fCall F_is_whole (fCons (f2 ixD (fVar 0) (fC (.int 1))) fNil))))) (sRet (fAnd (f2 gtD (f2 ixD (fVar 0) (fC (.int 1))) (fC (.int 0))) (f2 leD (f2 ixD (fVar 0) (fC (.int 1))) (fVar 1)))) (sSkip)) (sRet (fAnd (f2 eqD (fCall lenD (fCons (fVar 0) fNil)) (fC (.int 1))) (f2 inD (fVar 0) (fC alone))))))
def F_is_rule : Fd := runD 2 3 B_is_rule
def B_look_at_rule : FS := sIf (bNot (bOf (fCall F_is_rule (fCons (fVar 0) (fCons (fVar 1) fNil))))) (sDead) (sSkip)
def F_look_at_rule : Fd := runD 2 2 B_look_at_rule
def B_falling_1 : FS := sSeq (sPat (pName 3) (fCall lenD (fCons (fList (fComp (dVar 1) (pName 4) (bNot (bOf (fCall F_frac_below (fCons (fVar 4) (fCons (fVar 2) fNil))))) (fVar 4) [4])) fNil))) (sIns 1 (fVar 3) (fVar 2))
def B_falling : FS := sSeq (sOwn 1 (fLstN (fNil))) (sSeq (sFor (dList (fVar 0)) (pName 2) B_falling_1) (sFrz [1] (sRet (fVar 1))))
def F_falling : Fd := runD 1 5 B_falling
def B_place_of : FS := sSeq (sIf (bOf (f2 eqD (f2 ixD (fVar 0) (fC (.int 0))) (fC (.str "middle")))) (sRet (f2 ixD (fVar 0) (fC (.int 1)))) (sSkip)) (sSeq (sIf (bOf (f2 eqD (f2 ixD (fVar 0) (fC (.int 0))) (fC (.str "least")))) (sRet (fVar 1)) (sSkip)) (sRet (fC (.int 1))))
def F_place_of : Fd := runD 2 2 B_place_of
def B_worth_by_1 : FS := sPat (pName 2) (fCall F_frac_sum (fCons (fVar 2) (fCons (fCall F_frac_times (fCons (fVar 3) (fCons (fVar 4) fNil))) fNil)))
def B_worth_by_2 : FS := sPat (pName 2) (fCall F_frac_times (fCons (fVar 2) (fCons (fVar 4) fNil)))
def B_worth_by : FS := sSeq (sIf (bOf (f2 eqD (f2 ixD (fVar 0) (fC (.int 0))) (fC (.str "shares")))) (sSeq (sPat (pName 2) (fC nought)) (sSeq (sFor (dZip (f2 ixD (fVar 0) (fC (.int 1))) (fVar 1)) (pTup [3, 4]) B_worth_by_1) (sRet (fVar 2)))) (sSkip)) (sSeq (sIf (bOf (f2 eqD (f2 ixD (fVar 0) (fC (.int 0))) (fC (.str "product")))) (sSeq (sPat (pName 2) (fC one)) (sSeq (sFor (dList (fVar 1)) (pName 4) B_worth_by_2) (sRet (fVar 2)))) (sSkip)) (sRet (f2 ixD (fCall F_falling (fCons (fVar 1) fNil)) (f2 subD (fCall F_place_of (fCons (fVar 0) (fCons (fCall lenD (fCons (fVar 1) fNil)) fNil))) (fC (.int 1))))))
def F_worth_by : Fd := runD 2 5 B_worth_by
def B_look_at_count : FS := sIf (bOr (bNot (bOf (fCall F_is_whole (fCons (fVar 1) fNil)))) (bOr (bOf (f2 ltD (fVar 1) (fC (.int 0)))) (bOf (f2 gtD (fVar 1) (fCall lenD (fCons (f2 ixD (fVar 0) (fC (.int 0))) fNil)))))) (sDead) (sSkip)
def F_look_at_count : Fd := runD 2 2 B_look_at_count
def B_is_asked_1 : FS := sSeq (sIf (bOr (bNot (bOf (f1 (isiD "tuple") (fVar 4)))) (bOr (bOf (f2 neD (fCall lenD (fCons (fVar 4) fNil)) (fC (.int 2)))) (bOr (bNot (bOf (fCall F_is_whole (fCons (f2 ixD (fVar 4) (fC (.int 0))) fNil)))) (bNot (bOf (fCall F_is_whole (fCons (f2 ixD (fVar 4) (fC (.int 1))) fNil))))))) (sRet (fC (.bool false))) (sSkip)) (sSeq (sIf (bOr (bOf (f2 ltD (f2 ixD (fVar 4) (fC (.int 0))) (fC (.int 0)))) (bOr (bOf (f2 geD (f2 ixD (fVar 4) (fC (.int 0))) (fVar 1))) (bOr (bOf (f2 ltD (f2 ixD (fVar 4) (fC (.int 1))) (fC (.int 0)))) (bOf (f2 geD (f2 ixD (fVar 4) (fC (.int 1))) (fVar 2)))))) (sRet (fC (.bool false))) (sSkip)) (sSeq (sIf (bAnd (bOf (f1 notNoneD (fVar 3))) (bOf (f2 leD (fVar 4) (fVar 3)))) (sRet (fC (.bool false))) (sSkip)) (sPat (pName 3) (fVar 4))))
def B_is_asked : FS := sSeq (sIf (bNot (bOf (f1 (isiD "list") (fVar 0)))) (sRet (fC (.bool false))) (sSkip)) (sSeq (sPat (pName 3) (fC .none)) (sSeq (sFor (dList (fVar 0)) (pName 4) B_is_asked_1) (sRet (fC (.bool true)))))
def F_is_asked : Fd := runD 3 5 B_is_asked
def B_is_looks_1 : FS := sIf (bOr (bNot (bOf (fCall F_is_whole (fCons (fVar 4) fNil)))) (bOr (bOf (f2 ltD (fVar 4) (fC (.int 0)))) (bOf (f2 gtD (fVar 4) (fCall lenD (fCons (f2 ixD (fVar 0) (fC (.int 0))) fNil)))))) (sRet (fC (.bool false))) (sSkip)
def B_is_looks : FS := sSeq (sIf (bOr (bNot (bOf (f1 (isiD "tuple") (fVar 1)))) (bOf (f2 neD (fCall lenD (fCons (fVar 1) fNil)) (fC (.int 2))))) (sRet (fC (.bool false))) (sSkip)) (sSeq (sPat (pTup [2, 3]) (fVar 1)) (sSeq (sIf (bOr (bNot (bOf (f1 (isiD "list") (fVar 2)))) (bOf (f2 neD (fCall lenD (fCons (fVar 2) fNil)) (fCall lenD (fCons (fVar 0) fNil))))) (sRet (fC (.bool false))) (sSkip)) (sSeq (sFor (dList (fVar 2)) (pName 4) B_is_looks_1) (sRet (fCall F_is_asked (fCons (fVar 3) (fCons (fCall lenD (fCons (fVar 0) fNil)) (fCons (fCall lenD (fCons (f2 ixD (fVar 0) (fC (.int 0))) fNil)) fNil))))))))
def F_is_looks : Fd := runD 2 5 B_is_looks
def B_look_at_looks : FS := sIf (bNot (bOf (fCall F_is_looks (fCons (fVar 0) (fCons (fVar 1) fNil))))) (sDead) (sSkip)
def F_look_at_looks : Fd := runD 2 2 B_look_at_looks
def B_read_lines : FS := sRet (fList (fComp (dZip (fVar 0) (fVar 1)) (pTup [2, 3]) bYes (f2 toD (fCall F_order_of (fCons (fVar 2) fNil)) (fVar 3)) [2, 3]))
def F_read_lines : Fd := runD 2 4 B_read_lines
def B_seen_of_1 : FS := sIf (bOr (bOf (f2 inD (fVar 8) (fVar 6))) (bOf (f2 inD (fTup (fCons (fVar 5) (fCons (fVar 8) fNil))) (fVar 3)))) (sApp 7 (fVar 9)) (sApp 7 (fC .none))
def B_seen_of_2 : FS := sSeq (sOwn 7 (fLstN (fNil))) (sSeq (sFor (dEnum (f2 ixD (fVar 0) (fVar 5))) (pTup [8, 9]) B_seen_of_1) (sFrz [7] (sApp 4 (fVar 7))))
def B_seen_of : FS := sSeq (sPat (pTup [2, 3]) (fVar 1)) (sSeq (sOwn 4 (fLstN (fNil))) (sSeq (sFor (dEnum (fCall F_read_lines (fCons (fVar 0) (fCons (fVar 2) fNil)))) (pTup [5, 6]) B_seen_of_2) (sFrz [4] (sRet (fVar 4)))))
def F_seen_of : Fd := runD 2 10 B_seen_of
def B_seen_worths : FS := sSeq (sDo (fCall F_look_at_book (fCons (fVar 0) fNil))) (sSeq (sDo (fCall F_look_at_looks (fCons (fVar 0) (fCons (fVar 1) fNil)))) (sRet (fCall F_seen_of (fCons (fVar 0) (fCons (fVar 1) fNil)))))
def F_seen_worths : Fd := runD 2 2 B_seen_worths
def B_unread_of : FS := sSeq (sPat (pName 2) (fCall F_read_lines (fCons (fVar 0) (fCons (f2 ixD (fVar 1) (fC (.int 0))) fNil)))) (sRet (fCall lenD (fCons (fList (fComp (dList (f2 ixD (fVar 1) (fC (.int 1)))) (pName 3) (bOf (f2 notInD (f2 ixD (fVar 3) (fC (.int 1))) (f2 ixD (fVar 2) (f2 ixD (fVar 3) (fC (.int 0)))))) (fVar 3) [3])) fNil)))
def F_unread_of : Fd := runD 2 4 B_unread_of
def B_count_of : FS := sSeq (sDo (fCall F_look_at_book (fCons (fVar 0) fNil))) (sSeq (sDo (fCall F_look_at_looks (fCons (fVar 0) (fCons (fVar 1) fNil)))) (sRet (fTup (fCons (fCall sumD (fCons (f2 ixD (fVar 1) (fC (.int 0))) fNil)) (fCons (fCall F_unread_of (fCons (fVar 0) (fCons (fVar 1) fNil))) fNil)))))
def F_count_of : Fd := runD 2 2 B_count_of
def B_last_of_1 : FS := sIf (bOf (f2 eqD (fCall lenD (fCons (fVar 4) fNil)) (fC (.int 0)))) (sApp 2 (fC one)) (sApp 2 (f2 ixD (fVar 3) (f2 ixD (fVar 4) (f1 negD (fC (.int 1))))))
def B_last_of : FS := sSeq (sOwn 2 (fLstN (fNil))) (sSeq (sFor (dZip (fVar 0) (fCall F_read_lines (fCons (fVar 0) (fCons (fVar 1) fNil)))) (pTup [3, 4]) B_last_of_1) (sFrz [2] (sRet (fVar 2))))
def F_last_of : Fd := runD 2 5 B_last_of
def B_filled : FS := sRet (fList (fComp (dZip (fVar 0) (fVar 1)) (pTup [2, 3]) bYes (fIf (bOf (f1 isNoneD (fVar 2))) (fVar 3) (fVar 2)) [2, 3]))
def F_filled : Fd := runD 2 4 B_filled
def B_bounds_by_1 : FS := sSeq (sOwn 5 (fComp (dVar 1) (pName 7) bYes (f2 ixD (fVar 7) (fVar 4)) [7])) (sSeq (sFrz [5] (sPat (pName 6) (fCall F_worth_by (fCons (fVar 0) (fCons (fCall F_filled (fCons (fVar 5) (fCons (fList (fComp (dVar 1) (pName 7) bYes (fC nought) [7])) fNil))) fNil))))) (sFrz [5] (sApp 3 (fTup (fCons (fVar 6) (fCons (fCall F_worth_by (fCons (fVar 0) (fCons (fCall F_filled (fCons (fVar 5) (fCons (fVar 2) fNil))) fNil))) fNil))))))
def B_bounds_by : FS := sSeq (sOwn 3 (fLstN (fNil))) (sSeq (sFor (dRange1 (fCall lenD (fCons (f2 ixD (fVar 1) (fC (.int 0))) fNil))) (pName 4) B_bounds_by_1) (sFrz [3] (sRet (fVar 3))))
def F_bounds_by : Fd := runD 3 8 B_bounds_by
def B_bounds_of : FS := sRet (fCall F_bounds_by (fCons (fVar 1) (fCons (fCall F_seen_of (fCons (fVar 0) (fCons (fVar 2) fNil))) (fCons (fCall F_last_of (fCons (fVar 0) (fCons (f2 ixD (fVar 2) (fC (.int 0))) fNil))) fNil))))
def F_bounds_of : Fd := runD 3 3 B_bounds_of
def B_worth_bounds : FS := sSeq (sDo (fCall F_look_at_book (fCons (fVar 0) fNil))) (sSeq (sDo (fCall F_look_at_rule (fCons (fVar 1) (fCons (fCall lenD (fCons (fVar 0) fNil)) fNil)))) (sSeq (sDo (fCall F_look_at_looks (fCons (fVar 0) (fCons (fVar 2) fNil)))) (sRet (fCall F_bounds_of (fCons (fVar 0) (fCons (fVar 1) (fCons (fVar 2) fNil)))))))
def F_worth_bounds : Fd := runD 3 3 B_worth_bounds
def B_goes_ahead : FS := sSeq (sIf (bOf (f2 neD (f2 ixD (f2 ixD (fVar 0) (fVar 1)) (fC (.int 0))) (f2 ixD (f2 ixD (fVar 0) (fVar 2)) (fC (.int 0))))) (sRet (fCall F_frac_below (fCons (f2 ixD (f2 ixD (fVar 0) (fVar 2)) (fC (.int 0))) (fCons (f2 ixD (f2 ixD (fVar 0) (fVar 1)) (fC (.int 0))) fNil)))) (sSkip)) (sSeq (sIf (bOf (f2 neD (f2 ixD (f2 ixD (fVar 0) (fVar 1)) (fC (.int 1))) (f2 ixD (f2 ixD (fVar 0) (fVar 2)) (fC (.int 1))))) (sRet (fCall F_frac_below (fCons (f2 ixD (f2 ixD (fVar 0) (fVar 2)) (fC (.int 1))) (fCons (f2 ixD (f2 ixD (fVar 0) (fVar 1)) (fC (.int 1))) fNil)))) (sSkip)) (sRet (f2 ltD (fVar 1) (fVar 2))))
def F_goes_ahead : Fd := runD 3 3 B_goes_ahead
def B_in_turn_1 : FS := sSeq (sPat (pName 3) (fCall lenD (fCons (fList (fComp (dVar 1) (pName 4) (bOf (fCall F_goes_ahead (fCons (fVar 0) (fCons (fVar 4) (fCons (fVar 2) fNil))))) (fVar 4) [4])) fNil))) (sIns 1 (fVar 3) (fVar 2))
def B_in_turn : FS := sSeq (sOwn 1 (fLstN (fNil))) (sSeq (sFor (dRange1 (fCall lenD (fCons (fVar 0) fNil))) (pName 2) B_in_turn_1) (sFrz [1] (sRet (fVar 1))))
def F_in_turn : Fd := runD 1 5 B_in_turn
def B_are_sure_1 : FS := sIf (bAnd (bOf (f2 notInD (fVar 3) (fVar 1))) (bOf (fCall F_frac_below (fCons (f2 ixD (f2 ixD (fVar 0) (fVar 2)) (fC (.int 0))) (fCons (f2 ixD (f2 ixD (fVar 0) (fVar 3)) (fC (.int 1))) fNil))))) (sRet (fC (.bool false))) (sSkip)
def B_are_sure_2 : FS := sFor (dRange1 (fCall lenD (fCons (fVar 0) fNil))) (pName 3) B_are_sure_1
def B_are_sure : FS := sSeq (sFor (dList (fVar 1)) (pName 2) B_are_sure_2) (sRet (fC (.bool true)))
def F_are_sure : Fd := runD 2 4 B_are_sure
def B_sure_by : FS := sSeq (sPat (pName 2) (fCall sortedD (fCons (f2 toD (fCall F_in_turn (fCons (fVar 0) fNil)) (fVar 1)) fNil))) (sSeq (sIf (bOf (fCall F_are_sure (fCons (fVar 0) (fCons (fVar 2) fNil)))) (sRet (fVar 2)) (sSkip)) (sRet (fC .none)))
def F_sure_by : Fd := runD 2 3 B_sure_by
def B_sure_few : FS := sSeq (sDo (fCall F_look_at_book (fCons (fVar 0) fNil))) (sSeq (sDo (fCall F_look_at_rule (fCons (fVar 1) (fCons (fCall lenD (fCons (fVar 0) fNil)) fNil)))) (sSeq (sDo (fCall F_look_at_count (fCons (fVar 0) (fCons (fVar 2) fNil)))) (sSeq (sDo (fCall F_look_at_looks (fCons (fVar 0) (fCons (fVar 3) fNil)))) (sRet (fCall F_sure_by (fCons (fCall F_bounds_of (fCons (fVar 0) (fCons (fVar 1) (fCons (fVar 3) fNil)))) (fCons (fVar 2) fNil)))))))
def F_sure_few : Fd := runD 4 4 B_sure_few
def B_are_things_1 : FS := sSeq (sIf (bOr (bNot (bOf (fCall F_is_whole (fCons (fVar 3) fNil)))) (bOr (bOf (f2 leD (fVar 3) (fVar 2))) (bOf (f2 geD (fVar 3) (fVar 1))))) (sRet (fC (.bool false))) (sSkip)) (sPat (pName 2) (fVar 3))
def B_are_things : FS := sSeq (sIf (bNot (bOf (f1 (isiD "list") (fVar 0)))) (sRet (fC (.bool false))) (sSkip)) (sSeq (sPat (pName 2) (f1 negD (fC (.int 1)))) (sSeq (sFor (dList (fVar 0)) (pName 3) B_are_things_1) (sRet (fC (.bool true)))))
def F_are_things : Fd := runD 2 4 B_are_things
def B_look_at_things : FS := sIf (bNot (bOf (fCall F_are_things (fCons (fVar 1) (fCons (fCall lenD (fCons (f2 ixD (fVar 0) (fC (.int 0))) fNil)) fNil))))) (sDead) (sSkip)
def F_look_at_things : Fd := runD 2 2 B_look_at_things
def B_beaten_pair_1 : FS := sIf (bAnd (bOf (f2 notInD (fVar 3) (fVar 1))) (bOf (fCall F_frac_below (fCons (f2 ixD (f2 ixD (fVar 0) (fVar 2)) (fC (.int 0))) (fCons (f2 ixD (f2 ixD (fVar 0) (fVar 3)) (fC (.int 1))) fNil))))) (sRet (fTup (fCons (fVar 2) (fCons (fVar 3) fNil)))) (sSkip)
def B_beaten_pair_2 : FS := sFor (dRange1 (fCall lenD (fCons (fVar 0) fNil))) (pName 3) B_beaten_pair_1
def B_beaten_pair : FS := sSeq (sFor (dList (fVar 1)) (pName 2) B_beaten_pair_2) (sRet (fC .none))
def F_beaten_pair : Fd := runD 2 4 B_beaten_pair
def B_other_book (rest : FS) : FS := sSeq (sDo (fCall F_look_at_book (fCons (fVar 0) fNil))) (sSeq (sDo (fCall F_look_at_rule (fCons (fVar 1) (fCons (fCall lenD (fCons (fVar 0) fNil)) fNil)))) (sSeq (sDo (fCall F_look_at_things (fCons (fVar 0) (fCons (fVar 2) fNil)))) (sSeq (sDo (fCall F_look_at_looks (fCons (fVar 0) (fCons (fVar 3) fNil)))) (sSeq (sPat (pName 4) (fCall F_bounds_of (fCons (fVar 0) (fCons (fVar 1) (fCons (fVar 3) fNil))))) (sSeq (sPat (pName 5) (fCall F_beaten_pair (fCons (fVar 4) (fCons (fVar 2) fNil)))) (sSeq (sIf (bOf (f1 isNoneD (fVar 5))) (sRet (fC .none)) (sSkip)) (rest)))))))
def F_other_book (rest : FS) : Fd := runD 4 14 (B_other_book rest)
def B_seen_paper_1 : FS := sApp 5 (fList (fComp (dVar 7) (pName 8) bYes (fTup (fCons (fVar 8) (fCons (f2 ixD (fVar 6) (fVar 8)) fNil))) [8]))
def B_seen_paper : FS := sSeq (sDo (fCall F_look_at_book (fCons (fVar 0) fNil))) (sSeq (sDo (fCall F_look_at_rule (fCons (fVar 1) (fCons (fCall lenD (fCons (fVar 0) fNil)) fNil)))) (sSeq (sDo (fCall F_look_at_count (fCons (fVar 0) (fCons (fVar 2) fNil)))) (sSeq (sDo (fCall F_look_at_looks (fCons (fVar 0) (fCons (fVar 3) fNil)))) (sSeq (sPat (pName 4) (fCall F_sure_by (fCons (fCall F_bounds_of (fCons (fVar 0) (fCons (fVar 1) (fCons (fVar 3) fNil)))) (fCons (fVar 2) fNil)))) (sSeq (sIf (bOf (f1 isNoneD (fVar 4))) (sDead) (sSkip)) (sSeq (sOwn 5 (fLstN (fNil))) (sSeq (sFor (dZip (fVar 0) (fCall F_read_lines (fCons (fVar 0) (fCons (f2 ixD (fVar 3) (fC (.int 0))) fNil)))) (pTup [6, 7]) B_seen_paper_1) (sFrz [5] (sRet (fTup (fCons (fVar 5) (fCons (fList (fComp (dList (f2 ixD (fVar 3) (fC (.int 1)))) (pTup [9, 8]) bYes (fTup (fCons (fVar 9) (fCons (fVar 8) (fCons (f2 ixD (f2 ixD (fVar 0) (fVar 9)) (fVar 8)) fNil)))) [9, 8])) (fCons (fVar 4) fNil)))))))))))))
def F_seen_paper : Fd := runD 4 10 B_seen_paper
def B_is_number_below : FS := sRet (fAnd (fCall F_is_whole (fCons (fVar 0) fNil)) (fAnd (f2 geD (fVar 0) (fC (.int 0))) (f2 ltD (fVar 0) (fVar 1))))
def F_is_number_below : Fd := runD 2 2 B_is_number_below
def B_is_line : FS := sSeq (sIf (bOr (bNot (bOf (f1 (isiD "tuple") (fVar 0)))) (bOf (f2 neD (fCall lenD (fCons (fVar 0) fNil)) (fC (.int 2))))) (sRet (fC (.bool false))) (sSkip)) (sRet (fAnd (fCall F_is_number_below (fCons (f2 ixD (fVar 0) (fC (.int 0))) (fCons (fVar 1) fNil))) (fCall F_is_worth (fCons (f2 ixD (fVar 0) (fC (.int 1))) fNil))))
def F_is_line : Fd := runD 2 2 B_is_line
def B_goes_behind : FS := sSeq (sIf (bOf (f2 eqD (f2 ixD (fVar 0) (fC (.int 1))) (f2 ixD (fVar 1) (fC (.int 1))))) (sRet (f2 gtD (f2 ixD (fVar 0) (fC (.int 0))) (f2 ixD (fVar 1) (fC (.int 0))))) (sSkip)) (sRet (fCall F_frac_below (fCons (f2 ixD (fVar 0) (fC (.int 1))) (fCons (f2 ixD (fVar 1) (fC (.int 1))) fNil))))
def F_goes_behind : Fd := runD 2 2 B_goes_behind
def B_are_lines_1 : FS := sIf (bNot (bOf (fCall F_goes_behind (fCons (f2 ixD (fVar 0) (fVar 3)) (fCons (f2 ixD (fVar 0) (f2 subD (fVar 3) (fC (.int 1)))) fNil))))) (sRet (fC (.bool false))) (sSkip)
def B_are_lines : FS := sSeq (sIf (bOr (bNot (bOf (f1 (isiD "list") (fVar 0)))) (bNot (bOf (fCall allD (fCons (fList (fComp (dVar 0) (pName 4) bYes (fCall F_is_line (fCons (fVar 4) (fCons (fVar 1) fNil))) [4])) fNil))))) (sRet (fC (.bool false))) (sSkip)) (sSeq (sOwn 2 (fComp (dVar 0) (pName 4) bYes (f2 ixD (fVar 4) (fC (.int 0))) [4])) (sSeq (sFrz [2] (sIf (bOf (f2 neD (f1 setLenD (fVar 2)) (fCall lenD (fCons (fVar 2) fNil)))) (sRet (fC (.bool false))) (sSkip))) (sSeq (sFor (dRange2 (fC (.int 1)) (fCall lenD (fCons (fVar 0) fNil))) (pName 3) B_are_lines_1) (sSeq (sIf (bAnd (bOf (f2 gtD (fCall lenD (fCons (fVar 0) fNil)) (fC (.int 0)))) (bOf (f2 eqD (f2 ixD (f2 ixD (fVar 0) (f1 negD (fC (.int 1)))) (fC (.int 1))) (fC nought)))) (sFrz [2] (sRet (fCall allD (fCons (fList (fComp (dRange1 (f2 ixD (f2 ixD (fVar 0) (f1 negD (fC (.int 1)))) (fC (.int 0)))) (pName 5) bYes (f2 inD (fVar 5) (fVar 2)) [5])) fNil)))) (sSkip)) (sRet (fC (.bool true)))))))
def F_are_lines : Fd := runD 2 6 B_are_lines
def B_is_let_1 : FS := sIf (bOf (f2 eqD (fVar 3) (fVar 1))) (sRet (f2 eqD (fVar 4) (fVar 2))) (sSkip)
def B_is_let : FS := sSeq (sFor (dList (fVar 0)) (pTup [3, 4]) B_is_let_1) (sRet (fOr (f2 eqD (fCall lenD (fCons (fVar 0) fNil)) (fC (.int 0))) (fCall F_goes_behind (fCons (fTup (fCons (fVar 1) (fCons (fVar 2) fNil))) (fCons (f2 ixD (fVar 0) (f1 negD (fC (.int 1)))) fNil)))))
def F_is_let : Fd := runD 3 5 B_is_let
def B_are_asked_1 : FS := sSeq (sIf (bOr (bNot (bOf (f1 (isiD "tuple") (fVar 4)))) (bOr (bOf (f2 neD (fCall lenD (fCons (fVar 4) fNil)) (fC (.int 3)))) (bNot (bOf (fCall F_is_worth (fCons (f2 ixD (fVar 4) (fC (.int 2))) fNil)))))) (sRet (fC (.bool false))) (sSkip)) (sSeq (sIf (bOr (bNot (bOf (fCall F_is_number_below (fCons (f2 ixD (fVar 4) (fC (.int 0))) (fCons (fCall lenD (fCons (fVar 1) fNil)) fNil))))) (bNot (bOf (fCall F_is_number_below (fCons (f2 ixD (fVar 4) (fC (.int 1))) (fCons (fVar 2) fNil)))))) (sRet (fC (.bool false))) (sSkip)) (sSeq (sIf (bOr (bAnd (bOf (f1 notNoneD (fVar 3))) (bOf (f2 leD (f2 toD (fVar 4) (fC (.int 2))) (fVar 3)))) (bNot (bOf (fCall F_is_let (fCons (f2 ixD (fVar 1) (f2 ixD (fVar 4) (fC (.int 0)))) (fCons (f2 ixD (fVar 4) (fC (.int 1))) (fCons (f2 ixD (fVar 4) (fC (.int 2))) fNil))))))) (sRet (fC (.bool false))) (sSkip)) (sPat (pName 3) (f2 toD (fVar 4) (fC (.int 2))))))
def B_are_asked : FS := sSeq (sIf (bNot (bOf (f1 (isiD "list") (fVar 0)))) (sRet (fC (.bool false))) (sSkip)) (sSeq (sPat (pName 3) (fC .none)) (sSeq (sFor (dList (fVar 0)) (pName 4) B_are_asked_1) (sRet (fC (.bool true)))))
def F_are_asked : Fd := runD 3 5 B_are_asked
def B_is_paper : FS := sSeq (sIf (bOr (bNot (bOf (f1 (isiD "tuple") (fVar 0)))) (bOf (f2 neD (fCall lenD (fCons (fVar 0) fNil)) (fC (.int 3))))) (sRet (fC (.bool false))) (sSkip)) (sSeq (sPat (pTup [2, 3, 4]) (fVar 0)) (sSeq (sIf (bOr (bNot (bOf (f1 (isiD "list") (fVar 2)))) (bOr (bOf (f2 eqD (fCall lenD (fCons (fVar 2) fNil)) (fC (.int 0)))) (bOf (f2 gtD (fCall lenD (fCons (fVar 2) fNil)) (fC (.int 4)))))) (sRet (fC (.bool false))) (sSkip)) (sSeq (sIf (bNot (bOf (fCall allD (fCons (fList (fComp (dVar 2) (pName 5) bYes (fCall F_are_lines (fCons (fVar 5) (fCons (fVar 1) fNil))) [5])) fNil)))) (sRet (fC (.bool false))) (sSkip)) (sRet (fAnd (fCall F_are_asked (fCons (fVar 3) (fCons (fVar 2) (fCons (fVar 1) fNil)))) (fCall F_are_things (fCons (fVar 4) (fCons (fVar 1) fNil))))))))
def F_is_paper : Fd := runD 2 6 B_is_paper
/-- row[thing] = worth for each pair -/
def rowPut : List PyData → List PyData → Option (List PyData)
  | row, [] => some row
  | row, .tuple [.int t, w] :: r => if 0 ≤ t ∧ t < row.length then rowPut (row.set t.toNat w) r else none
  | _, _ :: _ => none
/-- found[place][thing] = worth for each triple -/
def rowsPut : List (List PyData) → List PyData → Option (List (List PyData))
  | rows, [] => some rows
  | rows, .tuple [.int k, .int t, w] :: r => if 0 ≤ k ∧ k < rows.length then match rows[k.toNat]? with
      | some row => if 0 ≤ t ∧ t < row.length then rowsPut (rows.set k.toNat (row.set t.toNat w)) r else none
      | none => none
    else none
  | _, _ :: _ => none
def rowsOf (many : Nat) : List PyData → Option (List (List PyData))
  | [] => some []
  | .list ls :: r => (rowPut (List.replicate many .none) ls).bind fun row => (rowsOf many r).bind fun rows => some (row :: rows)
  | _ :: _ => none
def F_seen_in : Fd
  | [.tuple [.list lines, .list asked, _], .int many] => if 0 ≤ many ∧ many ≤ 100 ∧ lines.length ≤ 100 then (rowsOf many.toNat lines).bind fun rows => (rowsPut rows asked).bind fun out => some (.list (out.map PyData.list)) else none
  | _ => none
def B_judge_paper : FS := sSeq (sIf (bOr (bNot (bOf (fCall F_is_whole (fCons (fVar 0) fNil)))) (bOr (bOf (f2 ltD (fVar 0) (fC (.int 1)))) (bOf (f2 gtD (fVar 0) (fC (.int 12)))))) (sDead) (sSkip)) (sSeq (sIf (bOr (bNot (bOf (fCall F_is_whole (fCons (fVar 2) fNil)))) (bOr (bOf (f2 ltD (fVar 2) (fC (.int 0)))) (bOf (f2 gtD (fVar 2) (fVar 0))))) (sDead) (sSkip)) (sSeq (sIf (bOr (bNot (bOf (fCall F_is_paper (fCons (fVar 3) (fCons (fVar 0) fNil))))) (bOr (bNot (bOf (fCall F_is_rule (fCons (fVar 1) (fCons (fCall lenD (fCons (f2 ixD (fVar 3) (fC (.int 0))) fNil)) fNil))))) (bOf (f2 neD (fCall lenD (fCons (f2 ixD (fVar 3) (fC (.int 2))) fNil)) (fVar 2))))) (sRet (fC (.bool false))) (sSkip)) (sSeq (sOwn 4 (fComp (dList (f2 ixD (fVar 3) (fC (.int 0)))) (pName 5) bYes (fIf (bOf (f2 eqD (fCall lenD (fCons (fVar 5) fNil)) (fC (.int 0)))) (fC one) (f2 ixD (f2 ixD (fVar 5) (f1 negD (fC (.int 1)))) (fC (.int 1)))) [5])) (sFrz [4] (sRet (fCall F_are_sure (fCons (fCall F_bounds_by (fCons (fVar 1) (fCons (fCall F_seen_in (fCons (fVar 3) (fCons (fVar 0) fNil))) (fCons (fVar 4) fNil)))) (fCons (f2 ixD (fVar 3) (fC (.int 2))) fNil))))))))
def F_judge_paper : Fd := runD 4 6 B_judge_paper
def B_look_at_slack : FS := sIf (bOr (bNot (bOf (fCall F_is_fraction (fCons (fVar 0) fNil)))) (bOf (f2 ltD (f2 ixD (fVar 0) (fC (.int 0))) (f2 ixD (fVar 0) (fC (.int 1)))))) (sDead) (sSkip)
def F_look_at_slack : Fd := runD 1 1 B_look_at_slack
def B_few_above : FS := sSeq (sPat (pName 4) (fCall F_frac_times (fCons (fVar 2) (fCons (fVar 3) fNil)))) (sSeq (sOwn 5 (fComp (dList (fCall F_in_turn (fCons (fVar 0) fNil))) (pName 8) (bNot (bOf (fCall F_frac_below (fCons (f2 ixD (f2 ixD (fVar 0) (fVar 8)) (fC (.int 0))) (fCons (fVar 3) fNil))))) (fVar 8) [8])) (sSeq (sOwn 6 (fComp (dRange1 (fCall lenD (fCons (fVar 0) fNil))) (pName 8) (bOf (fCall F_frac_below (fCons (fVar 4) (fCons (f2 ixD (f2 ixD (fVar 0) (fVar 8)) (fC (.int 1))) fNil)))) (fVar 8) [8])) (sSeq (sFrz [5, 6] (sIf (bOr (bOf (f2 ltD (fCall lenD (fCons (fVar 5) fNil)) (fVar 1))) (bOf (f2 gtD (fCall lenD (fCons (fVar 6) fNil)) (fVar 1)))) (sRet (fC .none)) (sSkip))) (sSeq (sFrz [5] (sIf (bOf (f2 gtD (fCall lenD (fCons (fList (fComp (dVar 6) (pName 8) (bOf (f2 notInD (fVar 8) (fVar 5))) (fVar 8) [8])) fNil)) (fC (.int 0)))) (sRet (fC .none)) (sSkip))) (sSeq (sFrz [6] (sOwn 7 (fComp (dVar 5) (pName 8) (bOf (f2 notInD (fVar 8) (fVar 6))) (fVar 8) [8]))) (sFrz [6, 7] (sRet (fCall sortedD (fCons (f2 addD (fVar 6) (f2 toD (fVar 7) (f2 subD (fVar 1) (fCall lenD (fCons (fVar 6) fNil))))) fNil)))))))))
def F_few_above : Fd := runD 4 9 B_few_above
def B_near_few_1 : FS := sSeq (sPat (pName 7) (fCall F_few_above (fCons (fVar 5) (fCons (fVar 2) (fCons (fVar 4) (fCons (f2 ixD (f2 ixD (fVar 5) (fVar 6)) (fC (.int 0))) fNil)))))) (sIf (bOf (f1 notNoneD (fVar 7))) (sRet (fVar 7)) (sSkip))
def B_near_few : FS := sSeq (sDo (fCall F_look_at_book (fCons (fVar 0) fNil))) (sSeq (sDo (fCall F_look_at_rule (fCons (fVar 1) (fCons (fCall lenD (fCons (fVar 0) fNil)) fNil)))) (sSeq (sDo (fCall F_look_at_count (fCons (fVar 0) (fCons (fVar 2) fNil)))) (sSeq (sDo (fCall F_look_at_looks (fCons (fVar 0) (fCons (fVar 3) fNil)))) (sSeq (sDo (fCall F_look_at_slack (fCons (fVar 4) fNil))) (sSeq (sIf (bOf (f2 eqD (fVar 2) (fC (.int 0)))) (sRet (fList (fLstN (fNil)))) (sSkip)) (sSeq (sPat (pName 5) (fCall F_bounds_of (fCons (fVar 0) (fCons (fVar 1) (fCons (fVar 3) fNil))))) (sSeq (sFor (dList (fCall F_in_turn (fCons (fVar 5) fNil))) (pName 6) B_near_few_1) (sRet (fC .none)))))))))
def F_near_few : Fd := runD 5 8 B_near_few
def B_law_cell : FS := sSeq (sPat (pName 2) (fC (.int 0))) (sSeq (sIf (bOf (f2 ltD (fVar 1) (fCall lenD (fCons (fVar 0) fNil)))) (sPat (pName 2) (f2 ixD (fVar 0) (fVar 1))) (sSkip)) (sSeq (sIf (bOf (f2 geD (fVar 2) (f2 powD (fC (.int 10)) (fC (.int 18))))) (sRet (f2 modD (f2 subD (fVar 2) (f2 powD (fC (.int 10)) (fC (.int 18)))) (f2 powD (fC (.int 10)) (fC (.int 60))))) (sSkip)) (sSeq (sPat (pName 3) (f2 modD (f2 addD (f2 addD (f2 mulD (fVar 2) (fC (.int 48271))) (f2 mulD (fVar 1) (fC (.int 69621)))) (fC (.int 11))) (fC (.int 2147483629)))) (sSeq (sPat (pName 3) (f2 modD (f2 mulD (fVar 3) (fVar 3)) (fC (.int 2147483587)))) (sRet (f2 addD (f2 mulD (fVar 3) (fC (.int 2147483563))) (f2 modD (f2 mulD (fVar 3) (fVar 3)) (fC (.int 2147483563)))))))))
def F_law_cell : Fd := runD 2 4 B_law_cell
def B_law_frac : FS := sSeq (sPat (pName 2) (fCall absD (fCons (fVar 0) fNil))) (sSeq (sPat (pName 3) (fCall absD (fCons (fVar 1) fNil))) (sSeq (sWhile (bOf (f2 gtD (fVar 3) (fC (.int 0)))) (sPar 2 3 (fVar 3) (f2 modD (fVar 2) (fVar 3)))) (sSeq (sIf (bOf (f2 ltD (fVar 1) (fC (.int 0)))) (sPat (pName 2) (f2 subD (fC (.int 0)) (fVar 2))) (sSkip)) (sRet (fTup (fCons (f2 divD (fVar 0) (fVar 2)) (fCons (f2 divD (fVar 1) (fVar 2)) fNil)))))))
def F_law_frac : Fd := runD 2 4 B_law_frac
def B_law_add : FS := sRet (fCall F_law_frac (fCons (f2 addD (f2 mulD (f2 ixD (fVar 0) (fC (.int 0))) (f2 ixD (fVar 1) (fC (.int 1)))) (f2 mulD (f2 ixD (fVar 1) (fC (.int 0))) (f2 ixD (fVar 0) (fC (.int 1))))) (fCons (f2 mulD (f2 ixD (fVar 0) (fC (.int 1))) (f2 ixD (fVar 1) (fC (.int 1)))) fNil)))
def F_law_add : Fd := runD 2 2 B_law_add
def B_law_mul : FS := sRet (fCall F_law_frac (fCons (f2 mulD (f2 ixD (fVar 0) (fC (.int 0))) (f2 ixD (fVar 1) (fC (.int 0)))) (fCons (f2 mulD (f2 ixD (fVar 0) (fC (.int 1))) (f2 ixD (fVar 1) (fC (.int 1)))) fNil)))
def F_law_mul : Fd := runD 2 2 B_law_mul
def B_law_below : FS := sRet (f2 ltD (f2 mulD (f2 ixD (fVar 0) (fC (.int 0))) (f2 ixD (fVar 1) (fC (.int 1)))) (f2 mulD (f2 ixD (fVar 1) (fC (.int 0))) (f2 ixD (fVar 0) (fC (.int 1)))))
def F_law_below : Fd := runD 2 2 B_law_below
def B_law_book_1 : FS := sSeq (sIf (bOf (f2 gtD (fVar 7) (fC (.int 100)))) (sPat (pName 10) (fCall F_law_cell (fCons (fVar 0) (fCons (f2 modD (f2 addD (f2 addD (f2 addD (fVar 1) (fC (.int 1))) (fVar 9)) (f2 mulD (fC (.int 5)) (fVar 12))) (fC (.int 63))) fNil)))) (sSkip)) (sSeq (sApp 11 (fCall F_law_frac (fCons (f2 modD (fVar 10) (f2 addD (fVar 7) (fC (.int 1)))) (fCons (fVar 7) fNil)))) (sPat (pName 10) (f2 divD (fVar 10) (f2 addD (fVar 7) (fC (.int 1))))))
def B_law_book_2 : FS := sSeq (sPat (pName 10) (fCall F_law_cell (fCons (fVar 0) (fCons (f2 addD (f2 addD (fVar 1) (fC (.int 1))) (fVar 9)) fNil)))) (sSeq (sOwn 11 (fLstN (fNil))) (sSeq (sFor (dRange1 (fVar 5)) (pName 12) B_law_book_1) (sFrz [11] (sApp 8 (fVar 11)))))
def B_law_book : FS := sSeq (sPat (pName 4) (fCall F_law_cell (fCons (fVar 0) (fCons (fVar 1) fNil)))) (sSeq (sPat (pName 5) (f2 addD (fC (.int 1)) (f2 modD (fVar 4) (fVar 3)))) (sSeq (sPat (pName 6) (f2 addD (fC (.int 1)) (f2 modD (f2 divD (fVar 4) (fVar 3)) (fVar 2)))) (sSeq (sPat (pName 7) (f2 ixD (fList (fLstN (fCons (fC (.int 2)) (fCons (fC (.int 3)) (fCons (fC (.int 4)) (fCons (fC (.int 6)) (fCons (fC (.int 10)) (fCons (fC (.int 24)) (fCons (fC (.int 97)) (fCons (f2 subD (f2 powD (fC (.int 10)) (fC (.int 12))) (fC (.int 1))) fNil)))))))))) (f2 modD (f2 divD (fVar 4) (fC (.int 1000))) (fC (.int 8))))) (sSeq (sOwn 8 (fLstN (fNil))) (sSeq (sFor (dRange1 (fVar 6)) (pName 9) B_law_book_2) (sFrz [8] (sRet (fVar 8))))))))
def F_law_book : Fd := runD 4 13 B_law_book
def B_law_rule_1 : FS := sSeq (sApp 3 (fCall F_law_frac (fCons (f2 modD (fVar 0) (fC (.int 7))) (fCons (f2 addD (fC (.int 1)) (f2 modD (f2 divD (fVar 0) (fC (.int 7))) (fC (.int 4)))) fNil)))) (sPat (pName 0) (f2 divD (fVar 0) (fC (.int 28))))
def B_law_rule : FS := sSeq (sPat (pName 2) (f2 modD (fVar 0) (fC (.int 7)))) (sSeq (sPat (pName 0) (f2 divD (fVar 0) (fC (.int 7)))) (sSeq (sIf (bOf (f2 eqD (fVar 2) (fC (.int 0)))) (sRet (fTup (fCons (fC (.str "least")) fNil))) (sSkip)) (sSeq (sIf (bOf (f2 eqD (fVar 2) (fC (.int 1)))) (sRet (fTup (fCons (fC (.str "greatest")) fNil))) (sSkip)) (sSeq (sIf (bOf (f2 eqD (fVar 2) (fC (.int 2)))) (sRet (fTup (fCons (fC (.str "middle")) (fCons (f2 addD (fC (.int 1)) (f2 modD (fVar 0) (fVar 1))) fNil)))) (sSkip)) (sSeq (sIf (bOf (f2 eqD (fVar 2) (fC (.int 3)))) (sRet (fTup (fCons (fC (.str "product")) fNil))) (sSkip)) (sSeq (sOwn 3 (fLstN (fNil))) (sSeq (sFor (dRange1 (fVar 1)) (pName 4) B_law_rule_1) (sFrz [3] (sRet (fTup (fCons (fC (.str "shares")) (fCons (fVar 3) fNil))))))))))))
def F_law_rule : Fd := runD 2 5 B_law_rule
def B_law_worth_1 : FS := sPat (pName 2) (fCall F_law_add (fCons (fVar 2) (fCons (fCall F_law_mul (fCons (f2 ixD (f2 ixD (fVar 0) (fC (.int 1))) (fVar 3)) (fCons (f2 ixD (fVar 1) (fVar 3)) fNil))) fNil)))
def B_law_worth_2 : FS := sPat (pName 2) (fCall F_law_mul (fCons (fVar 2) (fCons (fVar 4) fNil)))
def B_law_worth_3 : FS := sSeq (sPat (pName 6) (fCall lenD (fCons (fList (fComp (dVar 5) (pName 7) (bOf (fCall F_law_below (fCons (fVar 7) (fCons (fVar 4) fNil)))) (fVar 7) [7])) fNil))) (sIns 5 (fVar 6) (fVar 4))
def B_law_worth : FS := sSeq (sIf (bOf (f2 eqD (f2 ixD (fVar 0) (fC (.int 0))) (fC (.str "shares")))) (sSeq (sPat (pName 2) (fTup (fCons (fC (.int 0)) (fCons (fC (.int 1)) fNil)))) (sSeq (sFor (dRange1 (fCall lenD (fCons (fVar 1) fNil))) (pName 3) B_law_worth_1) (sRet (fVar 2)))) (sSkip)) (sSeq (sIf (bOf (f2 eqD (f2 ixD (fVar 0) (fC (.int 0))) (fC (.str "product")))) (sSeq (sPat (pName 2) (fTup (fCons (fC (.int 1)) (fCons (fC (.int 1)) fNil)))) (sSeq (sFor (dList (fVar 1)) (pName 4) B_law_worth_2) (sRet (fVar 2)))) (sSkip)) (sSeq (sOwn 5 (fLstN (fNil))) (sSeq (sFor (dList (fVar 1)) (pName 4) B_law_worth_3) (sSeq (sIf (bOf (f2 eqD (f2 ixD (fVar 0) (fC (.int 0))) (fC (.str "least")))) (sFrz [5] (sRet (f2 ixD (fVar 5) (fC (.int 0))))) (sSkip)) (sSeq (sIf (bOf (f2 eqD (f2 ixD (fVar 0) (fC (.int 0))) (fC (.str "greatest")))) (sFrz [5] (sRet (f2 ixD (fVar 5) (f1 negD (fC (.int 1)))))) (sSkip)) (sFrz [5] (sRet (f2 ixD (fVar 5) (f2 subD (fCall lenD (fCons (fVar 5) fNil)) (f2 ixD (fVar 0) (fC (.int 1))))))))))))
def F_law_worth : Fd := runD 2 8 B_law_worth
def B_law_order_1 : FS := sSeq (sPat (pName 3) (fCall lenD (fCons (fList (fComp (dVar 1) (pName 4) (bNot (bOf (fCall F_law_below (fCons (f2 ixD (fVar 0) (fVar 4)) (fCons (f2 ixD (fVar 0) (fVar 2)) fNil))))) (fVar 4) [4])) fNil))) (sIns 1 (fVar 3) (fVar 2))
def B_law_order : FS := sSeq (sOwn 1 (fLstN (fNil))) (sSeq (sFor (dRange1 (fCall lenD (fCons (fVar 0) fNil))) (pName 2) B_law_order_1) (sFrz [1] (sRet (fVar 1))))
def F_law_order : Fd := runD 1 5 B_law_order
def B_law_looks_1 : FS := sSeq (sApp 5 (f2 modD (fVar 3) (f2 addD (fVar 4) (fC (.int 1))))) (sPat (pName 3) (f2 divD (fVar 3) (f2 addD (fVar 4) (fC (.int 1)))))
def B_law_looks_2 : FS := sSeq (sIf (bOf (f2 eqD (f2 modD (fVar 8) (fC (.int 5))) (fC (.int 1)))) (sApp 7 (fTup (fCons (fVar 6) (fCons (fVar 9) fNil)))) (sSkip)) (sPat (pName 8) (f2 divD (fVar 8) (fC (.int 5))))
def B_law_looks_3 : FS := sFor (dRange1 (fVar 4)) (pName 9) B_law_looks_2
def B_law_looks : FS := sSeq (sPat (pName 3) (fCall F_law_cell (fCons (fVar 0) (fCons (fVar 1) fNil)))) (sSeq (sPat (pName 4) (fCall lenD (fCons (f2 ixD (fVar 2) (fC (.int 0))) fNil))) (sSeq (sOwn 5 (fLstN (fNil))) (sSeq (sFor (dRange1 (fCall lenD (fCons (fVar 2) fNil))) (pName 6) B_law_looks_1) (sSeq (sIf (bOf (f2 eqD (f2 modD (fVar 3) (fC (.int 4))) (fC (.int 0)))) (sOwn 5 (fComp (dVar 5) (pName 10) bYes (f2 divD (fVar 10) (fC (.int 2))) [10])) (sSkip)) (sSeq (sOwn 7 (fLstN (fNil))) (sSeq (sPat (pName 8) (fCall F_law_cell (fCons (fVar 0) (fCons (f2 addD (fVar 1) (fC (.int 1))) fNil)))) (sSeq (sFor (dRange1 (fCall lenD (fCons (fVar 2) fNil))) (pName 6) B_law_looks_3) (sSeq (sIf (bOf (f2 eqD (f2 modD (f2 divD (fVar 3) (fC (.int 4))) (fC (.int 3))) (fC (.int 0)))) (sOwn 7 (fLstN (fNil))) (sSkip)) (sFrz [5, 7] (sRet (fTup (fCons (fVar 5) (fCons (fVar 7) fNil)))))))))))))
def F_law_looks : Fd := runD 3 11 B_law_looks
def B_law_more_1 : FS := sSeq (sApp 6 (fCall minD (fCons (fVar 5) (fCons (f2 addD (fVar 7) (f2 modD (fVar 4) (f2 addD (fVar 5) (fC (.int 1))))) fNil)))) (sPat (pName 4) (f2 divD (fVar 4) (f2 addD (fVar 5) (fC (.int 1)))))
def B_law_more_2 : FS := sSeq (sIf (bOr (bOf (f2 inD (fTup (fCons (fVar 10) (fCons (fVar 11) fNil))) (f2 ixD (fVar 3) (fC (.int 1))))) (bOf (f2 eqD (f2 modD (fVar 9) (fC (.int 4))) (fC (.int 1))))) (sApp 8 (fTup (fCons (fVar 10) (fCons (fVar 11) fNil)))) (sSkip)) (sPat (pName 9) (f2 divD (fVar 9) (fC (.int 4))))
def B_law_more_3 : FS := sFor (dRange1 (fVar 5)) (pName 11) B_law_more_2
def B_law_more : FS := sSeq (sPat (pName 4) (fCall F_law_cell (fCons (fVar 0) (fCons (fVar 1) fNil)))) (sSeq (sPat (pName 5) (fCall lenD (fCons (f2 ixD (fVar 2) (fC (.int 0))) fNil))) (sSeq (sOwn 6 (fLstN (fNil))) (sSeq (sFor (dList (f2 ixD (fVar 3) (fC (.int 0)))) (pName 7) B_law_more_1) (sSeq (sOwn 8 (fLstN (fNil))) (sSeq (sPat (pName 9) (fCall F_law_cell (fCons (fVar 0) (fCons (f2 addD (fVar 1) (fC (.int 1))) fNil)))) (sSeq (sFor (dRange1 (fCall lenD (fCons (fVar 2) fNil))) (pName 10) B_law_more_3) (sFrz [6, 8] (sRet (fTup (fCons (fVar 6) (fCons (fVar 8) fNil)))))))))))
def F_law_more : Fd := runD 4 12 B_law_more
def B_law_nested_1 : FS := sSeq (sPat (pName 8) (f2 ixD (f2 ixD (fVar 0) (fVar 6)) (fVar 7))) (sSeq (sOwn 9 (fLstN (fCons (f2 ixD (f2 ixD (fVar 4) (fVar 6)) (fVar 7)) (fCons (f2 ixD (f2 ixD (fVar 5) (fVar 6)) (fVar 7)) fNil)))) (sFrz [9] (sIf (bAnd (bOf (f1 notNoneD (f2 ixD (fVar 9) (fC (.int 0))))) (bOf (f2 neD (fVar 9) (fList (fLstN (fCons (fVar 8) (fCons (fVar 8) fNil))))))) (sRet (fC (.bool false))) (sSkip))))
def B_law_nested_2 : FS := sFor (dRange1 (fCall lenD (fCons (f2 ixD (fVar 0) (fVar 6)) fNil))) (pName 7) B_law_nested_1
def B_law_nested_3 : FS := sSeq (sPat (pTup [12, 13]) (f2 ixD (fVar 11) (fVar 7))) (sSeq (sPat (pName 8) (fCall F_law_worth (fCons (fVar 1) (fCons (fList (fComp (dVar 0) (pName 14) bYes (f2 ixD (fVar 14) (fVar 7)) [14])) fNil)))) (sSeq (sIf (bOr (bOf (fCall F_law_below (fCons (fVar 12) (fCons (f2 ixD (f2 ixD (fVar 10) (fVar 7)) (fC (.int 0))) fNil)))) (bOf (fCall F_law_below (fCons (f2 ixD (f2 ixD (fVar 10) (fVar 7)) (fC (.int 1))) (fCons (fVar 13) fNil))))) (sRet (fC (.bool false))) (sSkip)) (sIf (bOr (bOf (fCall F_law_below (fCons (fVar 8) (fCons (fVar 12) fNil)))) (bOf (fCall F_law_below (fCons (fVar 13) (fCons (fVar 8) fNil))))) (sRet (fC (.bool false))) (sSkip))))
def B_law_nested : FS := sSeq (sPat (pName 4) (fCall F_seen_worths (fCons (fVar 0) (fCons (fVar 2) fNil)))) (sSeq (sPat (pName 5) (fCall F_seen_worths (fCons (fVar 0) (fCons (fVar 3) fNil)))) (sSeq (sFor (dRange1 (fCall lenD (fCons (fVar 0) fNil))) (pName 6) B_law_nested_2) (sSeq (sPat (pName 10) (fCall F_worth_bounds (fCons (fVar 0) (fCons (fVar 1) (fCons (fVar 2) fNil))))) (sSeq (sPat (pName 11) (fCall F_worth_bounds (fCons (fVar 0) (fCons (fVar 1) (fCons (fVar 3) fNil))))) (sSeq (sFor (dRange1 (fCall lenD (fCons (f2 ixD (fVar 0) (fC (.int 0))) fNil))) (pName 7) B_law_nested_3) (sRet (f2 geD (f2 ixD (fCall F_count_of (fCons (fVar 0) (fCons (fVar 3) fNil))) (fC (.int 0))) (f2 ixD (fCall F_count_of (fCons (fVar 0) (fCons (fVar 2) fNil))) (fC (.int 0))))))))))
def F_law_nested : Fd := runD 4 15 B_law_nested
def B_law_stays (rest : FS) : FS := sSeq (sPat (pName 5) (fCall F_sure_few (fCons (fVar 0) (fCons (fVar 1) (fCons (fVar 2) (fCons (fVar 3) fNil)))))) (sSeq (sIf (bOf (f1 isNoneD (fVar 5))) (sRet (fC (.bool true))) (sSkip)) (sSeq (sIf (bOr (bOf (f1 notNoneD (fCall (F_other_book rest) (fCons (fVar 0) (fCons (fVar 1) (fCons (fVar 5) (fCons (fVar 4) fNil))))))) (bOf (f1 isNoneD (fCall F_sure_few (fCons (fVar 0) (fCons (fVar 1) (fCons (fVar 2) (fCons (fVar 4) fNil)))))))) (sRet (fC (.bool false))) (sSkip)) (sSeq (sPat (pTup [6, 7, 8]) (fCall F_seen_paper (fCons (fVar 0) (fCons (fVar 1) (fCons (fVar 2) (fCons (fVar 4) fNil)))))) (sRet (f2 isBlD (fCall F_judge_paper (fCons (fCall lenD (fCons (f2 ixD (fVar 0) (fC (.int 0))) fNil)) (fCons (fVar 1) (fCons (fVar 2) (fCons (fTup (fCons (fVar 6) (fCons (fVar 7) (fCons (fVar 5) fNil)))) fNil))))) (fC (.bool true)))))))
def F_law_stays (rest : FS) : Fd := runD 5 9 (B_law_stays rest)
def B_law_near_1 : FS := sIf (bAnd (bOf (f2 notInD (fVar 9) (fVar 6))) (bOf (fCall F_law_below (fCons (fCall F_law_mul (fCons (fVar 5) (fCons (f2 ixD (f2 ixD (fVar 7) (fVar 8)) (fC (.int 0))) fNil))) (fCons (f2 ixD (f2 ixD (fVar 7) (fVar 9)) (fC (.int 1))) fNil))))) (sRet (fC (.bool false))) (sSkip)
def B_law_near_2 : FS := sFor (dRange1 (fCall lenD (fCons (fVar 7) fNil))) (pName 9) B_law_near_1
def B_law_near : FS := sSeq (sPat (pName 6) (fCall F_near_few (fCons (fVar 0) (fCons (fVar 1) (fCons (fVar 2) (fCons (fVar 3) (fCons (fVar 5) fNil))))))) (sSeq (sIf (bOf (f1 isNoneD (fVar 6))) (sRet (fC (.bool true))) (sSkip)) (sSeq (sPat (pName 7) (fCall F_worth_bounds (fCons (fVar 0) (fCons (fVar 1) (fCons (fVar 4) fNil))))) (sSeq (sFor (dList (fVar 6)) (pName 8) B_law_near_2) (sSeq (sIf (bOf (f1 isNoneD (fCall F_near_few (fCons (fVar 0) (fCons (fVar 1) (fCons (fVar 2) (fCons (fVar 4) (fCons (fVar 5) fNil)))))))) (sRet (fC (.bool false))) (sSkip)) (sRet (f1 notNoneD (fCall F_near_few (fCons (fVar 0) (fCons (fVar 1) (fCons (fVar 2) (fCons (fVar 3) (fCons (fCall F_law_add (fCons (fVar 5) (fCons (fTup (fCons (fC (.int 1)) (fCons (fC (.int 2)) fNil))) fNil))) fNil))))))))))))
def F_law_near : Fd := runD 6 10 B_law_near
def B_law_whole_1 (rest : FS) : FS := sFrz [6] (sPat (pName 6) (f2 addD (fVar 6) (fList (fComp (dRange1 (fVar 3)) (pName 9) bYes (fTup (fCons (fVar 7) (fCons (fVar 9) fNil))) [9]))))
def B_law_whole_2 (rest : FS) : FS := sSeq (sIf (bOf (f2 neD (fCall F_worth_bounds (fCons (fVar 0) (fCons (fVar 1) (fCons (fVar 8) fNil)))) (fList (fComp (dVar 4) (pName 11) bYes (fTup (fCons (fVar 11) (fCons (fVar 11) fNil))) [11])))) (sRet (fC (.bool false))) (sSkip)) (sIf (bOr (bOf (f2 neD (fCall F_sure_few (fCons (fVar 0) (fCons (fVar 1) (fCons (fVar 2) (fCons (fVar 8) fNil))))) (fVar 5))) (bOf (f1 notNoneD (fCall (F_other_book rest) (fCons (fVar 0) (fCons (fVar 1) (fCons (fVar 5) (fCons (fVar 8) fNil)))))))) (sRet (fC (.bool false))) (sSkip))
def B_law_whole (rest : FS) : FS := sSeq (sPat (pName 3) (fCall lenD (fCons (f2 ixD (fVar 0) (fC (.int 0))) fNil))) (sSeq (sOwn 4 (fComp (dRange1 (fVar 3)) (pName 9) bYes (fCall F_law_worth (fCons (fVar 1) (fCons (fList (fComp (dVar 0) (pName 10) bYes (f2 ixD (fVar 10) (fVar 9)) [10])) fNil))) [9])) (sSeq (sFrz [4] (sPat (pName 5) (fCall sortedD (fCons (f2 toD (fCall F_law_order (fCons (fVar 4) fNil)) (fVar 2)) fNil)))) (sSeq (sOwn 6 (fLstN (fNil))) (sSeq (sFor (dRange1 (fCall lenD (fCons (fVar 0) fNil))) (pName 7) (B_law_whole_1 rest)) (sSeq (sFrz [6] (sFor (dList (fList (fLstN (fCons (fTup (fCons (f2 mulD (fList (fLstN (fCons (fVar 3) fNil))) (fCall lenD (fCons (fVar 0) fNil))) (fCons (fList (fLstN (fNil))) fNil))) (fCons (fTup (fCons (f2 mulD (fList (fLstN (fCons (fC (.int 0)) fNil))) (fCall lenD (fCons (fVar 0) fNil))) (fCons (fVar 6) fNil))) fNil))))) (pName 8) (B_law_whole_2 rest))) (sRet (fC (.bool true))))))))
def F_law_whole (rest : FS) : Fd := runD 3 12 (B_law_whole rest)
def B_law (rest : FS) : FS := sSeq (sPat (pName 1) (fCall F_law_book (fCons (fVar 0) (fCons (fC (.int 0)) (fCons (fC (.int 4)) (fCons (fC (.int 12)) fNil)))))) (sSeq (sPat (pName 2) (fCall F_law_looks (fCons (fVar 0) (fCons (fC (.int 5)) (fCons (fVar 1) fNil))))) (sSeq (sPat (pName 3) (fCall F_law_rule (fCons (fCall F_law_cell (fCons (fVar 0) (fCons (fC (.int 7)) fNil))) (fCons (fCall lenD (fCons (fVar 1) fNil)) fNil)))) (sSeq (sPat (pName 4) (fCall F_law_cell (fCons (fVar 0) (fCons (fC (.int 8)) fNil)))) (sSeq (sPat (pName 5) (f2 modD (fVar 4) (f2 addD (fCall lenD (fCons (f2 ixD (fVar 1) (fC (.int 0))) fNil)) (fC (.int 1))))) (sSeq (sPat (pName 6) (fCall F_law_frac (fCons (f2 addD (fC (.int 7)) (f2 modD (f2 divD (fVar 4) (fC (.int 13))) (fC (.int 22)))) (fCons (fC (.int 7)) fNil)))) (sSeq (sPat (pName 7) (fCall F_law_more (fCons (fVar 0) (fCons (fC (.int 9)) (fCons (fVar 1) (fCons (fVar 2) fNil)))))) (sSeq (sPat (pName 8) (fCall strD (fCons (fList (fLstN (fCons (fVar 1) (fCons (fVar 3) (fCons (fVar 2) (fCons (fVar 7) fNil)))))) fNil))) (sSeq (sIf (bOr (bNot (bOf (fCall F_law_nested (fCons (fVar 1) (fCons (fVar 3) (fCons (fVar 2) (fCons (fVar 7) fNil))))))) (bNot (bOf (fCall (F_law_stays rest) (fCons (fVar 1) (fCons (fVar 3) (fCons (fVar 5) (fCons (fVar 2) (fCons (fVar 7) fNil))))))))) (sRet (fC (.bool false))) (sSkip)) (sSeq (sIf (bAnd (bOf (f2 leD (fCall lenD (fCons (f2 ixD (fVar 1) (fC (.int 0))) fNil)) (fC (.int 8)))) (bNot (bOf (fCall F_law_near (fCons (fVar 1) (fCons (fVar 3) (fCons (fVar 5) (fCons (fVar 2) (fCons (fVar 7) (fCons (fVar 6) fNil)))))))))) (sRet (fC (.bool false))) (sSkip)) (sRet (fAnd (fCall (F_law_whole rest) (fCons (fVar 1) (fCons (fVar 3) (fCons (fVar 5) fNil)))) (f2 eqD (fCall strD (fCons (fList (fLstN (fCons (fVar 1) (fCons (fVar 3) (fCons (fVar 2) (fCons (fVar 7) fNil)))))) fNil)) (fVar 8)))))))))))))
def F_law (rest : FS) : Fd := runD 1 9 (B_law rest)
def fin : Res → Option PyData
  | .rt d => some d
  | .nx _ => some .none
  | _ => none
theorem r_common_of (a0 a1 : PyData) : F_common_of [a0, a1] = (B_common_of [.val a0, .val a1]).bind fin := rfl
theorem r_is_whole (a0 : PyData) : F_is_whole [a0] = (B_is_whole [.val a0]).bind fin := rfl
theorem r_is_fraction (a0 : PyData) : F_is_fraction [a0] = (B_is_fraction [.val a0]).bind fin := rfl
theorem r_fraction_of (a0 a1 : PyData) : F_fraction_of [a0, a1] = (B_fraction_of [.val a0, .val a1, .no]).bind fin := rfl
theorem r_frac_sum (a0 a1 : PyData) : F_frac_sum [a0, a1] = (B_frac_sum [.val a0, .val a1]).bind fin := rfl
theorem r_frac_times (a0 a1 : PyData) : F_frac_times [a0, a1] = (B_frac_times [.val a0, .val a1]).bind fin := rfl
theorem r_frac_below (a0 a1 : PyData) : F_frac_below [a0, a1] = (B_frac_below [.val a0, .val a1]).bind fin := rfl
theorem r_is_worth (a0 : PyData) : F_is_worth [a0] = (B_is_worth [.val a0]).bind fin := rfl
theorem r_are_worths (a0 a1 : PyData) : F_are_worths [a0, a1] = (B_are_worths [.val a0, .val a1, .no]).bind fin := rfl
theorem r_is_book (a0 : PyData) : F_is_book [a0] = (B_is_book [.val a0, .no, .no]).bind fin := rfl
theorem r_look_at_book (a0 : PyData) : F_look_at_book [a0] = (B_look_at_book [.val a0]).bind fin := rfl
theorem r_order_of (a0 : PyData) : F_order_of [a0] = (B_order_of [.val a0, .no, .no, .no, .no, .no]).bind fin := rfl
theorem r_is_weight (a0 : PyData) : F_is_weight [a0] = (B_is_weight [.val a0]).bind fin := rfl
theorem r_is_rule (a0 a1 : PyData) : F_is_rule [a0, a1] = (B_is_rule [.val a0, .val a1, .no]).bind fin := rfl
theorem r_look_at_rule (a0 a1 : PyData) : F_look_at_rule [a0, a1] = (B_look_at_rule [.val a0, .val a1]).bind fin := rfl
theorem r_falling (a0 : PyData) : F_falling [a0] = (B_falling [.val a0, .no, .no, .no, .no]).bind fin := rfl
theorem r_place_of (a0 a1 : PyData) : F_place_of [a0, a1] = (B_place_of [.val a0, .val a1]).bind fin := rfl
theorem r_worth_by (a0 a1 : PyData) : F_worth_by [a0, a1] = (B_worth_by [.val a0, .val a1, .no, .no, .no]).bind fin := rfl
theorem r_look_at_count (a0 a1 : PyData) : F_look_at_count [a0, a1] = (B_look_at_count [.val a0, .val a1]).bind fin := rfl
theorem r_is_asked (a0 a1 a2 : PyData) : F_is_asked [a0, a1, a2] = (B_is_asked [.val a0, .val a1, .val a2, .no, .no]).bind fin := rfl
theorem r_is_looks (a0 a1 : PyData) : F_is_looks [a0, a1] = (B_is_looks [.val a0, .val a1, .no, .no, .no]).bind fin := rfl
theorem r_look_at_looks (a0 a1 : PyData) : F_look_at_looks [a0, a1] = (B_look_at_looks [.val a0, .val a1]).bind fin := rfl
theorem r_read_lines (a0 a1 : PyData) : F_read_lines [a0, a1] = (B_read_lines [.val a0, .val a1, .no, .no]).bind fin := rfl
theorem r_seen_of (a0 a1 : PyData) : F_seen_of [a0, a1] = (B_seen_of [.val a0, .val a1, .no, .no, .no, .no, .no, .no, .no, .no]).bind fin := rfl
theorem r_seen_worths (a0 a1 : PyData) : F_seen_worths [a0, a1] = (B_seen_worths [.val a0, .val a1]).bind fin := rfl
theorem r_unread_of (a0 a1 : PyData) : F_unread_of [a0, a1] = (B_unread_of [.val a0, .val a1, .no, .no]).bind fin := rfl
theorem r_count_of (a0 a1 : PyData) : F_count_of [a0, a1] = (B_count_of [.val a0, .val a1]).bind fin := rfl
theorem r_last_of (a0 a1 : PyData) : F_last_of [a0, a1] = (B_last_of [.val a0, .val a1, .no, .no, .no]).bind fin := rfl
theorem r_filled (a0 a1 : PyData) : F_filled [a0, a1] = (B_filled [.val a0, .val a1, .no, .no]).bind fin := rfl
theorem r_bounds_by (a0 a1 a2 : PyData) : F_bounds_by [a0, a1, a2] = (B_bounds_by [.val a0, .val a1, .val a2, .no, .no, .no, .no, .no]).bind fin := rfl
theorem r_bounds_of (a0 a1 a2 : PyData) : F_bounds_of [a0, a1, a2] = (B_bounds_of [.val a0, .val a1, .val a2]).bind fin := rfl
theorem r_worth_bounds (a0 a1 a2 : PyData) : F_worth_bounds [a0, a1, a2] = (B_worth_bounds [.val a0, .val a1, .val a2]).bind fin := rfl
theorem r_goes_ahead (a0 a1 a2 : PyData) : F_goes_ahead [a0, a1, a2] = (B_goes_ahead [.val a0, .val a1, .val a2]).bind fin := rfl
theorem r_in_turn (a0 : PyData) : F_in_turn [a0] = (B_in_turn [.val a0, .no, .no, .no, .no]).bind fin := rfl
theorem r_are_sure (a0 a1 : PyData) : F_are_sure [a0, a1] = (B_are_sure [.val a0, .val a1, .no, .no]).bind fin := rfl
theorem r_sure_by (a0 a1 : PyData) : F_sure_by [a0, a1] = (B_sure_by [.val a0, .val a1, .no]).bind fin := rfl
theorem r_sure_few (a0 a1 a2 a3 : PyData) : F_sure_few [a0, a1, a2, a3] = (B_sure_few [.val a0, .val a1, .val a2, .val a3]).bind fin := rfl
theorem r_are_things (a0 a1 : PyData) : F_are_things [a0, a1] = (B_are_things [.val a0, .val a1, .no, .no]).bind fin := rfl
theorem r_look_at_things (a0 a1 : PyData) : F_look_at_things [a0, a1] = (B_look_at_things [.val a0, .val a1]).bind fin := rfl
theorem r_beaten_pair (a0 a1 : PyData) : F_beaten_pair [a0, a1] = (B_beaten_pair [.val a0, .val a1, .no, .no]).bind fin := rfl
theorem r_other_book (rest : FS) (a0 a1 a2 a3 : PyData) : F_other_book rest [a0, a1, a2, a3] = (B_other_book rest [.val a0, .val a1, .val a2, .val a3, .no, .no, .no, .no, .no, .no, .no, .no, .no, .no]).bind fin := rfl
theorem r_seen_paper (a0 a1 a2 a3 : PyData) : F_seen_paper [a0, a1, a2, a3] = (B_seen_paper [.val a0, .val a1, .val a2, .val a3, .no, .no, .no, .no, .no, .no]).bind fin := rfl
theorem r_is_number_below (a0 a1 : PyData) : F_is_number_below [a0, a1] = (B_is_number_below [.val a0, .val a1]).bind fin := rfl
theorem r_is_line (a0 a1 : PyData) : F_is_line [a0, a1] = (B_is_line [.val a0, .val a1]).bind fin := rfl
theorem r_goes_behind (a0 a1 : PyData) : F_goes_behind [a0, a1] = (B_goes_behind [.val a0, .val a1]).bind fin := rfl
theorem r_are_lines (a0 a1 : PyData) : F_are_lines [a0, a1] = (B_are_lines [.val a0, .val a1, .no, .no, .no, .no]).bind fin := rfl
theorem r_is_let (a0 a1 a2 : PyData) : F_is_let [a0, a1, a2] = (B_is_let [.val a0, .val a1, .val a2, .no, .no]).bind fin := rfl
theorem r_are_asked (a0 a1 a2 : PyData) : F_are_asked [a0, a1, a2] = (B_are_asked [.val a0, .val a1, .val a2, .no, .no]).bind fin := rfl
theorem r_is_paper (a0 a1 : PyData) : F_is_paper [a0, a1] = (B_is_paper [.val a0, .val a1, .no, .no, .no, .no]).bind fin := rfl
theorem r_judge_paper (a0 a1 a2 a3 : PyData) : F_judge_paper [a0, a1, a2, a3] = (B_judge_paper [.val a0, .val a1, .val a2, .val a3, .no, .no]).bind fin := rfl
theorem r_look_at_slack (a0 : PyData) : F_look_at_slack [a0] = (B_look_at_slack [.val a0]).bind fin := rfl
theorem r_few_above (a0 a1 a2 a3 : PyData) : F_few_above [a0, a1, a2, a3] = (B_few_above [.val a0, .val a1, .val a2, .val a3, .no, .no, .no, .no, .no]).bind fin := rfl
theorem r_near_few (a0 a1 a2 a3 a4 : PyData) : F_near_few [a0, a1, a2, a3, a4] = (B_near_few [.val a0, .val a1, .val a2, .val a3, .val a4, .no, .no, .no]).bind fin := rfl
theorem r_law_cell (a0 a1 : PyData) : F_law_cell [a0, a1] = (B_law_cell [.val a0, .val a1, .no, .no]).bind fin := rfl
theorem r_law_frac (a0 a1 : PyData) : F_law_frac [a0, a1] = (B_law_frac [.val a0, .val a1, .no, .no]).bind fin := rfl
theorem r_law_add (a0 a1 : PyData) : F_law_add [a0, a1] = (B_law_add [.val a0, .val a1]).bind fin := rfl
theorem r_law_mul (a0 a1 : PyData) : F_law_mul [a0, a1] = (B_law_mul [.val a0, .val a1]).bind fin := rfl
theorem r_law_below (a0 a1 : PyData) : F_law_below [a0, a1] = (B_law_below [.val a0, .val a1]).bind fin := rfl
theorem r_law_book (a0 a1 a2 a3 : PyData) : F_law_book [a0, a1, a2, a3] = (B_law_book [.val a0, .val a1, .val a2, .val a3, .no, .no, .no, .no, .no, .no, .no, .no, .no]).bind fin := rfl
theorem r_law_rule (a0 a1 : PyData) : F_law_rule [a0, a1] = (B_law_rule [.val a0, .val a1, .no, .no, .no]).bind fin := rfl
theorem r_law_worth (a0 a1 : PyData) : F_law_worth [a0, a1] = (B_law_worth [.val a0, .val a1, .no, .no, .no, .no, .no, .no]).bind fin := rfl
theorem r_law_order (a0 : PyData) : F_law_order [a0] = (B_law_order [.val a0, .no, .no, .no, .no]).bind fin := rfl
theorem r_law_looks (a0 a1 a2 : PyData) : F_law_looks [a0, a1, a2] = (B_law_looks [.val a0, .val a1, .val a2, .no, .no, .no, .no, .no, .no, .no, .no]).bind fin := rfl
theorem r_law_more (a0 a1 a2 a3 : PyData) : F_law_more [a0, a1, a2, a3] = (B_law_more [.val a0, .val a1, .val a2, .val a3, .no, .no, .no, .no, .no, .no, .no, .no]).bind fin := rfl
theorem r_law_nested (a0 a1 a2 a3 : PyData) : F_law_nested [a0, a1, a2, a3] = (B_law_nested [.val a0, .val a1, .val a2, .val a3, .no, .no, .no, .no, .no, .no, .no, .no, .no, .no, .no]).bind fin := rfl
theorem r_law_stays (rest : FS) (a0 a1 a2 a3 a4 : PyData) : F_law_stays rest [a0, a1, a2, a3, a4] = (B_law_stays rest [.val a0, .val a1, .val a2, .val a3, .val a4, .no, .no, .no, .no]).bind fin := rfl
theorem r_law_near (a0 a1 a2 a3 a4 a5 : PyData) : F_law_near [a0, a1, a2, a3, a4, a5] = (B_law_near [.val a0, .val a1, .val a2, .val a3, .val a4, .val a5, .no, .no, .no, .no]).bind fin := rfl
theorem r_law_whole (rest : FS) (a0 a1 a2 : PyData) : F_law_whole rest [a0, a1, a2] = (B_law_whole rest [.val a0, .val a1, .val a2, .no, .no, .no, .no, .no, .no, .no, .no, .no]).bind fin := rfl
theorem r_law (rest : FS) (a0 : PyData) : F_law rest [a0] = (B_law rest [.val a0, .no, .no, .no, .no, .no, .no, .no, .no]).bind fin := rfl
end DL

set_option Elab.async false
set_option linter.all false
set_option maxRecDepth 100000
set_option maxHeartbeats 0
namespace Hd
open PySem PySem.Spec PyProof.Rows L2
def topS (i : Nat) : Stmt := PySem.Challenge.pw_bestheads_k90_whole_more_looks_tell_no_l.main.body.getD i (.Pass ⟨0, 0, 0, 0⟩)
abbrev s_common_of : Stmt := topS 11
abbrev s_is_whole : Stmt := topS 12
abbrev s_is_fraction : Stmt := topS 13
abbrev s_fraction_of : Stmt := topS 14
abbrev s_frac_sum : Stmt := topS 15
abbrev s_frac_times : Stmt := topS 17
abbrev s_frac_below : Stmt := topS 18
abbrev s_is_worth : Stmt := topS 22
abbrev s_are_worths : Stmt := topS 23
abbrev s_is_book : Stmt := topS 24
abbrev s_look_at_book : Stmt := topS 25
abbrev s_order_of : Stmt := topS 26
abbrev s_is_weight : Stmt := topS 32
abbrev s_is_rule : Stmt := topS 33
abbrev s_look_at_rule : Stmt := topS 34
abbrev s_falling : Stmt := topS 35
abbrev s_place_of : Stmt := topS 36
abbrev s_worth_by : Stmt := topS 37
abbrev s_look_at_count : Stmt := topS 39
abbrev s_is_asked : Stmt := topS 43
abbrev s_is_looks : Stmt := topS 44
abbrev s_look_at_looks : Stmt := topS 45
abbrev s_read_lines : Stmt := topS 46
abbrev s_seen_of : Stmt := topS 47
abbrev s_seen_worths : Stmt := topS 48
abbrev s_unread_of : Stmt := topS 49
abbrev s_count_of : Stmt := topS 50
abbrev s_last_of : Stmt := topS 51
abbrev s_filled : Stmt := topS 52
abbrev s_bounds_by : Stmt := topS 53
abbrev s_bounds_of : Stmt := topS 54
abbrev s_worth_bounds : Stmt := topS 55
abbrev s_goes_ahead : Stmt := topS 56
abbrev s_in_turn : Stmt := topS 57
abbrev s_are_sure : Stmt := topS 58
abbrev s_sure_by : Stmt := topS 59
abbrev s_sure_few : Stmt := topS 60
abbrev s_are_things : Stmt := topS 63
abbrev s_look_at_things : Stmt := topS 64
abbrev s_beaten_pair : Stmt := topS 65
abbrev s_other_book : Stmt := topS 68
abbrev s_seen_paper : Stmt := topS 71
abbrev s_is_number_below : Stmt := topS 72
abbrev s_is_line : Stmt := topS 73
abbrev s_goes_behind : Stmt := topS 74
abbrev s_are_lines : Stmt := topS 75
abbrev s_is_let : Stmt := topS 76
abbrev s_are_asked : Stmt := topS 77
abbrev s_is_paper : Stmt := topS 78
abbrev s_seen_in : Stmt := topS 79
abbrev s_judge_paper : Stmt := topS 80
abbrev s_look_at_slack : Stmt := topS 82
abbrev s_few_above : Stmt := topS 83
abbrev s_near_few : Stmt := topS 84
abbrev s_law_cell : Stmt := topS 86
abbrev s_law_frac : Stmt := topS 87
abbrev s_law_add : Stmt := topS 88
abbrev s_law_mul : Stmt := topS 89
abbrev s_law_below : Stmt := topS 90
abbrev s_law_book : Stmt := topS 91
abbrev s_law_rule : Stmt := topS 92
abbrev s_law_worth : Stmt := topS 93
abbrev s_law_order : Stmt := topS 94
abbrev s_law_looks : Stmt := topS 95
abbrev s_law_more : Stmt := topS 96
abbrev s_law_nested : Stmt := topS 97
abbrev s_law_stays : Stmt := topS 98
abbrev s_law_near : Stmt := topS 99
abbrev s_law_whole : Stmt := topS 100
abbrev s_law : Stmt := topS 101
end Hd

set_option Elab.async false
set_option linter.all false
set_option maxRecDepth 100000
set_option maxHeartbeats 4000000
/-! Cx: each def's names, what it may use, and that its text is its function of data. -/
namespace DL
open PySem PySem.Spec PyProof.Rows L2 Hd
variable (rest : FS)
def N_common_of : List Str := ["one", "other"]
def C_common_of : Ctx := ⟨N_common_of, defScope s_common_of, fun _ => true, [], [], [], false⟩
theorem e_common_of : (cBody (C_common_of) (defBody s_common_of)).1 = B_common_of := by kernel_rfl
theorem S_common_of : FnScope N_common_of ["one", "other"] (defScope s_common_of) := ⟨rfl, rfl, rfl, by decide +kernel, rfl, by decide +kernel, by decide +kernel⟩
def N_is_whole : List Str := ["thing"]
def C_is_whole : Ctx := ⟨N_is_whole, defScope s_is_whole, fun _ => true, [], [], [], false⟩
theorem e_is_whole : (cBody (C_is_whole) (defBody s_is_whole)).1 = B_is_whole := by kernel_rfl
theorem S_is_whole : FnScope N_is_whole ["thing"] (defScope s_is_whole) := ⟨rfl, rfl, rfl, by decide +kernel, rfl, by decide +kernel, by decide +kernel⟩
def N_is_fraction : List Str := ["thing"]
def C_is_fraction : Ctx := ⟨N_is_fraction, defScope s_is_fraction, fun _ => true, [("is_whole", 1, F_is_whole), ("common_of", 2, F_common_of)], [], [], false⟩
theorem e_is_fraction : (cBody (C_is_fraction) (defBody s_is_fraction)).1 = B_is_fraction := by kernel_rfl
theorem S_is_fraction : FnScope N_is_fraction ["thing"] (defScope s_is_fraction) := ⟨rfl, rfl, rfl, by decide +kernel, rfl, by decide +kernel, by decide +kernel⟩
def N_fraction_of : List Str := ["top", "bottom", "by"]
def C_fraction_of : Ctx := ⟨N_fraction_of, defScope s_fraction_of, fun _ => true, [("common_of", 2, F_common_of)], [], [], false⟩
theorem e_fraction_of : (cBody (C_fraction_of) (defBody s_fraction_of)).1 = B_fraction_of := by kernel_rfl
theorem S_fraction_of : FnScope N_fraction_of ["top", "bottom"] (defScope s_fraction_of) := ⟨rfl, rfl, rfl, by decide +kernel, rfl, by decide +kernel, by decide +kernel⟩
def N_frac_sum : List Str := ["one", "other"]
def C_frac_sum : Ctx := ⟨N_frac_sum, defScope s_frac_sum, fun _ => true, [("fraction_of", 2, F_fraction_of)], [], [], false⟩
theorem e_frac_sum : (cBody (C_frac_sum) (defBody s_frac_sum)).1 = B_frac_sum := by kernel_rfl
theorem S_frac_sum : FnScope N_frac_sum ["one", "other"] (defScope s_frac_sum) := ⟨rfl, rfl, rfl, by decide +kernel, rfl, by decide +kernel, by decide +kernel⟩
def N_frac_times : List Str := ["one", "other"]
def C_frac_times : Ctx := ⟨N_frac_times, defScope s_frac_times, fun _ => true, [("fraction_of", 2, F_fraction_of)], [], [], false⟩
theorem e_frac_times : (cBody (C_frac_times) (defBody s_frac_times)).1 = B_frac_times := by kernel_rfl
theorem S_frac_times : FnScope N_frac_times ["one", "other"] (defScope s_frac_times) := ⟨rfl, rfl, rfl, by decide +kernel, rfl, by decide +kernel, by decide +kernel⟩
def N_frac_below : List Str := ["one", "other"]
def C_frac_below : Ctx := ⟨N_frac_below, defScope s_frac_below, fun _ => true, [], [], [], false⟩
theorem e_frac_below : (cBody (C_frac_below) (defBody s_frac_below)).1 = B_frac_below := by kernel_rfl
theorem S_frac_below : FnScope N_frac_below ["one", "other"] (defScope s_frac_below) := ⟨rfl, rfl, rfl, by decide +kernel, rfl, by decide +kernel, by decide +kernel⟩
def N_is_worth : List Str := ["thing"]
def C_is_worth : Ctx := ⟨N_is_worth, defScope s_is_worth, fun _ => true, [("is_fraction", 1, F_is_fraction)], [], [], false⟩
theorem e_is_worth : (cBody (C_is_worth) (defBody s_is_worth)).1 = B_is_worth := by kernel_rfl
theorem S_is_worth : FnScope N_is_worth ["thing"] (defScope s_is_worth) := ⟨rfl, rfl, rfl, by decide +kernel, rfl, by decide +kernel, by decide +kernel⟩
def N_are_worths : List Str := ["thing", "many", "worth"]
def C_are_worths : Ctx := ⟨N_are_worths, defScope s_are_worths, fun _ => true, [("is_worth", 1, F_is_worth)], [], [], false⟩
theorem e_are_worths : (cBody (C_are_worths) (defBody s_are_worths)).1 = B_are_worths := by kernel_rfl
theorem S_are_worths : FnScope N_are_worths ["thing", "many"] (defScope s_are_worths) := ⟨rfl, rfl, rfl, by decide +kernel, rfl, by decide +kernel, by decide +kernel⟩
def N_is_book : List Str := ["thing", "many", "worths"]
def C_is_book : Ctx := ⟨N_is_book, defScope s_is_book, fun _ => true, [("are_worths", 2, F_are_worths)], [("LISTS_AT_MOST", (.int 4)), ("THINGS_AT_MOST", (.int 12))], [], false⟩
theorem e_is_book : (cBody (C_is_book) (defBody s_is_book)).1 = B_is_book := by kernel_rfl
theorem S_is_book : FnScope N_is_book ["thing"] (defScope s_is_book) := ⟨rfl, rfl, rfl, by decide +kernel, rfl, by decide +kernel, by decide +kernel⟩
def N_look_at_book : List Str := ["book"]
def C_look_at_book : Ctx := ⟨N_look_at_book, defScope s_look_at_book, fun _ => true, [("is_book", 1, F_is_book)], [], [], false⟩
theorem e_look_at_book : (cBody (C_look_at_book) (defBody s_look_at_book)).1 = B_look_at_book := by kernel_rfl
theorem S_look_at_book : FnScope N_look_at_book ["book"] (defScope s_look_at_book) := ⟨rfl, rfl, rfl, by decide +kernel, rfl, by decide +kernel, by decide +kernel⟩
def N_order_of : List Str := ["worths", "found", "thing", "worth", "ahead", "other"]
def C_order_of : Ctx := ⟨N_order_of, defScope s_order_of, fun _ => true, [("frac_below", 2, F_frac_below)], [], [1, 4], false⟩
theorem e_order_of : (cBody (C_order_of) (defBody s_order_of)).1 = B_order_of := by kernel_rfl
theorem S_order_of : FnScope N_order_of ["worths"] (defScope s_order_of) := ⟨rfl, rfl, rfl, by decide +kernel, rfl, by decide +kernel, by decide +kernel⟩
def N_is_weight : List Str := ["thing"]
def C_is_weight : Ctx := ⟨N_is_weight, defScope s_is_weight, fun _ => true, [("is_fraction", 1, F_is_fraction)], [], [], false⟩
theorem e_is_weight : (cBody (C_is_weight) (defBody s_is_weight)).1 = B_is_weight := by kernel_rfl
theorem S_is_weight : FnScope N_is_weight ["thing"] (defScope s_is_weight) := ⟨rfl, rfl, rfl, by decide +kernel, rfl, by decide +kernel, by decide +kernel⟩
def N_is_rule : List Str := ["thing", "many", "weight"]
def C_is_rule : Ctx := ⟨N_is_rule, defScope s_is_rule, fun _ => true, [("is_weight", 1, F_is_weight), ("is_whole", 1, F_is_whole)], [("ALONE", alone)], [], false⟩
theorem e_is_rule : (cBody (C_is_rule) (defBody s_is_rule)).1 = B_is_rule := by kernel_rfl
theorem S_is_rule : FnScope N_is_rule ["thing", "many"] (defScope s_is_rule) := ⟨rfl, rfl, rfl, by decide +kernel, rfl, by decide +kernel, by decide +kernel⟩
def N_look_at_rule : List Str := ["rule", "many"]
def C_look_at_rule : Ctx := ⟨N_look_at_rule, defScope s_look_at_rule, fun _ => true, [("is_rule", 2, F_is_rule)], [], [], false⟩
theorem e_look_at_rule : (cBody (C_look_at_rule) (defBody s_look_at_rule)).1 = B_look_at_rule := by kernel_rfl
theorem S_look_at_rule : FnScope N_look_at_rule ["rule", "many"] (defScope s_look_at_rule) := ⟨rfl, rfl, rfl, by decide +kernel, rfl, by decide +kernel, by decide +kernel⟩
def N_falling : List Str := ["worths", "found", "worth", "place", "other"]
def C_falling : Ctx := ⟨N_falling, defScope s_falling, fun _ => true, [("frac_below", 2, F_frac_below)], [], [1], false⟩
theorem e_falling : (cBody (C_falling) (defBody s_falling)).1 = B_falling := by kernel_rfl
theorem S_falling : FnScope N_falling ["worths"] (defScope s_falling) := ⟨rfl, rfl, rfl, by decide +kernel, rfl, by decide +kernel, by decide +kernel⟩
def N_place_of : List Str := ["rule", "many"]
def C_place_of : Ctx := ⟨N_place_of, defScope s_place_of, fun _ => true, [], [], [], false⟩
theorem e_place_of : (cBody (C_place_of) (defBody s_place_of)).1 = B_place_of := by kernel_rfl
theorem S_place_of : FnScope N_place_of ["rule", "many"] (defScope s_place_of) := ⟨rfl, rfl, rfl, by decide +kernel, rfl, by decide +kernel, by decide +kernel⟩
def N_worth_by : List Str := ["rule", "worths", "total", "weight", "worth"]
def C_worth_by : Ctx := ⟨N_worth_by, defScope s_worth_by, fun _ => true, [("frac_sum", 2, F_frac_sum), ("frac_times", 2, F_frac_times), ("falling", 1, F_falling), ("place_of", 2, F_place_of)], [("NOTHING_rules", nought), ("ONE_rules", one)], [], false⟩
theorem e_worth_by : (cBody (C_worth_by) (defBody s_worth_by)).1 = B_worth_by := by kernel_rfl
theorem S_worth_by : FnScope N_worth_by ["rule", "worths"] (defScope s_worth_by) := ⟨rfl, rfl, rfl, by decide +kernel, rfl, by decide +kernel, by decide +kernel⟩
def N_look_at_count : List Str := ["book", "count"]
def C_look_at_count : Ctx := ⟨N_look_at_count, defScope s_look_at_count, fun _ => true, [("is_whole", 1, F_is_whole)], [], [], false⟩
theorem e_look_at_count : (cBody (C_look_at_count) (defBody s_look_at_count)).1 = B_look_at_count := by kernel_rfl
theorem S_look_at_count : FnScope N_look_at_count ["book", "count"] (defScope s_look_at_count) := ⟨rfl, rfl, rfl, by decide +kernel, rfl, by decide +kernel, by decide +kernel⟩
def N_is_asked : List Str := ["thing", "lists", "many", "last", "pair"]
def C_is_asked : Ctx := ⟨N_is_asked, defScope s_is_asked, fun _ => true, [("is_whole", 1, F_is_whole)], [], [], false⟩
theorem e_is_asked : (cBody (C_is_asked) (defBody s_is_asked)).1 = B_is_asked := by kernel_rfl
theorem S_is_asked : FnScope N_is_asked ["thing", "lists", "many"] (defScope s_is_asked) := ⟨rfl, rfl, rfl, by decide +kernel, rfl, by decide +kernel, by decide +kernel⟩
def N_is_looks : List Str := ["book", "thing", "depths", "asked", "depth"]
def C_is_looks : Ctx := ⟨N_is_looks, defScope s_is_looks, fun _ => true, [("is_whole", 1, F_is_whole), ("is_asked", 3, F_is_asked)], [], [], false⟩
theorem e_is_looks : (cBody (C_is_looks) (defBody s_is_looks)).1 = B_is_looks := by kernel_rfl
theorem S_is_looks : FnScope N_is_looks ["book", "thing"] (defScope s_is_looks) := ⟨rfl, rfl, rfl, by decide +kernel, rfl, by decide +kernel, by decide +kernel⟩
def N_look_at_looks : List Str := ["book", "looks"]
def C_look_at_looks : Ctx := ⟨N_look_at_looks, defScope s_look_at_looks, fun _ => true, [("is_looks", 2, F_is_looks)], [], [], false⟩
theorem e_look_at_looks : (cBody (C_look_at_looks) (defBody s_look_at_looks)).1 = B_look_at_looks := by kernel_rfl
theorem S_look_at_looks : FnScope N_look_at_looks ["book", "looks"] (defScope s_look_at_looks) := ⟨rfl, rfl, rfl, by decide +kernel, rfl, by decide +kernel, by decide +kernel⟩
def N_read_lines : List Str := ["book", "depths", "worths", "depth"]
def C_read_lines : Ctx := ⟨N_read_lines, defScope s_read_lines, fun _ => true, [("order_of", 1, F_order_of)], [], [], false⟩
theorem e_read_lines : (cBody (C_read_lines) (defBody s_read_lines)).1 = B_read_lines := by kernel_rfl
theorem S_read_lines : FnScope N_read_lines ["book", "depths"] (defScope s_read_lines) := ⟨rfl, rfl, rfl, by decide +kernel, rfl, by decide +kernel, by decide +kernel⟩
def N_seen_of : List Str := ["book", "looks", "depths", "asked", "found", "place", "lines", "row", "thing", "worth"]
def C_seen_of : Ctx := ⟨N_seen_of, defScope s_seen_of, fun _ => true, [("read_lines", 2, F_read_lines)], [], [4, 7], false⟩
theorem e_seen_of : (cBody (C_seen_of) (defBody s_seen_of)).1 = B_seen_of := by kernel_rfl
theorem S_seen_of : FnScope N_seen_of ["book", "looks"] (defScope s_seen_of) := ⟨rfl, rfl, rfl, by decide +kernel, rfl, by decide +kernel, by decide +kernel⟩
def N_seen_worths : List Str := ["book", "looks"]
def C_seen_worths : Ctx := ⟨N_seen_worths, defScope s_seen_worths, fun _ => true, [("look_at_book", 1, F_look_at_book), ("look_at_looks", 2, F_look_at_looks), ("seen_of", 2, F_seen_of)], [], [], false⟩
theorem e_seen_worths : (cBody (C_seen_worths) (defBody s_seen_worths)).1 = B_seen_worths := by kernel_rfl
theorem S_seen_worths : FnScope N_seen_worths ["book", "looks"] (defScope s_seen_worths) := ⟨rfl, rfl, rfl, by decide +kernel, rfl, by decide +kernel, by decide +kernel⟩
def N_unread_of : List Str := ["book", "looks", "lines", "pair"]
def C_unread_of : Ctx := ⟨N_unread_of, defScope s_unread_of, fun _ => true, [("read_lines", 2, F_read_lines)], [], [], false⟩
theorem e_unread_of : (cBody (C_unread_of) (defBody s_unread_of)).1 = B_unread_of := by kernel_rfl
theorem S_unread_of : FnScope N_unread_of ["book", "looks"] (defScope s_unread_of) := ⟨rfl, rfl, rfl, by decide +kernel, rfl, by decide +kernel, by decide +kernel⟩
def N_count_of : List Str := ["book", "looks"]
def C_count_of : Ctx := ⟨N_count_of, defScope s_count_of, fun _ => true, [("look_at_book", 1, F_look_at_book), ("look_at_looks", 2, F_look_at_looks), ("unread_of", 2, F_unread_of)], [], [], false⟩
theorem e_count_of : (cBody (C_count_of) (defBody s_count_of)).1 = B_count_of := by kernel_rfl
theorem S_count_of : FnScope N_count_of ["book", "looks"] (defScope s_count_of) := ⟨rfl, rfl, rfl, by decide +kernel, rfl, by decide +kernel, by decide +kernel⟩
def N_last_of : List Str := ["book", "depths", "found", "worths", "lines"]
def C_last_of : Ctx := ⟨N_last_of, defScope s_last_of, fun _ => true, [("read_lines", 2, F_read_lines)], [("ONE_looks", one)], [2], false⟩
theorem e_last_of : (cBody (C_last_of) (defBody s_last_of)).1 = B_last_of := by kernel_rfl
theorem S_last_of : FnScope N_last_of ["book", "depths"] (defScope s_last_of) := ⟨rfl, rfl, rfl, by decide +kernel, rfl, by decide +kernel, by decide +kernel⟩
def N_filled : List Str := ["row", "others", "worth", "other"]
def C_filled : Ctx := ⟨N_filled, defScope s_filled, fun _ => true, [], [], [], false⟩
theorem e_filled : (cBody (C_filled) (defBody s_filled)).1 = B_filled := by kernel_rfl
theorem S_filled : FnScope N_filled ["row", "others"] (defScope s_filled) := ⟨rfl, rfl, rfl, by decide +kernel, rfl, by decide +kernel, by decide +kernel⟩
def N_bounds_by : List Str := ["rule", "seen", "last", "found", "thing", "row", "low", "worths"]
def C_bounds_by : Ctx := ⟨N_bounds_by, defScope s_bounds_by, fun _ => true, [("worth_by", 2, F_worth_by), ("filled", 2, F_filled)], [("NOTHING_looks", nought)], [3, 5], false⟩
theorem e_bounds_by : (cBody (C_bounds_by) (defBody s_bounds_by)).1 = B_bounds_by := by kernel_rfl
theorem S_bounds_by : FnScope N_bounds_by ["rule", "seen", "last"] (defScope s_bounds_by) := ⟨rfl, rfl, rfl, by decide +kernel, rfl, by decide +kernel, by decide +kernel⟩
def N_bounds_of : List Str := ["book", "rule", "looks"]
def C_bounds_of : Ctx := ⟨N_bounds_of, defScope s_bounds_of, fun _ => true, [("bounds_by", 3, F_bounds_by), ("last_of", 2, F_last_of), ("seen_of", 2, F_seen_of)], [], [], false⟩
theorem e_bounds_of : (cBody (C_bounds_of) (defBody s_bounds_of)).1 = B_bounds_of := by kernel_rfl
theorem S_bounds_of : FnScope N_bounds_of ["book", "rule", "looks"] (defScope s_bounds_of) := ⟨rfl, rfl, rfl, by decide +kernel, rfl, by decide +kernel, by decide +kernel⟩
def N_worth_bounds : List Str := ["book", "rule", "looks"]
def C_worth_bounds : Ctx := ⟨N_worth_bounds, defScope s_worth_bounds, fun _ => true, [("look_at_book", 1, F_look_at_book), ("look_at_rule", 2, F_look_at_rule), ("look_at_looks", 2, F_look_at_looks), ("bounds_of", 3, F_bounds_of)], [], [], false⟩
theorem e_worth_bounds : (cBody (C_worth_bounds) (defBody s_worth_bounds)).1 = B_worth_bounds := by kernel_rfl
theorem S_worth_bounds : FnScope N_worth_bounds ["book", "rule", "looks"] (defScope s_worth_bounds) := ⟨rfl, rfl, rfl, by decide +kernel, rfl, by decide +kernel, by decide +kernel⟩
def N_goes_ahead : List Str := ["bounds", "one", "other"]
def C_goes_ahead : Ctx := ⟨N_goes_ahead, defScope s_goes_ahead, fun _ => true, [("frac_below", 2, F_frac_below)], [], [], false⟩
theorem e_goes_ahead : (cBody (C_goes_ahead) (defBody s_goes_ahead)).1 = B_goes_ahead := by kernel_rfl
theorem S_goes_ahead : FnScope N_goes_ahead ["bounds", "one", "other"] (defScope s_goes_ahead) := ⟨rfl, rfl, rfl, by decide +kernel, rfl, by decide +kernel, by decide +kernel⟩
def N_in_turn : List Str := ["bounds", "found", "thing", "place", "other"]
def C_in_turn : Ctx := ⟨N_in_turn, defScope s_in_turn, fun _ => true, [("goes_ahead", 3, F_goes_ahead)], [], [1], false⟩
theorem e_in_turn : (cBody (C_in_turn) (defBody s_in_turn)).1 = B_in_turn := by kernel_rfl
theorem S_in_turn : FnScope N_in_turn ["bounds"] (defScope s_in_turn) := ⟨rfl, rfl, rfl, by decide +kernel, rfl, by decide +kernel, by decide +kernel⟩
def N_are_sure : List Str := ["bounds", "things", "thing", "other"]
def C_are_sure : Ctx := ⟨N_are_sure, defScope s_are_sure, fun _ => true, [("frac_below", 2, F_frac_below)], [], [], false⟩
theorem e_are_sure : (cBody (C_are_sure) (defBody s_are_sure)).1 = B_are_sure := by kernel_rfl
theorem S_are_sure : FnScope N_are_sure ["bounds", "things"] (defScope s_are_sure) := ⟨rfl, rfl, rfl, by decide +kernel, rfl, by decide +kernel, by decide +kernel⟩
def N_sure_by : List Str := ["bounds", "count", "things"]
def C_sure_by : Ctx := ⟨N_sure_by, defScope s_sure_by, fun _ => true, [("in_turn", 1, F_in_turn), ("are_sure", 2, F_are_sure)], [], [], false⟩
theorem e_sure_by : (cBody (C_sure_by) (defBody s_sure_by)).1 = B_sure_by := by kernel_rfl
theorem S_sure_by : FnScope N_sure_by ["bounds", "count"] (defScope s_sure_by) := ⟨rfl, rfl, rfl, by decide +kernel, rfl, by decide +kernel, by decide +kernel⟩
def N_sure_few : List Str := ["book", "rule", "count", "looks"]
def C_sure_few : Ctx := ⟨N_sure_few, defScope s_sure_few, fun _ => true, [("look_at_book", 1, F_look_at_book), ("look_at_rule", 2, F_look_at_rule), ("look_at_count", 2, F_look_at_count), ("look_at_looks", 2, F_look_at_looks), ("sure_by", 2, F_sure_by), ("bounds_of", 3, F_bounds_of)], [], [], false⟩
theorem e_sure_few : (cBody (C_sure_few) (defBody s_sure_few)).1 = B_sure_few := by kernel_rfl
theorem S_sure_few : FnScope N_sure_few ["book", "rule", "count", "looks"] (defScope s_sure_few) := ⟨rfl, rfl, rfl, by decide +kernel, rfl, by decide +kernel, by decide +kernel⟩
def N_are_things : List Str := ["thing", "many", "last", "one"]
def C_are_things : Ctx := ⟨N_are_things, defScope s_are_things, fun _ => true, [("is_whole", 1, F_is_whole)], [], [], false⟩
theorem e_are_things : (cBody (C_are_things) (defBody s_are_things)).1 = B_are_things := by kernel_rfl
theorem S_are_things : FnScope N_are_things ["thing", "many"] (defScope s_are_things) := ⟨rfl, rfl, rfl, by decide +kernel, rfl, by decide +kernel, by decide +kernel⟩
def N_look_at_things : List Str := ["book", "things"]
def C_look_at_things : Ctx := ⟨N_look_at_things, defScope s_look_at_things, fun _ => true, [("are_things", 2, F_are_things)], [], [], false⟩
theorem e_look_at_things : (cBody (C_look_at_things) (defBody s_look_at_things)).1 = B_look_at_things := by kernel_rfl
theorem S_look_at_things : FnScope N_look_at_things ["book", "things"] (defScope s_look_at_things) := ⟨rfl, rfl, rfl, by decide +kernel, rfl, by decide +kernel, by decide +kernel⟩
def N_beaten_pair : List Str := ["bounds", "things", "thing", "other"]
def C_beaten_pair : Ctx := ⟨N_beaten_pair, defScope s_beaten_pair, fun _ => true, [("frac_below", 2, F_frac_below)], [], [], false⟩
theorem e_beaten_pair : (cBody (C_beaten_pair) (defBody s_beaten_pair)).1 = B_beaten_pair := by kernel_rfl
theorem S_beaten_pair : FnScope N_beaten_pair ["bounds", "things"] (defScope s_beaten_pair) := ⟨rfl, rfl, rfl, by decide +kernel, rfl, by decide +kernel, by decide +kernel⟩
def N_other_book : List Str := ["book", "rule", "things", "looks", "bounds", "pair", "seen", "row", "tops", "gap", "found", "place", "worth", "worths"]
def C_other_book : Ctx := ⟨N_other_book, defScope s_other_book, fun _ => true, [("look_at_book", 1, F_look_at_book), ("look_at_rule", 2, F_look_at_rule), ("look_at_things", 2, F_look_at_things), ("look_at_looks", 2, F_look_at_looks), ("bounds_of", 3, F_bounds_of), ("beaten_pair", 2, F_beaten_pair)], [], [7, 10], false⟩
def rest0 : FS := (cBlock C_other_book (cSt 20 C_other_book) ((defBody s_other_book).drop 7)).1
theorem e_other_book : (cBody C_other_book (defBody s_other_book)).1 = B_other_book rest0 := by kernel_rfl
theorem S_other_book : FnScope N_other_book ["book", "rule", "things", "looks"] (defScope s_other_book) := ⟨rfl, rfl, rfl, by decide +kernel, rfl, by decide +kernel, by decide +kernel⟩
def N_seen_paper : List Str := ["book", "rule", "count", "looks", "things", "lines", "worths", "read", "thing", "place"]
def C_seen_paper : Ctx := ⟨N_seen_paper, defScope s_seen_paper, fun _ => true, [("look_at_book", 1, F_look_at_book), ("look_at_rule", 2, F_look_at_rule), ("look_at_count", 2, F_look_at_count), ("look_at_looks", 2, F_look_at_looks), ("sure_by", 2, F_sure_by), ("bounds_of", 3, F_bounds_of), ("read_lines", 2, F_read_lines)], [], [5], false⟩
theorem e_seen_paper : (cBody (C_seen_paper) (defBody s_seen_paper)).1 = B_seen_paper := by kernel_rfl
theorem S_seen_paper : FnScope N_seen_paper ["book", "rule", "count", "looks"] (defScope s_seen_paper) := ⟨rfl, rfl, rfl, by decide +kernel, rfl, by decide +kernel, by decide +kernel⟩
def N_is_number_below : List Str := ["thing", "many"]
def C_is_number_below : Ctx := ⟨N_is_number_below, defScope s_is_number_below, fun _ => true, [("is_whole", 1, F_is_whole)], [], [], false⟩
theorem e_is_number_below : (cBody (C_is_number_below) (defBody s_is_number_below)).1 = B_is_number_below := by kernel_rfl
theorem S_is_number_below : FnScope N_is_number_below ["thing", "many"] (defScope s_is_number_below) := ⟨rfl, rfl, rfl, by decide +kernel, rfl, by decide +kernel, by decide +kernel⟩
def N_is_line : List Str := ["thing", "many"]
def C_is_line : Ctx := ⟨N_is_line, defScope s_is_line, fun _ => true, [("is_worth", 1, F_is_worth), ("is_number_below", 2, F_is_number_below)], [], [], false⟩
theorem e_is_line : (cBody (C_is_line) (defBody s_is_line)).1 = B_is_line := by kernel_rfl
theorem S_is_line : FnScope N_is_line ["thing", "many"] (defScope s_is_line) := ⟨rfl, rfl, rfl, by decide +kernel, rfl, by decide +kernel, by decide +kernel⟩
def N_goes_behind : List Str := ["line", "other"]
def C_goes_behind : Ctx := ⟨N_goes_behind, defScope s_goes_behind, fun _ => true, [("frac_below", 2, F_frac_below)], [], [], false⟩
theorem e_goes_behind : (cBody (C_goes_behind) (defBody s_goes_behind)).1 = B_goes_behind := by kernel_rfl
theorem S_goes_behind : FnScope N_goes_behind ["line", "other"] (defScope s_goes_behind) := ⟨rfl, rfl, rfl, by decide +kernel, rfl, by decide +kernel, by decide +kernel⟩
def N_are_lines : List Str := ["thing", "many", "things", "place", "line", "lesser"]
def C_are_lines : Ctx := ⟨N_are_lines, defScope s_are_lines, fun _ => true, [("is_line", 2, F_is_line), ("goes_behind", 2, F_goes_behind)], [("NOTHING_looks", nought)], [2], false⟩
theorem e_are_lines : (cBody (C_are_lines) (defBody s_are_lines)).1 = B_are_lines := by kernel_rfl
theorem S_are_lines : FnScope N_are_lines ["thing", "many"] (defScope s_are_lines) := ⟨rfl, rfl, rfl, by decide +kernel, rfl, by decide +kernel, by decide +kernel⟩
def N_is_let : List Str := ["lines", "thing", "worth", "one", "known"]
def C_is_let : Ctx := ⟨N_is_let, defScope s_is_let, fun _ => true, [("goes_behind", 2, F_goes_behind)], [], [], false⟩
theorem e_is_let : (cBody (C_is_let) (defBody s_is_let)).1 = B_is_let := by kernel_rfl
theorem S_is_let : FnScope N_is_let ["lines", "thing", "worth"] (defScope s_is_let) := ⟨rfl, rfl, rfl, by decide +kernel, rfl, by decide +kernel, by decide +kernel⟩
def N_are_asked : List Str := ["thing", "lines", "many", "last", "one"]
def C_are_asked : Ctx := ⟨N_are_asked, defScope s_are_asked, fun _ => true, [("is_worth", 1, F_is_worth), ("is_number_below", 2, F_is_number_below), ("is_let", 3, F_is_let)], [], [], false⟩
theorem e_are_asked : (cBody (C_are_asked) (defBody s_are_asked)).1 = B_are_asked := by kernel_rfl
theorem S_are_asked : FnScope N_are_asked ["thing", "lines", "many"] (defScope s_are_asked) := ⟨rfl, rfl, rfl, by decide +kernel, rfl, by decide +kernel, by decide +kernel⟩
def N_is_paper : List Str := ["thing", "many", "lines", "asked", "things", "some"]
def C_is_paper : Ctx := ⟨N_is_paper, defScope s_is_paper, fun _ => true, [("are_lines", 2, F_are_lines), ("are_things", 2, F_are_things), ("are_asked", 3, F_are_asked)], [("MOST_LISTS", (.int 4))], [], false⟩
theorem e_is_paper : (cBody (C_is_paper) (defBody s_is_paper)).1 = B_is_paper := by kernel_rfl
theorem S_is_paper : FnScope N_is_paper ["thing", "many"] (defScope s_is_paper) := ⟨rfl, rfl, rfl, by decide +kernel, rfl, by decide +kernel, by decide +kernel⟩
def N_judge_paper : List Str := ["many", "rule", "count", "paper", "last", "lines"]
def C_judge_paper : Ctx := ⟨N_judge_paper, defScope s_judge_paper, fun _ => true, [("is_whole", 1, F_is_whole), ("is_rule", 2, F_is_rule), ("is_paper", 2, F_is_paper), ("are_sure", 2, F_are_sure), ("bounds_by", 3, F_bounds_by), ("seen_in", 2, F_seen_in)], [("MOST_THINGS", (.int 12)), ("ONE_looks", one)], [4], false⟩
theorem e_judge_paper : (cBody (C_judge_paper) (defBody s_judge_paper)).1 = B_judge_paper := by kernel_rfl
theorem S_judge_paper : FnScope N_judge_paper ["many", "rule", "count", "paper"] (defScope s_judge_paper) := ⟨rfl, rfl, rfl, by decide +kernel, rfl, by decide +kernel, by decide +kernel⟩
def N_look_at_slack : List Str := ["slack"]
def C_look_at_slack : Ctx := ⟨N_look_at_slack, defScope s_look_at_slack, fun _ => true, [("is_fraction", 1, F_is_fraction)], [], [], false⟩
theorem e_look_at_slack : (cBody (C_look_at_slack) (defBody s_look_at_slack)).1 = B_look_at_slack := by kernel_rfl
theorem S_look_at_slack : FnScope N_look_at_slack ["slack"] (defScope s_look_at_slack) := ⟨rfl, rfl, rfl, by decide +kernel, rfl, by decide +kernel, by decide +kernel⟩
def N_few_above : List Str := ["bounds", "count", "slack", "least", "mark", "order", "wanted", "rest", "thing"]
def C_few_above : Ctx := ⟨N_few_above, defScope s_few_above, fun _ => true, [("frac_times", 2, F_frac_times), ("in_turn", 1, F_in_turn), ("frac_below", 2, F_frac_below)], [], [5, 6, 7], false⟩
theorem e_few_above : (cBody (C_few_above) (defBody s_few_above)).1 = B_few_above := by kernel_rfl
theorem S_few_above : FnScope N_few_above ["bounds", "count", "slack", "least"] (defScope s_few_above) := ⟨rfl, rfl, rfl, by decide +kernel, rfl, by decide +kernel, by decide +kernel⟩
def N_near_few : List Str := ["book", "rule", "count", "looks", "slack", "bounds", "thing", "found"]
def C_near_few : Ctx := ⟨N_near_few, defScope s_near_few, fun _ => true, [("look_at_book", 1, F_look_at_book), ("look_at_rule", 2, F_look_at_rule), ("look_at_count", 2, F_look_at_count), ("look_at_looks", 2, F_look_at_looks), ("look_at_slack", 1, F_look_at_slack), ("bounds_of", 3, F_bounds_of), ("in_turn", 1, F_in_turn), ("few_above", 4, F_few_above)], [], [], false⟩
theorem e_near_few : (cBody (C_near_few) (defBody s_near_few)).1 = B_near_few := by kernel_rfl
theorem S_near_few : FnScope N_near_few ["book", "rule", "count", "looks", "slack"] (defScope s_near_few) := ⟨rfl, rfl, rfl, by decide +kernel, rfl, by decide +kernel, by decide +kernel⟩
def N_law_cell : List Str := ["_law_script", "_law_k", "_law_cell_here", "_law_number"]
def C_law_cell : Ctx := ⟨N_law_cell, defScope s_law_cell, fun _ => true, [], [], [], false⟩
theorem e_law_cell : (cBody (C_law_cell) (defBody s_law_cell)).1 = B_law_cell := by kernel_rfl
theorem S_law_cell : FnScope N_law_cell ["_law_script", "_law_k"] (defScope s_law_cell) := ⟨rfl, rfl, rfl, by decide +kernel, rfl, by decide +kernel, by decide +kernel⟩
def N_law_frac : List Str := ["_law_top", "_law_bottom", "_law_one", "_law_other"]
def C_law_frac : Ctx := ⟨N_law_frac, defScope s_law_frac, fun _ => true, [], [], [], false⟩
theorem e_law_frac : (cBody (C_law_frac) (defBody s_law_frac)).1 = B_law_frac := by kernel_rfl
theorem S_law_frac : FnScope N_law_frac ["_law_top", "_law_bottom"] (defScope s_law_frac) := ⟨rfl, rfl, rfl, by decide +kernel, rfl, by decide +kernel, by decide +kernel⟩
def N_law_add : List Str := ["_law_one", "_law_other"]
def C_law_add : Ctx := ⟨N_law_add, defScope s_law_add, fun _ => true, [("_law_frac", 2, F_law_frac)], [], [], false⟩
theorem e_law_add : (cBody (C_law_add) (defBody s_law_add)).1 = B_law_add := by kernel_rfl
theorem S_law_add : FnScope N_law_add ["_law_one", "_law_other"] (defScope s_law_add) := ⟨rfl, rfl, rfl, by decide +kernel, rfl, by decide +kernel, by decide +kernel⟩
def N_law_mul : List Str := ["_law_one", "_law_other"]
def C_law_mul : Ctx := ⟨N_law_mul, defScope s_law_mul, fun _ => true, [("_law_frac", 2, F_law_frac)], [], [], false⟩
theorem e_law_mul : (cBody (C_law_mul) (defBody s_law_mul)).1 = B_law_mul := by kernel_rfl
theorem S_law_mul : FnScope N_law_mul ["_law_one", "_law_other"] (defScope s_law_mul) := ⟨rfl, rfl, rfl, by decide +kernel, rfl, by decide +kernel, by decide +kernel⟩
def N_law_below : List Str := ["_law_one", "_law_other"]
def C_law_below : Ctx := ⟨N_law_below, defScope s_law_below, fun _ => true, [], [], [], false⟩
theorem e_law_below : (cBody (C_law_below) (defBody s_law_below)).1 = B_law_below := by kernel_rfl
theorem S_law_below : FnScope N_law_below ["_law_one", "_law_other"] (defScope s_law_below) := ⟨rfl, rfl, rfl, by decide +kernel, rfl, by decide +kernel, by decide +kernel⟩
def N_law_book : List Str := ["_law_script", "_law_at", "_law_lists", "_law_most", "_law_number", "_law_many", "_law_wide", "_law_bottom", "_law_book_here", "_law_k", "_law_other", "_law_row", "_law_thing"]
def C_law_book : Ctx := ⟨N_law_book, defScope s_law_book, fun _ => true, [("_law_cell", 2, F_law_cell), ("_law_frac", 2, F_law_frac)], [], [8, 11], false⟩
theorem e_law_book : (cBody (C_law_book) (defBody s_law_book)).1 = B_law_book := by kernel_rfl
theorem S_law_book : FnScope N_law_book ["_law_script", "_law_at", "_law_lists", "_law_most"] (defScope s_law_book) := ⟨rfl, rfl, rfl, by decide +kernel, rfl, by decide +kernel, by decide +kernel⟩
def N_law_rule : List Str := ["_law_number", "_law_lists", "_law_way", "_law_weights", "_law_k"]
def C_law_rule : Ctx := ⟨N_law_rule, defScope s_law_rule, fun _ => true, [("_law_frac", 2, F_law_frac)], [], [3], false⟩
theorem e_law_rule : (cBody (C_law_rule) (defBody s_law_rule)).1 = B_law_rule := by kernel_rfl
theorem S_law_rule : FnScope N_law_rule ["_law_number", "_law_lists"] (defScope s_law_rule) := ⟨rfl, rfl, rfl, by decide +kernel, rfl, by decide +kernel, by decide +kernel⟩
def N_law_worth : List Str := ["_law_rule_here", "_law_worths", "_law_found", "_law_k", "_law_worth_here", "_law_rising", "_law_place", "_law_one"]
def C_law_worth : Ctx := ⟨N_law_worth, defScope s_law_worth, fun _ => true, [("_law_add", 2, F_law_add), ("_law_mul", 2, F_law_mul), ("_law_below", 2, F_law_below)], [], [5], false⟩
theorem e_law_worth : (cBody (C_law_worth) (defBody s_law_worth)).1 = B_law_worth := by kernel_rfl
theorem S_law_worth : FnScope N_law_worth ["_law_rule_here", "_law_worths"] (defScope s_law_worth) := ⟨rfl, rfl, rfl, by decide +kernel, rfl, by decide +kernel, by decide +kernel⟩
def N_law_order : List Str := ["_law_worths", "_law_found", "_law_thing", "_law_place", "_law_one"]
def C_law_order : Ctx := ⟨N_law_order, defScope s_law_order, fun _ => true, [("_law_below", 2, F_law_below)], [], [1], false⟩
theorem e_law_order : (cBody (C_law_order) (defBody s_law_order)).1 = B_law_order := by kernel_rfl
theorem S_law_order : FnScope N_law_order ["_law_worths"] (defScope s_law_order) := ⟨rfl, rfl, rfl, by decide +kernel, rfl, by decide +kernel, by decide +kernel⟩
def N_law_looks : List Str := ["_law_script", "_law_at", "_law_book_here", "_law_number", "_law_many", "_law_depths", "_law_k", "_law_asked", "_law_other", "_law_thing", "_law_depth"]
def C_law_looks : Ctx := ⟨N_law_looks, defScope s_law_looks, fun _ => true, [("_law_cell", 2, F_law_cell)], [], [5, 7], false⟩
theorem e_law_looks : (cBody (C_law_looks) (defBody s_law_looks)).1 = B_law_looks := by kernel_rfl
theorem S_law_looks : FnScope N_law_looks ["_law_script", "_law_at", "_law_book_here"] (defScope s_law_looks) := ⟨rfl, rfl, rfl, by decide +kernel, rfl, by decide +kernel, by decide +kernel⟩
def N_law_more : List Str := ["_law_script", "_law_at", "_law_book_here", "_law_looks_here", "_law_number", "_law_many", "_law_depths", "_law_depth", "_law_asked", "_law_other", "_law_k", "_law_thing"]
def C_law_more : Ctx := ⟨N_law_more, defScope s_law_more, fun _ => true, [("_law_cell", 2, F_law_cell)], [], [6, 8], false⟩
theorem e_law_more : (cBody (C_law_more) (defBody s_law_more)).1 = B_law_more := by kernel_rfl
theorem S_law_more : FnScope N_law_more ["_law_script", "_law_at", "_law_book_here", "_law_looks_here"] (defScope s_law_more) := ⟨rfl, rfl, rfl, by decide +kernel, rfl, by decide +kernel, by decide +kernel⟩
def N_law_nested : List Str := ["_law_book_here", "_law_rule_here", "_law_looks_here", "_law_more_here", "_law_seen", "_law_then", "_law_k", "_law_thing", "_law_worth_here", "_law_held", "_law_first", "_law_second", "_law_low", "_law_high", "_law_row"]
def C_law_nested : Ctx := ⟨N_law_nested, defScope s_law_nested, fun _ => true, [("seen_worths", 2, F_seen_worths), ("worth_bounds", 3, F_worth_bounds), ("_law_worth", 2, F_law_worth), ("_law_below", 2, F_law_below), ("count_of", 2, F_count_of)], [], [9], false⟩
theorem e_law_nested : (cBody (C_law_nested) (defBody s_law_nested)).1 = B_law_nested := by kernel_rfl
theorem S_law_nested : FnScope N_law_nested ["_law_book_here", "_law_rule_here", "_law_looks_here", "_law_more_here"] (defScope s_law_nested) := ⟨rfl, rfl, rfl, by decide +kernel, rfl, by decide +kernel, by decide +kernel⟩
def N_law_stays : List Str := ["_law_book_here", "_law_rule_here", "_law_count", "_law_looks_here", "_law_more_here", "_law_things", "_law_lines", "_law_asked", "_law_told"]
def C_law_stays (rest : FS) : Ctx := ⟨N_law_stays, defScope s_law_stays, fun _ => true, [("sure_few", 4, F_sure_few), ("other_book", 4, (F_other_book rest)), ("seen_paper", 4, F_seen_paper), ("judge_paper", 4, F_judge_paper)], [], [], false⟩
theorem e_law_stays : (cBody (C_law_stays rest) (defBody s_law_stays)).1 = B_law_stays rest := by kernel_rfl
theorem S_law_stays : FnScope N_law_stays ["_law_book_here", "_law_rule_here", "_law_count", "_law_looks_here", "_law_more_here"] (defScope s_law_stays) := ⟨rfl, rfl, rfl, by decide +kernel, rfl, by decide +kernel, by decide +kernel⟩
def N_law_near : List Str := ["_law_book_here", "_law_rule_here", "_law_count", "_law_looks_here", "_law_more_here", "_law_slack", "_law_things", "_law_bounds", "_law_thing", "_law_other"]
def C_law_near : Ctx := ⟨N_law_near, defScope s_law_near, fun _ => true, [("near_few", 5, F_near_few), ("worth_bounds", 3, F_worth_bounds), ("_law_below", 2, F_law_below), ("_law_mul", 2, F_law_mul), ("_law_add", 2, F_law_add)], [], [], false⟩
theorem e_law_near : (cBody (C_law_near) (defBody s_law_near)).1 = B_law_near := by kernel_rfl
theorem S_law_near : FnScope N_law_near ["_law_book_here", "_law_rule_here", "_law_count", "_law_looks_here", "_law_more_here", "_law_slack"] (defScope s_law_near) := ⟨rfl, rfl, rfl, by decide +kernel, rfl, by decide +kernel, by decide +kernel⟩
def N_law_whole : List Str := ["_law_book_here", "_law_rule_here", "_law_count", "_law_many", "_law_worths", "_law_due", "_law_every", "_law_k", "_law_looks_here", "_law_thing", "_law_row", "_law_worth_here"]
def C_law_whole (rest : FS) : Ctx := ⟨N_law_whole, defScope s_law_whole, fun _ => true, [("_law_worth", 2, F_law_worth), ("_law_order", 1, F_law_order), ("worth_bounds", 3, F_worth_bounds), ("other_book", 4, (F_other_book rest)), ("sure_few", 4, F_sure_few)], [], [4, 6], false⟩
theorem e_law_whole : (cBody (C_law_whole rest) (defBody s_law_whole)).1 = B_law_whole rest := by kernel_rfl
theorem S_law_whole : FnScope N_law_whole ["_law_book_here", "_law_rule_here", "_law_count"] (defScope s_law_whole) := ⟨rfl, rfl, rfl, by decide +kernel, rfl, by decide +kernel, by decide +kernel⟩
def N_law : List Str := ["_law_script", "_law_book_here", "_law_looks_here", "_law_rule_here", "_law_number", "_law_count", "_law_slack", "_law_more_here", "_law_kept"]
def C_law (rest : FS) : Ctx := ⟨N_law, defScope s_law, fun _ => true, [("_law_book", 4, F_law_book), ("_law_looks", 3, F_law_looks), ("_law_rule", 2, F_law_rule), ("_law_cell", 2, F_law_cell), ("_law_frac", 2, F_law_frac), ("_law_more", 4, F_law_more), ("_law_stays", 5, (F_law_stays rest)), ("_law_nested", 4, F_law_nested), ("_law_near", 6, F_law_near), ("_law_whole", 3, (F_law_whole rest))], [], [], true⟩
theorem e_law : (cBody (C_law rest) (defBody s_law)).1 = B_law rest := by kernel_rfl
theorem S_law : FnScope N_law ["_law_script"] (defScope s_law) := ⟨rfl, rfl, rfl, by decide +kernel, rfl, by decide +kernel, by decide +kernel⟩
end DL

set_option Elab.async false
set_option linter.all false
set_option maxRecDepth 100000
set_option maxHeartbeats 0
namespace Hd
open PySem PySem.Spec PyProof.Rows L2
def defD (x : Str) (st : Stmt) : He.DefD := ⟨(x, none), x, x, defArgs st, defBody st, defScope st, [], []⟩
def fn0 : List He.DefD := [defD "common_of" s_common_of, defD "is_whole" s_is_whole, defD "is_fraction" s_is_fraction, defD "fraction_of" s_fraction_of, defD "frac_sum" s_frac_sum, defD "frac_times" s_frac_times, defD "frac_below" s_frac_below, defD "is_worth" s_is_worth, defD "are_worths" s_are_worths, defD "is_book" s_is_book, defD "look_at_book" s_look_at_book, defD "order_of" s_order_of]
def fn1 : List He.DefD := [defD "is_weight" s_is_weight, defD "is_rule" s_is_rule, defD "look_at_rule" s_look_at_rule, defD "falling" s_falling, defD "place_of" s_place_of, defD "worth_by" s_worth_by, defD "look_at_count" s_look_at_count, defD "is_asked" s_is_asked, defD "is_looks" s_is_looks, defD "look_at_looks" s_look_at_looks, defD "read_lines" s_read_lines, defD "seen_of" s_seen_of]
def fn2 : List He.DefD := [defD "seen_worths" s_seen_worths, defD "unread_of" s_unread_of, defD "count_of" s_count_of, defD "last_of" s_last_of, defD "filled" s_filled, defD "bounds_by" s_bounds_by, defD "bounds_of" s_bounds_of, defD "worth_bounds" s_worth_bounds, defD "goes_ahead" s_goes_ahead, defD "in_turn" s_in_turn, defD "are_sure" s_are_sure, defD "sure_by" s_sure_by]
def fn3 : List He.DefD := [defD "sure_few" s_sure_few, defD "are_things" s_are_things, defD "look_at_things" s_look_at_things, defD "beaten_pair" s_beaten_pair, defD "other_book" s_other_book, defD "seen_paper" s_seen_paper, defD "is_number_below" s_is_number_below, defD "is_line" s_is_line, defD "goes_behind" s_goes_behind, defD "are_lines" s_are_lines, defD "is_let" s_is_let, defD "are_asked" s_are_asked]
def fn4 : List He.DefD := [defD "is_paper" s_is_paper, defD "seen_in" s_seen_in, defD "judge_paper" s_judge_paper, defD "look_at_slack" s_look_at_slack, defD "few_above" s_few_above, defD "near_few" s_near_few, defD "_law_cell" s_law_cell, defD "_law_frac" s_law_frac, defD "_law_add" s_law_add, defD "_law_mul" s_law_mul, defD "_law_below" s_law_below, defD "_law_book" s_law_book]
def fn5 : List He.DefD := [defD "_law_rule" s_law_rule, defD "_law_worth" s_law_worth, defD "_law_order" s_law_order, defD "_law_looks" s_law_looks, defD "_law_more" s_law_more, defD "_law_nested" s_law_nested, defD "_law_stays" s_law_stays, defD "_law_near" s_law_near, defD "_law_whole" s_law_whole, defD "law" s_law]
def fn : List He.DefD := fn0 ++ (fn1 ++ (fn2 ++ (fn3 ++ (fn4 ++ (fn5
)))))def fg0 : List He.Fa := [.glo "common_of", .glo "is_whole", .glo "is_fraction", .glo "fraction_of", .glo "frac_sum", .glo "frac_times", .glo "frac_below", .glo "is_worth", .glo "are_worths", .glo "is_book", .glo "look_at_book", .glo "order_of"]
def fg1 : List He.Fa := [.glo "is_weight", .glo "is_rule", .glo "look_at_rule", .glo "falling", .glo "place_of", .glo "worth_by", .glo "look_at_count", .glo "is_asked", .glo "is_looks", .glo "look_at_looks", .glo "read_lines", .glo "seen_of"]
def fg2 : List He.Fa := [.glo "seen_worths", .glo "unread_of", .glo "count_of", .glo "last_of", .glo "filled", .glo "bounds_by", .glo "bounds_of", .glo "worth_bounds", .glo "goes_ahead", .glo "in_turn", .glo "are_sure", .glo "sure_by"]
def fg3 : List He.Fa := [.glo "sure_few", .glo "are_things", .glo "look_at_things", .glo "beaten_pair", .glo "other_book", .glo "seen_paper", .glo "is_number_below", .glo "is_line", .glo "goes_behind", .glo "are_lines", .glo "is_let", .glo "are_asked"]
def fg4 : List He.Fa := [.glo "is_paper", .glo "seen_in", .glo "judge_paper", .glo "look_at_slack", .glo "few_above", .glo "near_few", .glo "_law_cell", .glo "_law_frac", .glo "_law_add", .glo "_law_mul", .glo "_law_below", .glo "_law_book"]
def fg5 : List He.Fa := [.glo "_law_rule", .glo "_law_worth", .glo "_law_order", .glo "_law_looks", .glo "_law_more", .glo "_law_nested", .glo "_law_stays", .glo "_law_near", .glo "_law_whole", .glo "law"]
def fb0 : List He.Fa := [.free "len", .free "isinstance", .free "abs", .free "all", .free "sum", .free "sorted", .free "min", .free "set", .free "str", .free "range", .free "enumerate", .free "zip", .free "int", .free "bool", .free "list", .free "tuple"]
def fa : List He.Fa := fg0 ++ (fg1 ++ (fg2 ++ (fg3 ++ (fg4 ++ (fg5 ++ fb0)))))
def names0 : List PySem.Str := ["HeadError", "NoBottom", "NoBook", "NoRule", "NoCount", "NoLooks", "NoThings", "NotSure", "NoSlack", "common_of", "is_whole", "is_fraction", "fraction_of", "frac_sum", "frac_less", "frac_times"]
def names1 : List PySem.Str := ["frac_below", "LISTS_AT_MOST", "THINGS_AT_MOST", "is_worth", "are_worths", "is_book", "look_at_book", "order_of", "NOTHING_rules", "ONE_rules", "MOST_LISTS", "ALONE", "is_weight", "is_rule", "look_at_rule", "falling"]
def names2 : List PySem.Str := ["place_of", "worth_by", "look_at_count", "NOTHING_looks", "ONE_looks", "is_asked", "is_looks", "look_at_looks", "read_lines", "seen_of", "seen_worths", "unread_of", "count_of", "last_of", "filled", "bounds_by"]
def names3 : List PySem.Str := ["bounds_of", "worth_bounds", "goes_ahead", "in_turn", "are_sure", "sure_by", "sure_few", "HALF", "are_things", "look_at_things", "beaten_pair", "tops_for", "lifted", "other_book", "MOST_THINGS", "seen_paper"]
def names4 : List PySem.Str := ["is_number_below", "is_line", "goes_behind", "are_lines", "is_let", "are_asked", "is_paper", "seen_in", "judge_paper", "look_at_slack", "few_above", "near_few", "_law_cell", "_law_frac", "_law_add", "_law_mul"]
def names5 : List PySem.Str := ["_law_below", "_law_book", "_law_rule", "_law_worth", "_law_order", "_law_looks", "_law_more", "_law_nested", "_law_stays", "_law_near", "_law_whole"]
def names : List PySem.Str := names0 ++ (names1 ++ (names2 ++ (names3 ++ (names4 ++ (names5
)))))mutual
/-- a value of the written part stands for data -/
def repB (K : PySem.W.Frag) : PyData → Value → Bool
  | .int i, v => (match v with
    | .int j _ => decide (i = j)
    | _ => false)
  | .str x, v => (match v with
    | .str y _ => decide (x = y)
    | _ => false)
  | .tuple ds, v => (match v with
    | .ref a => (match K.lookup a with
      | some ⟨.type c, _, .seq its _, _⟩ => decide (c = "tuple") && (decide (its.size ≤ sizeLine) && repAll K ds its.toList)
      | _ => false)
    | _ => false)
  | _, _ => false
def repAll (K : PySem.W.Frag) : List PyData → List Value → Bool
  | [], vs => (match vs with
    | [] => true
    | _ :: _ => false)
  | d :: ds, vs => (match vs with
    | [] => false
    | v :: vs => repB K d v && repAll K ds vs)
end
def conB (K : PySem.W.Frag) (x : Str) (d : PyData) : Bool := match PySem.W.nsIn K mainGlobals x with
  | some (some v) => repB K d v
  | _ => false
def cons : List (Str × PyData) := [("NOTHING_rules", DL.nought), ("ONE_rules", DL.one), ("NOTHING_looks", DL.nought), ("ONE_looks", DL.one), ("ALONE", DL.alone), ("LISTS_AT_MOST", .int 4), ("THINGS_AT_MOST", .int 12), ("MOST_LISTS", .int 4), ("MOST_THINGS", .int 12)]
def exB (K : PySem.W.Frag) : Bool := cons.all fun p => conB K p.1 p.2
abbrev R : PySem.W.OpenRow := PySem.W.OpenLaw.row PySem.Challenge.rw_bestheads_k90_whole_more_looks_tell_no_l
abbrev hk : PySem.W.Hook := He.hookX 4 fa fn [] [] exB
def ob (s : PySem.W.SharedT) : He.AlX := He.obsX 4 fa fn [] [] exB (HandSHeadRun.getT s)
theorem ob_eq (s : PySem.W.SharedT) : ob s = hk.obs s.abs := He.obsX_eq (HandSHeadRun.getT_eq s)
theorem run (w : World) : HandSHeadRun.RunEq R (PySem.W.view R.prog [101]) hk ob 6000 names w := by
  intro os
  kernel_rfl
end Hd

set_option Elab.async false
set_option linter.all false
set_option maxRecDepth 100000
set_option maxHeartbeats 4000000
/-! Lk0: from the head's facts to what each def keeps; a def that is called where nothing is being shown. -/
namespace Hd
open PySem PySem.Spec PyProof.Rows L2
section
variable {K : PySem.W.Frag}
mutual
theorem repB_ok : ∀ (d : PyData) (v : Value), repB K d v = true → ∃ x, RelV x v ∧ ∀ F, DL.Dq K F x d
  | .int i, v, h => by
    unfold repB at h
    split at h
    · rename_i j t
      have e : i = j := of_decide_eq_true h
      exact ⟨.int i, ⟨t, by rw [e]⟩, fun F => .int i⟩
    · cases h
  | .str x, v, h => by
    unfold repB at h
    split at h
    · rename_i y t
      have e : x = y := of_decide_eq_true h
      exact ⟨.str x, ⟨t, by rw [e]⟩, fun F => .str x⟩
    · cases h
  | .tuple ds, v, h => by
    unfold repB at h
    split at h
    · rename_i a
      split at h
      · rename_i c od its n sl hk
        rw [Bool.and_eq_true, Bool.and_eq_true] at h
        obtain ⟨xs, r, q⟩ := repAll_ok ds its.toList h.2.2
        have ec : c = "tuple" := of_decide_eq_true h.1
        subst ec
        exact ⟨.ref a, rfl, fun F => .tup (.inr ⟨_, its, n, hk, rfl, rfl, of_decide_eq_true h.2.1, r⟩) (q F)⟩
      · cases h
    · cases h
  | .none, v, h => by unfold repB at h; cases h
  | .bool _, v, h => by unfold repB at h; cases h
  | .list _, v, h => by unfold repB at h; cases h
  | .dict _, v, h => by unfold repB at h; cases h
theorem repAll_ok : ∀ (ds : List PyData) (vs : List Value), repAll K ds vs = true → ∃ xs, Vals xs vs ∧ ∀ F, DL.DqAll K F xs ds
  | [], vs, h => by
    unfold repAll at h
    split at h
    · exact ⟨[], .nil, fun F => .nil⟩
    · cases h
  | d :: ds, vs, h => by
    unfold repAll at h
    split at h
    · cases h
    · rename_i v vs
      rw [Bool.and_eq_true] at h
      obtain ⟨x, r1, q1⟩ := repB_ok d v h.1
      obtain ⟨xs, r2, q2⟩ := repAll_ok ds vs h.2
      exact ⟨x :: xs, .cons r1 r2, fun F => .cons (q1 F) (q2 F)⟩
end
end
end Hd
namespace DL
open PySem PySem.Spec PyProof.Rows L2
/-- what the head tells -/
structure Envr (w : World) (K : PySem.W.Frag) (mg : Str → Option Value) (h : Heap) : Prop where
  kin : K.In h
  ns : h.Ns mainGlobals mg
  says : He.SaysX Hd.fa Hd.fn [] [] Hd.exB w h K
section
variable {P : Program} {w : World} {K : PySem.W.Frag} {mg : Str → Option Value} {h : Heap} {base : Heap}
theorem Envr.d (E : Envr w K mg h) : He.SaysD Hd.fa Hd.fn K := E.says.t.d
theorem Envr.blt (E : Envr w K mg h) : ∀ x ∈ blts, mg x = none := by
  have key : ∀ x, (He.Fa.free x) ∈ Hd.fa → mg x = none := fun x hx => He.free_ok E.kin E.ns (E.d.facts hx)
  have sub : ∀ x ∈ blts, (He.Fa.free x) ∈ Hd.fb0 := by
    intro x hx
    have e : Hd.fb0 = blts.map He.Fa.free := rfl
    rw [e]
    exact List.mem_map_of_mem hx
  intro x hx
  refine key x ?_
  unfold Hd.fa
  repeat first
    | exact sub x hx
    | apply List.mem_append_right
theorem Envr.con (E : Envr w K mg h) {p : Str × PyData} (hp : p ∈ Hd.cons) : ∃ v u, mg p.1 = some u ∧ RelV v u ∧ ∀ F, Dq K F v p.2 := by
  have z : Hd.exB K = true := E.says.more
  have z1 := List.all_eq_true.mp z p hp
  have z2 : (match PySem.W.nsIn K mainGlobals p.1 with
    | some (some v) => Hd.repB K p.2 v
    | _ => false) = true := z1
  cases q : PySem.W.nsIn K mainGlobals p.1 with
  | none =>
    rw [q] at z2
    cases z2
  | some o =>
    rw [q] at z2
    cases o with
    | none => cases z2
    | some v =>
      obtain ⟨x, r, k⟩ := Hd.repB_ok p.2 v z2
      exact ⟨x, v, PySem.W.mg_of E.kin E.ns q, r, k⟩
/-- a def keeps its promise, at a level -/
def Ok (P : Program) (w : World) (K : PySem.W.Frag) (mg : Str → Option Value) (base : Heap) (L : Nat) (p : Str × Nat × Fd) : Prop := ∃ f fd ps, FnOk P w K mg base CX0 L f fd ps (spD K p.2.1 p.2.2) ∧ mg p.1 = some (.ref f) ∧ PySem.W.keepIn K (.ref f) = true ∧ Binds K fd ps []
theorem Ok.mono {L M : Nat} {p : Str × Nat × Fd} (o : Ok P w K mg base L p) (le : L ≤ M) : Ok P w K mg base M p := by
  obtain ⟨f, fd, ps, a, b⟩ := o
  exact ⟨f, fd, ps, a.mono le, b⟩
/-- how a def stands in the facts -/
theorem Envr.fun_ (E : Envr w K mg h) (i : Nat) {x : Str} {st : Stmt} (e : Hd.fn[i]? = some (Hd.defD x st)) : ∃ fd, FunD K x x (defArgs st) (defBody st) (defScope st) [] [] (He.ga K x) fd := E.d.def_ i (d := Hd.defD x st) e
theorem Envr.glo (E : Envr w K mg h) (i : Nat) {x : Str} (e : Hd.fa[i]? = some (.glo x)) : mg x = some (.ref (He.ga K x)) := He.glo_ok E.kin E.ns (E.d.fact i (f := .glo x) e)
theorem link {C : Ctx} {x : Str} {st : Stmt} {ps : List Str} {sb : FS} {L : Nat} (E : Envr w K mg h) (i : Nat) (e1 : Hd.fn[i]? = some (Hd.defD x st)) (e2 : Hd.fa[i]? = some (.glo x)) (S : FnScope C.N ps (defScope st)) (hsc : C.sc = defScope st) (hfn : C.fnb = fun _ => true) (hgs : C.gs = false)
    (he : (cBody C (defBody st)).1 = sb) (hbd : ∀ (kV doc pm : Value) (an : Option Addr) (cdv ct : Value) (us : List Value), us.length = ps.length → bindArgs (PySem.W.fnOf x x (defArgs st) (defBody st) (defScope st) .none kV doc pm an cdv ct) ⟨us, []⟩ = pure (ps.zip us))
    (con : ∀ p ∈ C.con, p ∈ Hd.cons) (tab : ∀ p ∈ C.tab, Ok P w K mg base L p) : Ok P w K mg base (L + 1) (x, ps.length, runD ps.length C.N.length sb) := by
  obtain ⟨fd, F⟩ := E.fun_ i e1
  have hb : PSsc C (defBody st) sb := by
    rw [← he]
    exact (cBody C (defBody st)).2
  exact ⟨He.ga K x, fd, ps, def_ok F S hsc hfn hgs hb E.blt (fun p hp => E.con (con p hp)) tab, E.glo i e2, F.kp, FunD.bindsN F hbd⟩
end
end DL

set_option Elab.async false
set_option linter.all false
set_option maxRecDepth 100000
set_option maxHeartbeats 4000000
/-! Sn1: the def whose rows are changed within their list, taken apart. -/
namespace DL
open PySem PySem.Spec PyProof.Rows L2
section
variable {C : Ctx}
/-- a statement that gives a slot a fresh list -/
def POw (C : Ctx) (st : Stmt) (i : Nat) (f : FA) : Prop := ∀ K, ∃ te, EL K te f ∧ ∀ X, Good C X → X.K = K → PS X st (tAsg te (gName i))
theorem x_own {e : Expr} {fr : FA} {pos : Pos} {x : Str} {i : Nat} {py : Pos} (h1 : C.N[i]? = some x) (h2 : stoB C x = true) (h3 : isComp e = false) (ha : PLc C e fr) : POw C (.Assign [.Name x py] e pos) i fr := fun K => by
  obtain ⟨t, h5, h6⟩ := ha K
  exact ⟨_, h5, fun X G hK => ps_set (by rw [G.N]; exact G.nd) (by rw [G.N]; exact h1) (G.loc h2).1 (h6 X G hK) (sw_not h3) (G.loc h2).2⟩
theorem x_comp {e tg it : Expr} {ifs : List Expr} {x : Str} {i : Nat} {py q pos : Pos} {scope : Scope} {own : List (Str × Nat)} {fi : FA} {pt : FP} {js : List Nat} {gt : FT} {fe : FE} (h1 : C.N[i]? = some x) (h2 : C.sc.names.lookup x = some .local) (hl : (py.line == q.line) = true)
    (hn : (scope.names.any fun (n, k) => n == x && (k == .local || k == .cell)) = false) (hi : PCc C tg it fi) (hg : PGc (C.blk scope) tg pt js) (hj : (js.all fun j => (own.map (·.2)).contains j) = true) (ht : PTsc (C.blk scope) ifs gt) (he : PEc (C.blk scope) e fe)
    (hb : blkC C.N C.sc scope own = true) (hs : isSet it = false) : POw C (.Assign [.Name x py] (.ListComp e [⟨tg, it, ifs, 0⟩] scope q) pos) i (fComp fi pt gt fe (own.map (·.2))) := fun K => by
  obtain ⟨wi, g, tt, te, L⟩ := lc_ok hi hg hj ht he hb K
  refine ⟨_, L.el, fun X G hK => ?_⟩
  obtain ⟨r1, r2, r3⟩ := L.rules X G hK
  have hloc : X.env.scope.names.lookup x = some .local := by rw [G.sc]; exact h2
  exact ps_setLc G.calm (by rw [G.N]; exact G.nd) (by rw [G.N]; exact h1) hloc (sw_true (by rw [G.sc]; exact G.knd) hloc hl hn) r1 r2 (fun s H D cl fp => (r3 s H D cl fp).1) (fun s H D cl fp => (r3 s H D cl fp).2.1) (fun s H D cl fp => (r3 s H D cl fp).2.2) (set_of hs)
def ownX (C : Ctx) : (st : Stmt) → Option {q : Nat × FA // POw C st q.1 q.2}
  | .Assign [.Name x px] (.ListComp elt [⟨tg, it, ifs, k⟩] scope q) pos => if hk : k = 0 then match cLc (cX 40) C elt tg it ifs scope with
      | some d =>
        if h2 : C.N[slot C x]? = some x ∧ C.sc.names.lookup x = some .local ∧ (px.line == q.line) = true ∧ (scope.names.any fun (n, k) => n == x && (k == .local || k == .cell)) = false then
          some ⟨(slot C x, d.f), by subst hk; exact x_comp h2.1 h2.2.1 h2.2.2.1 h2.2.2.2 d.fi.2 d.pt.2 d.ok.1 d.gt.2 d.fe.2 d.ok.2.1 d.ok.2.2⟩
        else none
      | none => none
    else none
  | .Assign [.Name x px] (.List es q) pos => match cLs (cX 40) C (.List es q) with
    | some a => if h : C.N[slot C x]? = some x ∧ stoB C x = true then some ⟨(slot C x, a.1), x_own h.1 h.2 rfl a.2⟩ else none
    | none => none
  | _ => none
def nameOk (C : Ctx) (x : Str) : Prop := C.N[slot C x]? = some x ∧ visB C.sc x = true ∧ dunder x = false
instance (C : Ctx) (x : Str) : Decidable (nameOk C x) := by unfold nameOk; infer_instance
theorem nm {x : Str} {pos : Pos} (h : nameOk C x) {X : Cx} (G : Good C X) : PE X (.Name x pos) (tVar (slot C x)) := pe_var (by rw [G.N]; exact h.1) (by rw [G.sc]; exact vis_of h.2.1) (dunder_of h.2.2).1 (dunder_of h.2.2).2.1
structure Parts where
  o1 : Nat × FA
  i1 : FA
  p1 : FP × List Nat
  o2 : Nat × FA
  i2 : FA
  p2 : FP × List Nat
  i3 : FA
  p3 : FP × List Nat
  fnd : Nat
  row : Nat
  thg : Nat
  wth : Nat
  plc : Nat
/-- the whole def's reading -/
def TSeen (K : PySem.W.Frag) (P : Parts) (te1 : TE) (w1 : TI) (g1 : TG) (te2 : TE) (w2 : TI) (g2 : TG) (w3 : TI) (g3 : TG) : TS :=
  tSeq (tAsg te1 (gName P.o1.1)) (tSeq (tFor w1 g1 (tSeq (tAsg te2 (gName P.o2.1)) (tSeq (tFor w2 g2 (tAsg (tVar P.wth) (gSub (tVar P.row) (tVar P.thg) rSetL))) (tDrop (tBM K "list" rAppend (tVar P.fnd) (tCons (tVar P.row) tNil))))))
    (tSeq (tFor w3 g3 (tAsg (tVar P.wth) (gSub (tOp (rIx K) (tVar P.fnd) (tVar P.plc)) (tVar P.thg) rSetL))) (tRet (tVar P.fnd))))
def CertS (C : Ctx) (sts : List Stmt) (P : Parts) : Prop := ∀ K, ∃ te1 w1 g1 te2 w2 g2 w3 g3, (EL K te1 P.o1.2 ∧ ID K w1 P.i1 ∧ GD K g1 P.p1.1 P.p1.2 ∧ EL K te2 P.o2.2 ∧ ID K w2 P.i2 ∧ GD K g2 P.p2.1 P.p2.2 ∧ ID K w3 P.i3 ∧ GD K g3 P.p3.1 P.p3.2) ∧
  ∀ X, Good C X → X.K = K → PSs X sts (TSeen K P te1 w1 g1 te2 w2 g2 w3 g3)
theorem cert_seen {s0 A1 : Stmt} {tg1 it1 tg2 it2 tg3 it3 : Expr} {f r t v p f2 r2 f3 t2 v2 f4 m : Str} {q1 q2 q3 q4 q5 q6 q7 q8 q9 q10 q11 q12 a1 a2 a3 a4 a5 a6 a7 a8 a9 a10 : Pos} {P : Parts}
    (h0 : POw C s0 P.o1.1 P.o1.2) (h1 : PIc C tg1 it1 P.i1) (h2 : PGc C tg1 P.p1.1 P.p1.2) (h3 : POw C A1 P.o2.1 P.o2.2) (h4 : PIc C tg2 it2 P.i2) (h5 : PGc C tg2 P.p2.1 P.p2.2) (h6 : PIc C tg3 it3 P.i3) (h7 : PGc C tg3 P.p3.1 P.p3.2)
    (s1 : isSet it1 = false) (s2 : isSet it2 = false) (s3 : isSet it3 = false) (n1 : nameOk C f) (n2 : nameOk C r) (n3 : nameOk C t) (n4 : nameOk C v) (n5 : nameOk C p) (e1 : f2 = f) (e2 : r2 = r) (e3 : f3 = f) (e4 : t2 = t) (e5 : v2 = v) (e6 : f4 = f) (e7 : m = "append") (hl : (q8.endLine == q10.line) = true)
    (d1 : P.fnd = slot C f) (d2 : P.row = slot C r) (d3 : P.thg = slot C t) (d4 : P.wth = slot C v) (d5 : P.plc = slot C p) :
    CertS C [s0, .For tg1 it1 [A1, .For tg2 it2 [.Assign [.Subscript (.Name r q1) (.Name t q2) q3] (.Name v q4) q5] [] q6, .Expr (.Call (.Attribute (.Name f2 q7) m q8) [.Name r2 q9] [] q10) q11] [] q12,
      .For tg3 it3 [.Assign [.Subscript (.Subscript (.Name f3 a1) (.Name p a2) a3) (.Name t2 a4) a5] (.Name v2 a6) a7] [] a8, .Return (some (.Name f4 a9)) a10] P := fun K => by
  subst e1 e2 e3 e4 e5 e6 e7
  obtain ⟨te1, z1, y1⟩ := h0 K
  obtain ⟨w1, z2, y2⟩ := h1 K
  obtain ⟨g1, z3, y3⟩ := h2 K
  obtain ⟨te2, z4, y4⟩ := h3 K
  obtain ⟨w2, z5, y5⟩ := h4 K
  obtain ⟨g2, z6, y6⟩ := h5 K
  obtain ⟨w3, z7, y7⟩ := h6 K
  obtain ⟨g3, z8, y8⟩ := h7 K
  refine ⟨te1, w1, g1, te2, w2, g2, w3, g3, ⟨z1, z2, z3, z4, z5, z6, z7, z8⟩, fun X G hK => ?_⟩
  subst hK
  unfold TSeen
  rw [d1, d2, d3, d4, d5]
  have inner : PSs X [.Assign [.Subscript (.Name r2 q1) (.Name t2 q2) q3] (.Name v2 q4) q5] (tAsg (tVar (slot C v2)) (gSub (tVar (slot C r2)) (tVar (slot C t2)) rSetL)) :=
    pss_one (ps_asg (nm n4 G) (pg_sub (nm n2 G) (nm n3 G) set_list (fun _ => rfl)) rfl rfl rfl)
  have app : PS X (.Expr (.Call (.Attribute (.Name f4 q7) "append" q8) [.Name r2 q9] [] q10) q11) (tDrop (tBM X.K "list" rAppend (tVar (slot C f4)) (tCons (tVar (slot C r2)) tNil))) :=
    ps_expr (pe_bm PySem.F.plainAttrs_list PySem.F.slot_list_append PySem.F.type_list_append mt_append (nm n1 G) (pa_cons (nm n2 G) pa_nil rfl) rfl rfl hl rfl rfl)
  have last : PSs X [.Assign [.Subscript (.Subscript (.Name f4 a1) (.Name p a2) a3) (.Name t2 a4) a5] (.Name v2 a6) a7] (tAsg (tVar (slot C v2)) (gSub (tOp (rIx X.K) (tVar (slot C f4)) (tVar (slot C p))) (tVar (slot C t2)) rSetL)) :=
    pss_one (ps_asg (nm n4 G) (pg_sub (pe_ix ix_seq (nm n1 G) (nm n5 G) (fun _ _ => rfl)) (nm n3 G) set_list (fun _ => rfl)) rfl rfl rfl)
  exact pss_cons (y1 X G rfl) (pss_cons (ps_for (by rw [G.xe]; exact PassesOwn.never) G.calm (y2 X G rfl) (y3 X G rfl) (pss_cons (y4 X G rfl) (pss_cons (ps_for (by rw [G.xe]; exact PassesOwn.never) G.calm (y5 X G rfl) (y6 X G rfl) inner (set_of s2)) (pss_one app))) (set_of s1))
    (pss_cons (ps_for (by rw [G.xe]; exact PassesOwn.never) G.calm (y7 X G rfl) (y8 X G rfl) last (set_of s3)) (pss_one (ps_ret (nm n1 G)))))
def seenX (C : Ctx) : (sts : List Stmt) → Option {P : Parts // CertS C sts P}
  | [s0, .For tg1 it1 [A1, .For tg2 it2 [.Assign [.Subscript (.Name r q1) (.Name t q2) q3] (.Name v q4) q5] [] q6, .Expr (.Call (.Attribute (.Name f2 q7) m q8) [.Name r2 q9] [] q10) q11] [] q12,
      .For tg3 it3 [.Assign [.Subscript (.Subscript (.Name f3 a1) (.Name p a2) a3) (.Name t2 a4) a5] (.Name v2 a6) a7] [] a8, .Return (some (.Name f4 a9)) a10] =>
    match ownX C s0, cIt (cX 40) C tg1 it1, cTg C tg1, ownX C A1, cIt (cX 40) C tg2 it2, cTg C tg2, cIt (cX 40) C tg3 it3, cTg C tg3 with
    | some o1, some i1, some p1, some o2, some i2, some p2, some i3, some p3 =>
      if h : isSet it1 = false ∧ isSet it2 = false ∧ isSet it3 = false ∧ nameOk C f4 ∧ nameOk C r ∧ nameOk C t ∧ nameOk C v ∧ nameOk C p ∧ f2 = f4 ∧ r2 = r ∧ f3 = f4 ∧ t2 = t ∧ v2 = v ∧ m = "append" ∧ (q8.endLine == q10.line) = true then
        some ⟨⟨o1.1, i1.1, p1.1, o2.1, i2.1, p2.1, i3.1, p3.1, slot C f4, slot C r, slot C t, slot C v, slot C p⟩,
          cert_seen o1.2 i1.2 p1.2 o2.2 i2.2 p2.2 i3.2 p3.2 h.1 h.2.1 h.2.2.1 h.2.2.2.1 h.2.2.2.2.1 h.2.2.2.2.2.1 h.2.2.2.2.2.2.1 h.2.2.2.2.2.2.2.1 h.2.2.2.2.2.2.2.2.1 h.2.2.2.2.2.2.2.2.2.1 h.2.2.2.2.2.2.2.2.2.2.1 h.2.2.2.2.2.2.2.2.2.2.2.1 h.2.2.2.2.2.2.2.2.2.2.2.2.1 rfl h.2.2.2.2.2.2.2.2.2.2.2.2.2.1 h.2.2.2.2.2.2.2.2.2.2.2.2.2.2 rfl rfl rfl rfl rfl⟩
      else none
    | _, _, _, _, _, _, _, _ => none
  | _ => none
end
def N_seen_in : List Str := ["paper", "many", "found", "lines", "row", "thing", "worth", "place"]
def C_seen_in : Ctx := ⟨N_seen_in, defScope Hd.s_seen_in, fun _ => true, [], [], [2, 4], false⟩
theorem S_seen_in : FnScope N_seen_in ["paper", "many"] (defScope Hd.s_seen_in) := ⟨rfl, rfl, rfl, by decide +kernel, rfl, by decide +kernel, by decide +kernel⟩
def partsS : Parts := ⟨(2, fLstN fNil), dList (f2 ixD (fVar 0) (fC (.int 0))), (pName 3, [3]), (4, fComp (dRange1 (fVar 1)) (pName 5) bYes (fC .none) [5]), dList (fVar 3), (pTup [5, 6], [5, 6]), dList (f2 ixD (fVar 0) (fC (.int 1))), (pTup [7, 5, 6], [7, 5, 6]), 2, 4, 5, 6, 7⟩
theorem seen_parts : (seenX C_seen_in (defBody Hd.s_seen_in)).map (fun q => q.1) = some partsS := by kernel_rfl
theorem seen_cert : CertS C_seen_in (defBody Hd.s_seen_in) partsS := by
  have h := seen_parts
  cases q : seenX C_seen_in (defBody Hd.s_seen_in) with
  | none =>
    rw [q] at h
    cases h
  | some a =>
    rw [q] at h
    have e : a.1 = partsS := Option.some.inj h
    rw [← e]
    exact a.2
end DL

set_option Elab.async false
set_option linter.all false
set_option maxRecDepth 100000
set_option maxHeartbeats 4000000
set_option exponentiation.threshold 3000
/-! Ev: how the functions of data are reckoned: loops, comprehensions, fractions as rationals. -/
namespace DL
open PySem

/-! ### loops and comprehensions over lists of encoded things -/
theorem forD_inv {α : Type} {enc : α → PyData} {p : FP} {body : FS} (I : List α → DEnv → Prop) : ∀ (post pre : List α) (δ : DEnv), I pre δ →
    (∀ (pr : List α) (x : α) (po : List α) (δ : DEnv), pre ++ post = pr ++ x :: po → I pr δ → ∃ δ1 δ2, p (enc x) δ = some δ1 ∧ body δ1 = some (.nx δ2) ∧ I (pr ++ [x]) δ2) →
    ∃ δ', forD p body (post.map enc) δ = some (.nx δ') ∧ I (pre ++ post) δ'
  | [], pre, δ, h, _ => ⟨δ, rfl, by rw [List.append_nil]; exact h⟩
  | x :: r, pre, δ, h, hs => by
    obtain ⟨δ1, δ2, h1, h2, h3⟩ := hs pre x r δ rfl h
    obtain ⟨δ', h4, h5⟩ := forD_inv I r (pre ++ [x]) δ2 h3 (fun pr y po δ e i => hs pr y po δ (by rw [← e, List.append_assoc]; rfl) i)
    refine ⟨δ', ?_, by rw [List.append_assoc] at h5; exact h5⟩
    show (p (enc x) δ).bind _ = _
    rw [h1]
    show (body δ1).bind _ = _
    rw [h2]
    exact h4
/-- a for from its start -/
theorem for_inv {α : Type} {enc : α → PyData} {p : FP} {body : FS} {xs : List α} (I : List α → DEnv → Prop) {δ : DEnv} (h0 : I [] δ)
    (hs : ∀ (pr : List α) (x : α) (po : List α) (δ : DEnv), xs = pr ++ x :: po → I pr δ → ∃ δ1 δ2, p (enc x) δ = some δ1 ∧ body δ1 = some (.nx δ2) ∧ I (pr ++ [x]) δ2) :
    ∃ δ', forD p body (xs.map enc) δ = some (.nx δ') ∧ I xs δ' := by
  have h := forD_inv (enc := enc) (p := p) (body := body) I xs [] δ h0 (by rw [List.nil_append]; exact hs)
  rw [List.nil_append] at h
  exact h
/-- a for whose body either returns or goes on without a trace but in slots that it sets itself -/
theorem for_find {α : Type} {enc : α → PyData} {p : FP} {body : FS} (I : DEnv → Prop) (f : α → Option PyData) : ∀ (xs : List α) (δ : DEnv), I δ →
    (∀ x δ, x ∈ xs → I δ → ∃ δ1, p (enc x) δ = some δ1 ∧ (match f x with
      | some d => body δ1 = some (.rt d)
      | none => ∃ δ2, body δ1 = some (.nx δ2) ∧ I δ2)) →
    (match xs.findSome? f with
      | some d => forD p body (xs.map enc) δ = some (.rt d)
      | none => ∃ δ', forD p body (xs.map enc) δ = some (.nx δ') ∧ I δ')
  | [], δ, h, _ => ⟨δ, rfl, h⟩
  | x :: r, δ, h, hs => by
    obtain ⟨δ1, h1, h2⟩ := hs x δ List.mem_cons_self h
    rw [List.findSome?_cons]
    cases q : f x with
    | some d =>
      rw [q] at h2
      show (p (enc x) δ).bind _ = _
      rw [h1]
      show (body δ1).bind _ = _
      rw [h2]
      rfl
    | none =>
      rw [q] at h2
      obtain ⟨δ2, h3, h4⟩ := h2
      have e : forD p body ((x :: r).map enc) δ = forD p body (r.map enc) δ2 := by
        show (p (enc x) δ).bind _ = _
        rw [h1]
        show (body δ1).bind _ = _
        rw [h3]
        rfl
      rw [e]
      exact for_find I f r δ2 h4 fun y δ hy i => hs y δ (List.mem_cons_of_mem _ hy) i
theorem compD_eq {α : Type} {enc : α → PyData} {step : PyData → Option (Option PyData)} (keep : α → Bool) (g : α → PyData) : ∀ (xs : List α), (∀ x ∈ xs, step (enc x) = some (match keep x with
      | true => some (g x)
      | false => none)) → compD step (xs.map enc) = some ((xs.filter keep).map g)
  | [], _ => rfl
  | x :: r, h => by
    show (step (enc x)).bind _ = _
    rw [h x List.mem_cons_self]
    show (compD step (r.map enc)).bind _ = _
    rw [compD_eq keep g r fun y hy => h y (List.mem_cons_of_mem _ hy), List.filter_cons]
    cases keep x <;> rfl
theorem comp_keep {α : Type} {enc : α → PyData} {it : FA} {pat : FP} {t : FT} {e : FE} {vs : List Nat} {δ : DEnv} (keep : α → Bool) (g : α → PyData) (xs : List α) (hi : it δ = some (xs.map enc)) (hl : xs.length ≤ 1000)
    (h : ∀ x ∈ xs, ∃ δ1, pat (enc x) (wipeD δ vs) = some δ1 ∧ t δ1 = some (keep x) ∧ (keep x = true → e δ1 = some (g x))) : fComp it pat t e vs δ = some ((xs.filter keep).map g) := by
  unfold fComp
  rw [hi]
  show (if (xs.map enc).length ≤ 1000 then _ else _) = _
  rw [if_pos (by rw [List.length_map]; exact hl)]
  refine compD_eq keep g xs fun x hx => ?_
  obtain ⟨δ1, h1, h2, h3⟩ := h x hx
  unfold stepD
  rw [h1]
  show (t δ1).bind _ = _
  rw [h2]
  cases q : keep x with
  | true =>
    show (e δ1).bind _ = _
    rw [h3 q]
    rfl
  | false => rfl
theorem filter_true {α : Type} (xs : List α) : xs.filter (fun _ => true) = xs := List.filter_eq_self.mpr fun _ _ => rfl
theorem comp_map {α : Type} {enc : α → PyData} {it : FA} {pat : FP} {e : FE} {vs : List Nat} {δ : DEnv} (g : α → PyData) (xs : List α) (hi : it δ = some (xs.map enc)) (hl : xs.length ≤ 1000)
    (h : ∀ x ∈ xs, ∃ δ1, pat (enc x) (wipeD δ vs) = some δ1 ∧ e δ1 = some (g x)) : fComp it pat bYes e vs δ = some (xs.map g) := by
  have z := comp_keep (pat := pat) (t := bYes) (e := e) (vs := vs) (fun _ => true) g xs hi hl fun x hx => by
    obtain ⟨δ1, h1, h2⟩ := h x hx
    exact ⟨δ1, h1, rfl, fun _ => h2⟩
  rw [filter_true] at z
  exact z
theorem enumD_map {α : Type} (enc : α → PyData) : ∀ (xs : List α) (k : Nat), enumD k (xs.map enc) = (xs.zipIdx k).map fun p => PyData.tuple [.int (p.2 : Int), enc p.1]
  | [], _ => rfl
  | x :: r, k => by
    show PyData.tuple [.int (k : Int), enc x] :: enumD (k + 1) (r.map enc) = _
    rw [enumD_map enc r (k + 1)]
    rfl
theorem zipD_map {α β : Type} (f : α → PyData) (g : β → PyData) : ∀ (xs : List α) (ys : List β), zipD (xs.map f) (ys.map g) = (xs.zip ys).map fun p => PyData.tuple [f p.1, g p.2]
  | [], _ => rfl
  | _ :: _, [] => rfl
  | x :: r, y :: s => by
    show PyData.tuple [f x, g y] :: zipD (r.map f) (s.map g) = _
    rw [zipD_map f g r s]
    rfl
/-! ### encoded things -/
def frR (r : Rat) : PyData := .tuple [.int r.num, .int (r.den : Int)]
def natD (n : Nat) : PyData := .int (n : Int)
def natsD (ns : List Nat) : PyData := .list (ns.map natD)
def rowD (ws : List Rat) : PyData := .list (ws.map frR)
def bookD (b : List (List Rat)) : PyData := .list (b.map rowD)
theorem atI_nat' {α : Type} (xs : List α) (n : Nat) : L2.atI xs (n : Int) = xs[n]? := by
  unfold L2.atI L2.ixN
  by_cases h : n < xs.length
  · rw [if_pos (by omega), if_pos (by omega)]
    rfl
  · rw [if_pos (by omega), if_neg (by omega)]
    rw [List.getElem?_eq_none (by omega)]
    rfl
theorem atI_last' {α : Type} (xs : List α) (h : xs ≠ []) : L2.atI xs (-1) = xs.getLast? := by
  unfold L2.atI L2.ixN
  have hl : 0 < xs.length := List.length_pos_iff.mpr h
  rw [if_neg (by decide), if_pos (by omega), List.getLast?_eq_getElem?]
  show xs[(-1 + (xs.length : Int)).toNat]? = _
  congr 1
  omega
theorem ix_list (ds : List PyData) (n : Nat) : ixD (.list ds) (natD n) = ds[n]? := atI_nat' ds n
theorem ix_t0 (a : PyData) (r : List PyData) : ixD (.tuple (a :: r)) (.int 0) = some a := atI_nat' (a :: r) 0
theorem ix_t1 (a b : PyData) (r : List PyData) : ixD (.tuple (a :: b :: r)) (.int 1) = some b := atI_nat' (a :: b :: r) 1
theorem ix_t2 (a b c : PyData) (r : List PyData) : ixD (.tuple (a :: b :: c :: r)) (.int 2) = some c := atI_nat' (a :: b :: c :: r) 2
theorem ix_l0 (a : PyData) (r : List PyData) : ixD (.list (a :: r)) (.int 0) = some a := atI_nat' (a :: r) 0
theorem ix_f0 (r : Rat) : ixD (frR r) (.int 0) = some (.int r.num) := ix_t0 _ _
theorem ix_f1 (r : Rat) : ixD (frR r) (.int 1) = some (.int (r.den : Int)) := ix_t1 _ _ _
theorem ix_map {α : Type} {enc : α → PyData} {xs : List α} {n : Nat} {x : α} (h : xs[n]? = some x) : ixD (.list (xs.map enc)) (natD n) = some (enc x) := by
  rw [ix_list, List.getElem?_map, h]
  rfl
/-! numbers -/
theorem add_ii (i j : Int) : addD (.int i) (.int j) = some (.int (i + j)) := rfl
theorem sub_ii (i j : Int) : subD (.int i) (.int j) = some (.int (i - j)) := rfl
theorem mul_ii {i j : Int} (h : mulOk i j) : mulD (.int i) (.int j) = some (.int (i * j)) := if_pos h
theorem lt_ii (i j : Int) : ltD (.int i) (.int j) = some (.bool (decide (i < j))) := rfl
theorem le_ii (i j : Int) : leD (.int i) (.int j) = some (.bool (decide (i ≤ j))) := rfl
theorem gt_ii (i j : Int) : gtD (.int i) (.int j) = some (.bool (decide (j < i))) := rfl
theorem ge_ii (i j : Int) : geD (.int i) (.int j) = some (.bool (decide (j ≤ i))) := rfl
theorem mod_ii {i j : Int} (h : 0 < j) : modD (.int i) (.int j) = some (.int (i % j)) := if_pos h
theorem div_ii {i j : Int} (h : 0 < j ∧ j < 2 ^ 1000) : divD (.int i) (.int j) = some (.int (i / j)) := if_pos h
theorem shaped_int (i : Int) : SeqAt.shaped (.int i) = true := rfl
theorem eqv_int (i j : Int) : PyData.eqv (.int i) (.int j) = decide (i = j) := by
  show (i == j) = decide (i = j)
  rw [Bool.eq_iff_iff]
  simp
theorem eq_ii (i j : Int) : eqD (.int i) (.int j) = some (.bool (decide (i = j))) := by
  unfold eqD
  rw [if_pos ⟨shaped_int i, shaped_int j⟩, eqv_int]
theorem ne_ii (i j : Int) : neD (.int i) (.int j) = some (.bool (!decide (i = j))) := by
  unfold neD
  rw [if_pos ⟨shaped_int i, shaped_int j⟩, eqv_int]
/-- 2^1000 as a bound of ints -/
theorem pow1000 {j : Int} {n : Nat} (h0 : 0 ≤ j) (h : j.toNat < 2 ^ n) (hn : n ≤ 1000) : j < 2 ^ 1000 := by
  have h1 : (2 : Nat) ^ n ≤ 2 ^ 1000 := Nat.pow_le_pow_right (by decide) hn
  have h2 : j.toNat < 2 ^ 1000 := Nat.lt_of_lt_of_le h h1
  have h3 : ((j.toNat : Nat) : Int) < ((2 ^ 1000 : Nat) : Int) := Int.ofNat_lt.mpr h2
  have h4 : ((j.toNat : Nat) : Int) = j := Int.toNat_of_nonneg h0
  rw [h4] at h3
  exact_mod_cast h3

/-! ### the greatest common divisor -/
theorem euclid (m : Nat) : ∀ (n : Nat) (a b : Nat), b < n → n ≤ m → ∃ f, whileD (bOf (f2 neD (fVar 1) (fC (.int 0)))) (sPar 0 1 (fVar 1) (f2 modD (fVar 0) (fVar 1))) n [.val (natD a), .val (natD b)] = some (.nx [.val (natD (Nat.gcd a b)), f])
  | 0, a, b, h, _ => absurd h (Nat.not_lt_zero _)
  | n + 1, a, b, h, hm => by
    by_cases hb : b = 0
    · subst hb
      refine ⟨.val (natD 0), ?_⟩
      rw [Nat.gcd_zero_right]
      rfl
    · have hb' : 0 < (b : Int) := by omega
      obtain ⟨f, hf⟩ := euclid m n b (a % b) (Nat.lt_of_lt_of_le (Nat.mod_lt a (Nat.pos_of_ne_zero hb)) (Nat.lt_succ_iff.mp h)) (Nat.le_of_succ_le hm)
      refine ⟨f, ?_⟩
      have e1 : (bOf (f2 neD (fVar 1) (fC (.int 0)))) [.val (natD a), .val (natD b)] = some true := by
        show (neD (natD b) (.int 0)).bind _ = _
        unfold natD
        rw [ne_ii]
        show some (!decide ((b : Int) = 0)) = _
        rw [decide_eq_false (by omega)]
        rfl
      have e2 : (sPar 0 1 (fVar 1) (f2 modD (fVar 0) (fVar 1))) [.val (natD a), .val (natD b)] = some (.nx [.val (natD b), .val (natD (a % b))]) := by
        show (modD (natD a) (natD b)).bind _ = _
        unfold natD
        rw [mod_ii hb']
        rfl
      show (bOf _ _).bind _ = _
      rw [e1]
      show (sPar 0 1 _ _ _).bind _ = _
      rw [e2]
      show whileD _ _ n _ = _
      rw [hf, Nat.gcd_comm a b, Nat.gcd_rec b a, Nat.gcd_comm (a % b) b]
theorem f_common {a b : Nat} (h : b < 2 ^ 2000) : F_common_of [natD a, natD b] = some (natD (Nat.gcd a b)) := by
  rw [r_common_of]
  obtain ⟨f, hf⟩ := euclid fuel fuel a b h (Nat.le_refl _)
  show ((sWhile _ _ _).bind _).bind fin = _
  show (((whileD _ _ fuel _).bind _)).bind fin = _
  rw [hf]
  show some (PyData.int (if (Nat.gcd a b : Int) < 0 then _ else _)) = _
  rw [if_neg (by omega)]
  rfl
end DL

set_option Elab.async false
set_option linter.all false
set_option maxRecDepth 100000
set_option maxHeartbeats 4000000
/-! Sn2: the def whose rows are changed within their list: what it makes. -/
namespace DL
open PySem PySem.Spec PyProof.Rows L2
section
variable {K : PySem.W.Frag}
theorem for_hand {wi : TI} {g : TG} {it : FA} {t : TS} (hi : ID K wi it) {H0 F H : Hp} {σ : L2.St} {δ : DEnv} {ds : List PyData} {D : Ends} (S : Sd K H0 F H σ δ) (hds : it δ = some ds) (I : Hp → Nat → Hp → L2.St → Hp → Prop)
    (h0 : ∀ F1 H1, Go F H F1 H1 → I F1 0 F1 σ H1) (hs : ∀ F1 i F' σ' H', I F1 i F' σ' H' → Same F1 F' ∧ Same F' H')
    (step : ∀ F1 i d F' σ' H' x F2 H2, ds[i]? = some d → ds.drop i = d :: ds.drop (i + 1) → I F1 i F' σ' H' → Go F' H' F2 H2 → Dq K F2 x d → ∀ N : L2.St → Hp → Prop, (∀ F4 σ4 H4, I F1 (i + 1) F4 σ4 H4 → N σ4 H4) → g x σ' H2 fun σ3 H3 => t { D with nx := N, ct := N, bk := D.nx } σ3 H3)
    (fin : ∀ F1 F' σ' H', I F1 ds.length F' σ' H' → D.nx σ' H') : tFor wi g t D σ H := by
  refine hi H0 σ δ F H ds S hds _ fun J F1 H1 g1 w => ?_
  refine ⟨fun i m σ' H' => m = ds.length - i ∧ i ≤ ds.length ∧ ∃ F', I F1 i F' σ' H', ⟨ds.length, rfl, Nat.zero_le _, F1, h0 F1 H1 g1⟩, ?_⟩
  rintro i m σ' H' ⟨rfl, hil, F', hI⟩
  obtain ⟨q1, q2⟩ := hs F1 i F' σ' H' hI
  by_cases hlt : i < ds.length
  · have hdi : ds[i]? = some ds[i] := List.getElem?_eq_getElem hlt
    obtain ⟨hgo, hy⟩ := (w i F' H' ⟨q1, q2⟩).1 _ hdi
    refine .inr ⟨hgo, fun σ' H' => i + 1 ≤ ds.length ∧ ∃ F', I F1 (i + 1) F' σ' H', fun σ2 H2 hn => ⟨ds.length - (i + 1), by omega, rfl, hn⟩, fun x H2 hyld => ?_⟩
    obtain ⟨F2, g2, dx⟩ := hy x H2 hyld
    exact step F1 i _ F' σ' H' x F2 H2 hdi (List.drop_eq_getElem_cons hlt) hI g2 dx _ fun F4 σ4 H4 h4 => ⟨hlt, F4, h4⟩
  · have hi' : i = ds.length := by omega
    subst hi'
    exact .inl ⟨(w _ F' H' ⟨q1, q2⟩).2 (Nat.le_refl _), fin F1 F' σ' H' hI⟩
/-- rows, each of its own -/
inductive Rw (K : PySem.W.Frag) (Hc F H : Hp) : List Addr → List (List PyData) → Prop
  | nil : Rw K Hc F H [] []
  | cons {b : Addr} {vs : List V} {r : List PyData} {bs : List Addr} {rs : List (List PyData)} : H b = some (.lst vs) → F b = none → Hc b = none → DqAll K F vs r → Rw K Hc F H bs rs → Rw K Hc F H (b :: bs) (r :: rs)
theorem Rw.go {Hc F H F' H' : Hp} (g : Go F H F' H') : ∀ {bs : List Addr} {rs : List (List PyData)}, Rw K Hc F H bs rs → Rw K Hc F' H' bs rs
  | _, _, .nil => .nil
  | _, _, .cons a b c d r => .cons (g.h _ _ a) (g.sep _ (ne_none a) b) c (DqAll.mono g.f d) (r.go g)
theorem Rw.len {Hc F H : Hp} : ∀ {bs : List Addr} {rs : List (List PyData)}, Rw K Hc F H bs rs → bs.length = rs.length
  | _, _, .nil => rfl
  | _, _, .cons _ _ _ _ r => congrArg (· + 1) r.len
theorem Rw.snoc {Hc F H : Hp} {p : Addr} {vs : List V} {r : List PyData} (h1 : H p = some (.lst vs)) (h2 : F p = none) (h3 : Hc p = none) (h4 : DqAll K F vs r) : ∀ {bs : List Addr} {rs : List (List PyData)}, Rw K Hc F H bs rs → Rw K Hc F H (bs ++ [p]) (rs ++ [r])
  | _, _, .nil => .cons h1 h2 h3 h4 .nil
  | _, _, .cons a b c d r => .cons a b c d (r.snoc h1 h2 h3 h4)
theorem Rw.chg {Hc F H : Hp} {p : Addr} {o : HO} : ∀ {bs : List Addr} {rs : List (List PyData)}, p ∉ bs → Rw K Hc F H bs rs → Rw K Hc F (upd H p o) bs rs
  | [], [], _, .nil => .nil
  | b :: bs, _ :: rs, hp, .cons a e c d r => .cons (by rw [upd_ne (fun z => hp (by rw [z]; exact List.mem_cons_self))]; exact a) e c d (r.chg fun z => hp (List.mem_cons_of_mem _ z))
theorem Rw.get {Hc F H : Hp} : ∀ {bs : List Addr} {rs : List (List PyData)} {k : Nat} {r : List PyData}, Rw K Hc F H bs rs → rs[k]? = some r → ∃ b vs, bs[k]? = some b ∧ H b = some (.lst vs) ∧ F b = none ∧ Hc b = none ∧ DqAll K F vs r
  | _, _, _, _, .nil, h => by cases h
  | _, _, 0, _, .cons a b c d _, h => by
    cases h
    exact ⟨_, _, rfl, a, b, c, d⟩
  | _, _, k + 1, _, .cons _ _ _ _ r, h => r.get (k := k) h
theorem Rw.set {Hc F H : Hp} {p : Addr} {ws : List V} {r' : List PyData} (hd : DqAll K F ws r') : ∀ {bs : List Addr} {rs : List (List PyData)} {k : Nat}, bs.Nodup → Rw K Hc F H bs rs → bs[k]? = some p → Rw K Hc F (upd H p (.lst ws)) bs (rs.set k r')
  | [], [], _, _, .nil, h => by cases h
  | b :: bs, _ :: rs, 0, nd, .cons a e c d r, h => by
    cases h
    exact .cons upd_same e c hd (r.chg (List.nodup_cons.mp nd).1)
  | b :: bs, _ :: rs, k + 1, nd, .cons a e c d r, h => by
    have hm : p ∈ bs := List.mem_of_getElem? (i := k) h
    have hne : b ≠ p := fun z => (List.nodup_cons.mp nd).1 (by rw [z]; exact hm)
    exact .cons (by rw [upd_ne hne]; exact a) e c d (Rw.set hd (k := k) (List.nodup_cons.mp nd).2 r h)
theorem Rw.frz {Fc Hc H : Hp} : ∀ {bs : List Addr} {rs : List (List PyData)} {F : Hp}, Go Fc Hc F H → bs.Nodup → Rw K Hc F H bs rs → ∃ F', Go Fc Hc F' H ∧ Same F F' ∧ DqAll K F' (bs.map V.ref) (rs.map PyData.list) ∧ ∀ p, p ∉ bs → F p = none → F' p = none
  | [], [], F, g, _, .nil => ⟨F, g, Same.refl F, .nil, fun _ _ h => h⟩
  | b :: bs, r :: rs, F, g, nd, .cons (vs := vs) a e c d w => by
    obtain ⟨n1, n2⟩ := List.nodup_cons.mp nd
    have s1 : Same F (upd F b (.lst vs)) := same_new e
    have g1 : Go Fc Hc (upd F b (.lst vs)) H := g.freeze c e a
    have key : ∀ {cs : List Addr} {ss : List (List PyData)}, b ∉ cs → Rw K Hc F H cs ss → Rw K Hc (upd F b (.lst vs)) H cs ss := by
      intro cs ss hb w
      induction w with
      | nil => exact .nil
      | cons a' e' c' d' _ ih =>
        refine .cons a' ?_ c' (DqAll.mono s1 d') (ih fun z => hb (List.mem_cons_of_mem _ z))
        rw [upd_ne (fun z => hb (by rw [← z]; exact List.mem_cons_self))]
        exact e'
    obtain ⟨F', g2, s2, d2, f2⟩ := Rw.frz g1 n2 (key n1 w)
    refine ⟨F', g2, s1.trans s2, .cons (.lst (s2 _ _ upd_same) (DqAll.mono (s1.trans s2) d)) d2, fun p hp hF => f2 p (fun z => hp (List.mem_cons_of_mem _ z)) ?_⟩
    rw [upd_ne (fun z => hp (by rw [z]; exact List.mem_cons_self))]
    exact hF
theorem sd_mk {H0 F H : Hp} {σ : L2.St} {δ : DEnv} (hl : σ.length = δ.length) (s : Same F H) (hv : ∀ (i : Nat) (d : PyData), δ[i]? = some (DV.val d) → ∃ v, σ[i]? = some (some v) ∧ Dq K F v d) (ho : ∀ (i : Nat) (ds : List PyData), δ[i]? ≠ some (DV.own ds)) : Sd K H0 F H σ δ :=
  ⟨hl, s, hv, fun i ds h => absurd h (ho i ds), fun i j a ds es h => absurd h (ho i ds)⟩
def e8 (p m x : DV) : DEnv := [p, m, .no, x, .no, .no, .no, .no]
/-- the state about the loops -/
structure S0 (K : PySem.W.Frag) (Fc Hc F H : Hp) (σ : L2.St) (v0 v1 : V) : Prop where
  len : σ.length = 8
  s0 : σ[0]? = some (some v0)
  s1 : σ[1]? = some (some v1)
  go : Go Fc Hc F H
theorem S0.sd {Fc Hc F H : Hp} {σ : L2.St} {v0 v1 : V} {dp dm : PyData} (h : S0 K Fc Hc F H σ v0 v1) (h0 : Dq K Fc v0 dp) (h1 : Dq K Fc v1 dm) (H0 : Hp) : Sd K H0 F H σ (e8 (.val dp) (.val dm) .no) := by
  refine sd_mk h.len h.go.s (fun i d hd => ?_) fun i ds hd => ?_
  · match i, hd with
    | 0, hd => cases hd; exact ⟨v0, h.s0, Dq.mono h.go.f h0⟩
    | 1, hd => cases hd; exact ⟨v1, h.s1, Dq.mono h.go.f h1⟩
    | 2, hd => cases hd
    | 3, hd => cases hd
    | 4, hd => cases hd
    | 5, hd => cases hd
    | 6, hd => cases hd
    | 7, hd => cases hd
    | n + 8, hd => cases hd
  · match i, hd with
    | 0, hd => cases hd
    | 1, hd => cases hd
    | 2, hd => cases hd
    | 3, hd => cases hd
    | 4, hd => cases hd
    | 5, hd => cases hd
    | 6, hd => cases hd
    | 7, hd => cases hd
    | n + 8, hd => cases hd
theorem S0.sd3 {Fc Hc F H : Hp} {σ : L2.St} {v0 v1 v3 : V} {dp dm d3 : PyData} (h : S0 K Fc Hc F H σ v0 v1) (h0 : Dq K Fc v0 dp) (h1 : Dq K Fc v1 dm) (h3 : σ[3]? = some (some v3)) (h3' : Dq K F v3 d3) (H0 : Hp) : Sd K H0 F H σ (e8 (.val dp) (.val dm) (.val d3)) := by
  refine sd_mk h.len h.go.s (fun i d hd => ?_) fun i ds hd => ?_
  · match i, hd with
    | 0, hd => cases hd; exact ⟨v0, h.s0, Dq.mono h.go.f h0⟩
    | 1, hd => cases hd; exact ⟨v1, h.s1, Dq.mono h.go.f h1⟩
    | 2, hd => cases hd
    | 3, hd => cases hd; exact ⟨v3, h3, h3'⟩
    | 4, hd => cases hd
    | 5, hd => cases hd
    | 6, hd => cases hd
    | 7, hd => cases hd
    | n + 8, hd => cases hd
  · match i, hd with
    | 0, hd => cases hd
    | 1, hd => cases hd
    | 2, hd => cases hd
    | 3, hd => cases hd
    | 4, hd => cases hd
    | 5, hd => cases hd
    | 6, hd => cases hd
    | 7, hd => cases hd
    | n + 8, hd => cases hd
structure S1 (K : PySem.W.Frag) (Fc Hc F H : Hp) (σ : L2.St) (v0 v1 : V) (a : Addr) (bs : List Addr) (rs : List (List PyData)) : Prop extends S0 K Fc Hc F H σ v0 v1 where
  fnd : σ[2]? = some (some (.ref a))
  ha : H a = some (.lst (bs.map V.ref))
  fa : F a = none
  ca : Hc a = none
  nd : (a :: bs).Nodup
  rw : Rw K Hc F H bs rs
theorem S1.step {Fc Hc F H F' H' : Hp} {σ σ' : L2.St} {v0 v1 : V} {a : Addr} {bs : List Addr} {rs : List (List PyData)} (h : S1 K Fc Hc F H σ v0 v1 a bs rs) (g : Go F H F' H') (hl : σ'.length = 8) (e0 : σ'[0]? = σ[0]?) (e1 : σ'[1]? = σ[1]?) (e2 : σ'[2]? = σ[2]?) : S1 K Fc Hc F' H' σ' v0 v1 a bs rs :=
  ⟨⟨hl, e0.trans h.s0, e1.trans h.s1, h.go.trans g⟩, e2.trans h.fnd, g.h _ _ h.ha, g.sep _ (ne_none h.ha) h.fa, h.ca, h.nd, h.rw.go g⟩
/-- a change of a list that stands apart -/
theorem S1.chg {Fc Hc F H : Hp} {σ : L2.St} {v0 v1 : V} {a p : Addr} {o : HO} {bs : List Addr} {rs : List (List PyData)} (h : S1 K Fc Hc F H σ v0 v1 a bs rs) (hp : p ∉ a :: bs) (hF : F p = none) (hc : Hc p = none) : S1 K Fc Hc F (upd H p o) σ v0 v1 a bs rs :=
  ⟨⟨h.len, h.s0, h.s1, h.go.mut hF hc⟩, h.fnd, by rw [upd_ne (fun z => hp (by rw [z]; exact List.mem_cons_self))]; exact h.ha, h.fa, h.ca, h.nd, h.rw.chg fun z => hp (List.mem_cons_of_mem _ z)⟩
theorem wipe_get {σ : L2.St} {i : Nat} : ∀ {vs : List Nat}, i ∉ vs → (L2.wipe σ vs)[i]? = σ[i]?
  | [], _ => rfl
  | v :: vs, h => by
    show ((L2.wipe σ vs).set v none)[i]? = _
    rw [List.getElem?_set_ne (fun z => h (by rw [z]; exact List.mem_cons_self)), wipe_get fun z => h (List.mem_cons_of_mem _ z)]
theorem frame_get {σ σ' : L2.St} {js : List Nat} (fr : ∀ vs : List Nat, (∀ j ∈ js, j ∈ vs) → L2.wipe σ' vs = L2.wipe σ vs) {i : Nat} (h : i ∉ js) : σ'[i]? = σ[i]? := by
  rw [← wipe_get (σ := σ') h, ← wipe_get (σ := σ) h, fr js fun j hj => hj]
theorem frame_len {σ σ' : L2.St} {js : List Nat} (fr : ∀ vs : List Nat, (∀ j ∈ js, j ∈ vs) → L2.wipe σ' vs = L2.wipe σ vs) : σ'.length = σ.length := by
  rw [← L2.wipe_length σ' js, ← L2.wipe_length σ js, fr js fun j hj => hj]
theorem row0 {dp : PyData} {d3' : DV} {m : Nat} (hm : m ≤ 100) : fComp (dRange1 (fVar 1)) (pName 5) bYes (fC .none) [5] (e8 (.val dp) (.val (.int (m : Int))) d3') = some (List.replicate m .none) := by
  have hr : dRange1 (fVar 1) (e8 (.val dp) (.val (.int (m : Int))) d3') = some ((List.range m).map fun k => PyData.int (0 + (k : Nat))) := by
    show (if (m : Int).natAbs < 1000 then some ((List.range (m : Int).toNat).map fun k => PyData.int (0 + (k : Nat))) else none) = _
    rw [if_pos (by omega), Int.toNat_natCast]
  have h := comp_map (enc := fun k : Nat => PyData.int (0 + (k : Nat))) (pat := pName 5) (e := fC .none) (vs := [5]) (fun _ => PyData.none) (List.range m) hr (by rw [List.length_range]; omega) fun x hx => ⟨_, rfl, rfl⟩
  rw [h, List.map_const', List.length_range]
end
end DL

set_option Elab.async false
set_option linter.all false
set_option maxRecDepth 100000
set_option maxHeartbeats 4000000
/-! Sn3: the def whose rows are changed within their list keeps its promise. -/
namespace DL
open PySem PySem.Spec PyProof.Rows L2
section
variable {K : PySem.W.Frag}
theorem at_int {v : V} {F : Hp} {i : Int} (h : Dq K F v (.int i)) : v = .int i := h.i
theorem ixN_ok {n t : Nat} (h : t < n) : ixN n (t : Int) = some t := by
  unfold ixN
  rw [if_pos (by omega), if_pos (by omega)]
  rfl
theorem rowPut_cons {row : List PyData} {d : PyData} {r : List PyData} {out : List PyData} (h : rowPut row (d :: r) = some out) : ∃ (t : Nat) (w : PyData), d = .tuple [.int (t : Int), w] ∧ t < row.length ∧ rowPut (row.set t w) r = some out := by
  unfold rowPut at h
  split at h
  · rename_i e
    cases e
  · rename_i row' t w r' e
    cases e
    split at h
    · rename_i hc
      refine ⟨t.toNat, w, by rw [Int.toNat_of_nonneg hc.1], by omega, h⟩
    · cases h
  · cases h
theorem rowsOf_cons {m : Nat} {d : PyData} {r : List PyData} {out : List (List PyData)} (h : rowsOf m (d :: r) = some out) : ∃ ls row rows, d = .list ls ∧ rowPut (List.replicate m .none) ls = some row ∧ rowsOf m r = some rows ∧ out = row :: rows := by
  unfold rowsOf at h
  split at h
  · rename_i e
    cases e
  · rename_i ls r' e
    cases e
    obtain ⟨row, h1, h2⟩ := Option.bind_eq_some_iff.mp h
    obtain ⟨rows, h3, h4⟩ := Option.bind_eq_some_iff.mp h2
    cases h4
    exact ⟨_, row, rows, rfl, h1, h3, rfl⟩
  · cases h
theorem rowsPut_cons {rows : List (List PyData)} {d : PyData} {r : List PyData} {out : List (List PyData)} (h : rowsPut rows (d :: r) = some out) : ∃ (k t : Nat) (w : PyData) (row : List PyData), d = .tuple [.int (k : Int), .int (t : Int), w] ∧ rows[k]? = some row ∧ t < row.length ∧ rowsPut (rows.set k (row.set t w)) r = some out := by
  unfold rowsPut at h
  split at h
  · rename_i e
    cases e
  · rename_i rows' k t w r' e
    cases e
    split at h
    · rename_i hc
      split at h
      · rename_i row hr
        split at h
        · rename_i hc2
          refine ⟨k.toNat, t.toNat, w, row, by rw [Int.toNat_of_nonneg hc.1, Int.toNat_of_nonneg hc2.1], hr, by omega, h⟩
        · cases h
      · cases h
    · cases h
  · cases h
theorem seen_ok {te1 te2 : TE} {w1 w2 w3 : TI} {g1 g2 g3 : TG} (h1 : EL K te1 partsS.o1.2) (h2 : ID K w1 partsS.i1) (h3 : GD K g1 partsS.p1.1 partsS.p1.2) (h4 : EL K te2 partsS.o2.2) (h5 : ID K w2 partsS.i2) (h6 : GD K g2 partsS.p2.1 partsS.p2.2) (h7 : ID K w3 partsS.i3) (h8 : GD K g3 partsS.p3.1 partsS.p3.2)
    {vs : List V} {H : Hp} {Q : VK} {E : XK} (h : spD K 2 F_seen_in vs H Q E) : TSeen K partsS te1 w1 g1 te2 w2 g2 w3 g3 { nx := fun _ H' => Q .non H', rt := Q } (L2.start N_seen_in vs) H := by
  obtain ⟨hl, F, ds, d, sFH, da, hd, kq⟩ := h
  unfold F_seen_in at hd
  split at hd
  case h_2 => cases hd
  rename_i lines asked z mi
  split at hd
  case isFalse => cases hd
  rename_i hc
  obtain ⟨all, ha, hd⟩ := Option.bind_eq_some_iff.mp hd
  obtain ⟨out, hp, hd⟩ := Option.bind_eq_some_iff.mp hd
  cases hd
  obtain ⟨m, rfl⟩ : ∃ m : Nat, mi = (m : Int) := ⟨mi.toNat, (Int.toNat_of_nonneg hc.1).symm⟩
  rw [Int.toNat_natCast] at ha
  have hm : m ≤ 100 := by omega
  match vs, hl, da with
  | [v0, v1], _, .cons d0 (.cons d1 .nil) =>
  have st0 : S0 K F H F H (L2.start N_seen_in [v0, v1]) v0 v1 := ⟨rfl, rfl, rfl, Go.refl sFH⟩
  generalize L2.start N_seen_in [v0, v1] = σ at st0 ⊢
  unfold TSeen
  -- found = []
  show te1 σ H _
  refine h1 H σ _ F H [] (st0.sd d0 d1 H) rfl _ fun a vs1 F1 H1 go1 n0 n1 e1 da1 => ?_
  have hv1 : vs1 = [] := by cases da1; rfl
  subst hv1
  have st1 : S1 K F H F1 H1 (σ.set 2 (some (.ref a))) v0 v1 a [] [] :=
    ⟨⟨by rw [List.length_set]; exact st0.len, by rw [List.getElem?_set_ne (by decide)]; exact st0.s0, by rw [List.getElem?_set_ne (by decide)]; exact st0.s1, go1⟩, List.getElem?_set_self (by rw [st0.len]; decide), e1, n1, n0, by simp, .nil⟩
  -- for lines in paper[0]
  show tFor w1 g1 _ _ (σ.set 2 (some (.ref a))) H1
  generalize σ.set 2 (some (.ref a)) = σ1 at st1 ⊢
  refine for_hand h2 (st1.toS0.sd d0 d1 H) (ds := lines) rfl (fun Fb i F' σ' H' => Same Fb F' ∧ ∃ bs rows rest, S1 K F H F' H' σ' v0 v1 a bs rows ∧ rowsOf m (lines.drop i) = some rest ∧ rows ++ rest = all ∧ rows.length ≤ i ∧ i ≤ lines.length)
    (fun Fb Hb gb => ⟨Same.refl Fb, [], [], all, st1.step gb st1.len rfl rfl rfl, ha, rfl, Nat.le_refl 0, Nat.zero_le _⟩) (fun Fb i F' σ' H' hI => ⟨hI.1, by obtain ⟨_, _, _, s, _⟩ := hI.2; exact s.go.s⟩) ?_ ?_
  · rintro Fb i dl F' σ' H' x F2 H2 hdi hdrop ⟨sb, bs, rows, rest, st, hro, hall, hri, hil⟩ go2 dx N hN
    have hil' : i < lines.length := (List.getElem?_eq_some_iff.mp hdi).1
    rw [hdrop] at hro
    obtain ⟨ls, row, rest', rfl, hrow, hrest, rfl⟩ := rowsOf_cons hro
    have st2 := st.step go2 st.len rfl rfl rfl
    refine h3 H σ' _ F2 H2 x _ _ (st2.toS0.sd d0 d1 H) dx rfl _ fun σ3 SD3 fr3 => ?_
    have st3 : S1 K F H F2 H2 σ3 v0 v1 a bs rows := st2.step (Go.refl st2.go.s) (by rw [frame_len fr3]; exact st2.len) (frame_get fr3 (by decide)) (frame_get fr3 (by decide)) (frame_get fr3 (by decide))
    obtain ⟨v3, e3, dv3⟩ := SD3.val 3 (.list ls) rfl
    -- row = [None ...]
    show te2 σ3 H2 _
    refine h4 H σ3 _ F2 H2 _ (st3.toS0.sd3 d0 d1 e3 dv3 H) (row0 hm) _ fun p ws F3 H3 go3 n0' n1' e4 da4 => ?_
    have st4 : S1 K F H F3 H3 (σ3.set 4 (some (.ref p))) v0 v1 a bs rows := st3.step go3 (by rw [List.length_set]; exact st3.len) (List.getElem?_set_ne (by decide)) (List.getElem?_set_ne (by decide)) (List.getElem?_set_ne (by decide))
    have e43 : (σ3.set 4 (some (V.ref p)))[3]? = some (some v3) := by rw [List.getElem?_set_ne (by decide)]; exact e3
    have e44 : (σ3.set 4 (some (V.ref p)))[4]? = some (some (V.ref p)) := List.getElem?_set_self (by rw [st3.len]; decide)
    have cp : H p = none := st3.go.h.free n0'
    have pnot : p ∉ a :: bs := by
      intro hpm
      rcases List.mem_cons.mp hpm with rfl | hpm
      · rw [st3.ha] at n0'
        cases n0'
      · have key : ∀ {cs : List Addr} {ss : List (List PyData)}, Rw K H F2 H2 cs ss → p ∈ cs → False := by
          intro cs ss w
          induction w with
          | nil => intro z; cases z
          | cons a' _ _ _ _ ih =>
            intro z
            rcases List.mem_cons.mp z with rfl | z
            · rw [a'] at n0'
              cases n0'
            · exact ih z
        exact key st3.rw hpm
    -- for thing, worth in lines
    show tFor w2 g2 _ _ (σ3.set 4 (some (V.ref p))) H3
    generalize σ3.set 4 (some (V.ref p)) = σ4 at st4 e43 e44 ⊢
    refine for_hand h5 (st4.toS0.sd3 d0 d1 e43 (Dq.mono go3.f dv3) H) (ds := ls) rfl (fun Fc j F' σ' H' => Same Fc F' ∧ S1 K F H F' H' σ' v0 v1 a bs rows ∧ σ'[4]? = some (some (V.ref p)) ∧ Same F2 F' ∧ F' p = none ∧ ∃ ws rj, H' p = some (.lst ws) ∧ DqAll K F' ws rj ∧ rowPut rj (ls.drop j) = some row)
      (fun Fc Hx gx => ⟨Same.refl Fc, st4.step gx st4.len rfl rfl rfl, e44, go3.f.trans gx.f, gx.sep _ (ne_none e4) n1', ws, _, gx.h _ _ e4, DqAll.mono gx.f da4, hrow⟩) (fun Fc j F' σ' H' hI => ⟨hI.1, hI.2.1.go.s⟩) ?_ ?_
    · rintro Fc j dj F' σ' H' y F5 H5 hdj hdropj ⟨sc, stj, ej4, sF2, Fp, ws', rj, hws, dws, hrj⟩ go5 dy N2 hN2
      rw [hdropj] at hrj
      obtain ⟨t, w, rfl, ht, hrj'⟩ := rowPut_cons hrj
      have st5 := stj.step go5 stj.len rfl rfl rfl
      refine h6 H σ' _ F5 H5 y _ _ (st5.toS0.sd d0 d1 H) dy rfl _ fun σ6 SD6 fr6 => ?_
      have st6 : S1 K F H F5 H5 σ6 v0 v1 a bs rows := st5.step (Go.refl st5.go.s) (by rw [frame_len fr6]; exact st5.len) (frame_get fr6 (by decide)) (frame_get fr6 (by decide)) (frame_get fr6 (by decide))
      have e64 : σ6[4]? = some (some (V.ref p)) := (frame_get fr6 (by decide)).trans ej4
      obtain ⟨v5, e65, d5⟩ := SD6.val 5 (.int (t : Int)) rfl
      obtain ⟨v6, e66, d6⟩ := SD6.val 6 w rfl
      have hv5 : v5 = .int (t : Int) := d5.i
      subst hv5
      have hws5 := go5.h _ _ hws
      have Fp5 := go5.sep _ (ne_none hws) Fp
      have dws5 := DqAll.mono go5.f dws
      refine ⟨v6, e66, .ref p, e64, .int (t : Int), e65, p, ws', (t : Int), t, rfl, rfl, hws5, ixN_ok (by rw [DqAll.len dws5]; exact ht), ?_⟩
      exact hN2 F5 σ6 _ ⟨sc.trans go5.f, st6.chg pnot Fp5 cp, e64, sF2.trans go5.f, Fp5, _, _, upd_same, DqAll.st t dws5 d6, hrj'⟩
    · rintro Fc F' σ' H' ⟨sc, stj, ej4, sF2, Fp, ws', rj, hws, dws, hrj⟩
      rw [List.drop_length] at hrj
      have hrj' : rj = row := by
        unfold rowPut at hrj
        exact Option.some.inj hrj
      subst hrj'
      -- found.append(row)
      have small : (bs.map V.ref).length < sizeLine := by
        rw [List.length_map, stj.rw.len]
        exact small1000 (by omega)
      refine ⟨.ref a, stj.fnd, .inl ⟨rfl, _, SqL.of stj.ha⟩, .ref p, ej4, a, bs.map V.ref, .ref p, rfl, rfl, stj.ha, small, ?_⟩
      have nd := stj.nd
      have pa : p ≠ a := fun z => pnot (by rw [z]; exact List.mem_cons_self)
      have pb : p ∉ bs := fun z => pnot (List.mem_cons_of_mem _ z)
      obtain ⟨na, nb⟩ := List.nodup_cons.mp nd
      refine hN F' σ' _ ⟨sb.trans (go2.f.trans sF2), bs ++ [p], rows ++ [rj], rest', ?_, hrest, by rw [List.append_assoc]; exact hall, by rw [List.length_append]; simp only [List.length_cons, List.length_nil]; omega, hil'⟩
      refine ⟨⟨stj.len, stj.s0, stj.s1, stj.go.mut stj.fa stj.ca⟩, stj.fnd, by rw [upd_same, List.map_append]; rfl, stj.fa, stj.ca, ?_, ?_⟩
      · refine List.nodup_cons.mpr ⟨fun z => ?_, List.nodup_append.mpr ⟨nb, by simp, fun u hu v hv z => ?_⟩⟩
        · rcases List.mem_append.mp z with z | z
          · exact na z
          · exact pa (List.mem_singleton.mp z).symm
        · rw [List.mem_singleton.mp hv] at z
          exact pb (by rw [← z]; exact hu)
      · exact (stj.rw.chg na).snoc (by rw [upd_ne pa]; exact hws) Fp cp dws
  · rintro Fb F' σ' H' ⟨sb, bs, rows, rest, st, hro, hall, hri, hil⟩
    rw [List.drop_length] at hro
    have hrest : rest = [] := by
      unfold rowsOf at hro
      exact (Option.some.inj hro).symm
    rw [hrest, List.append_nil] at hall
    subst hall
    -- for place, thing, worth in paper[1]
    show tFor w3 g3 _ _ σ' H'
    refine for_hand h7 (st.toS0.sd d0 d1 H) (ds := asked) rfl (fun Fb i F' σ' H' => Same Fb F' ∧ ∃ rs, S1 K F H F' H' σ' v0 v1 a bs rs ∧ rowsPut rs (asked.drop i) = some out)
      (fun Fb Hb gb => ⟨Same.refl Fb, rows, st.step gb st.len rfl rfl rfl, hp⟩) (fun Fb i F' σ' H' hI => ⟨hI.1, by obtain ⟨_, s, _⟩ := hI.2; exact s.go.s⟩) ?_ ?_
    · rintro Fb i dl F' σ' H' x F2 H2 hdi hdrop ⟨sb, rs, stk, hrp⟩ go2 dx N hN
      rw [hdrop] at hrp
      obtain ⟨k, t, w, row, rfl, hk, ht, hrp'⟩ := rowsPut_cons hrp
      have st2 := stk.step go2 stk.len rfl rfl rfl
      refine h8 H σ' _ F2 H2 x _ _ (st2.toS0.sd d0 d1 H) dx rfl _ fun σ3 SD3 fr3 => ?_
      have st3 : S1 K F H F2 H2 σ3 v0 v1 a bs rs := st2.step (Go.refl st2.go.s) (by rw [frame_len fr3]; exact st2.len) (frame_get fr3 (by decide)) (frame_get fr3 (by decide)) (frame_get fr3 (by decide))
      obtain ⟨v7, e37, d7⟩ := SD3.val 7 (.int (k : Int)) rfl
      obtain ⟨v5, e35, d5⟩ := SD3.val 5 (.int (t : Int)) rfl
      obtain ⟨v6, e36, d6⟩ := SD3.val 6 w rfl
      have hv7 : v7 = .int (k : Int) := d7.i
      have hv5 : v5 = .int (t : Int) := d5.i
      subst hv7 hv5
      obtain ⟨bk, ws, hb, hH, hF, hHc, hD⟩ := st3.rw.get hk
      have ba : bk ∈ bs := List.mem_of_getElem? hb
      obtain ⟨na, nb⟩ := List.nodup_cons.mp st3.nd
      have bne : a ≠ bk := fun z => na (by rw [z]; exact ba)
      have atb : atI (bs.map V.ref) (k : Int) = some (V.ref bk) := by
        rw [atI_nat', List.getElem?_map, hb]
        rfl
      refine ⟨v6, e36, .ref a, st3.fnd, .int (k : Int), e37, .inl ⟨a, bs.map V.ref, (k : Int), .ref bk, rfl, rfl, SqL.of st3.ha, atb, ?_⟩⟩
      refine ⟨.int (t : Int), e35, bk, ws, (t : Int), t, rfl, rfl, hH, ixN_ok (by rw [DqAll.len hD]; exact ht), ?_⟩
      refine hN F2 σ3 _ ⟨sb.trans go2.f, rs.set k (row.set t w), ⟨⟨st3.len, st3.s0, st3.s1, st3.go.mut hF hHc⟩, st3.fnd, by rw [upd_ne bne]; exact st3.ha, st3.fa, st3.ca, st3.nd, Rw.set (DqAll.st t hD d6) nb st3.rw hb⟩, hrp'⟩
    · rintro Fb F' σ' H' ⟨sb, rs, stk, hrp⟩
      rw [List.drop_length] at hrp
      have hrs : rs = out := by
        unfold rowsPut at hrp
        exact Option.some.inj hrp
      subst hrs
      -- return found
      obtain ⟨na, nb⟩ := List.nodup_cons.mp stk.nd
      obtain ⟨Fz, gz, sz, dz, fz⟩ := stk.rw.frz stk.go nb
      have fa' := fz a na stk.fa
      have g' := gz.freeze stk.ca fa' stk.ha
      have s' : Same Fz (upd Fz a (.lst (bs.map V.ref))) := same_new fa'
      exact ⟨.ref a, stk.fnd, kq _ _ _ g' (.lst upd_same (DqAll.mono s' dz))⟩
theorem def_ok2 {P : Program} {w : World} {K : PySem.W.Frag} {mg : Str → Option Value} {base : Heap} {C : Ctx} {x : Str} {st : Stmt} {f : Addr} {fd : FuncData} {ps : List Str} {k m : Nat} {fn : Fd} {dvs : List V} {kws : List (Str × V)} (hm : m = ps.length)
    (F : FunD K x x (defArgs st) (defBody st) (defScope st) dvs kws f fd) (S : FnScope C.N ps (defScope st)) (hsc : C.sc = defScope st) (hfn : C.fnb = fun _ => true) (hgs : C.gs = false)
    (hb : ∃ ts, (∀ (vs : List V) (H : Hp) (Q : VK) (E : XK), spD K m fn vs H Q E → ts { nx := fun _ H' => Q .non H', rt := Q } (L2.start C.N vs) H) ∧ ∀ X, Good C X → X.K = K → PSs X (defBody st) ts)
    (blt : ∀ x ∈ blts, mg x = none) (con : ∀ p ∈ C.con, ∃ v u, mg p.1 = some u ∧ RelV v u ∧ ∀ F, Dq K F v p.2)
    (tab : ∀ p ∈ C.tab, ∃ f fd ps, FnOk P w K mg base CX0 k f fd ps (spD K p.2.1 p.2.2) ∧ mg p.1 = some (.ref f) ∧ PySem.W.keepIn K (.ref f) = true ∧ Binds K fd ps []) :
    FnOk P w K mg base CX0 (k + 1) f fd ps (spD K m fn) := by
  subst hm
  obtain ⟨ts, h1, h2⟩ := hb
  refine F.ok S (fun vs H Q E h => h.1) (fun cdv A outer s H vs Q E hr h => ⟨ts, PSs.nox ?_, h1 vs H Q E h⟩)
  refine h2 _ ⟨rfl, S.nd, hsc.symm, by rw [hsc]; exact S.kind, by rw [hfn]; rfl, rfl, rfl, ?_, blt, con, fun p hp => ?_, fun z => by rw [hgs] at z; cases z⟩ rfl
  · have z := hr.un
    show (A.deeper (envOfC x (defScope st) s.heap.objs.size f cdv)).units + 70 < cLine
    omega
  · obtain ⟨f', fd', ps', F', m1, m2, m3⟩ := tab p hp
    exact ⟨k, f', fd', ps', F', hr, m1, m2, m3⟩
end
section
variable {P : Program} {w : World} {K : PySem.W.Frag} {mg : Str → Option Value} {h : Heap} {base : Heap}
theorem seen_in_ok (E : Envr w K mg h) (i : Nat) (e1 : Hd.fn[i]? = some (Hd.defD "seen_in" Hd.s_seen_in)) (e2 : Hd.fa[i]? = some (.glo "seen_in")) : Ok P w K mg base 1 ("seen_in", 2, F_seen_in) := by
  obtain ⟨fd, F⟩ := E.fun_ i e1
  obtain ⟨te1, w1, g1, te2, w2, g2, w3, g3, ⟨h1, h2, h3, h4, h5, h6, h7, h8⟩, hps⟩ := seen_cert K
  exact ⟨He.ga K "seen_in", fd, ["paper", "many"], def_ok2 (C := C_seen_in) rfl F S_seen_in rfl rfl rfl ⟨_, fun vs H Q E hsp => seen_ok h1 h2 h3 h4 h5 h6 h7 h8 hsp, hps⟩ E.blt (fun _ z => nomatch z) (fun _ z => nomatch z), E.glo i e2, F.kp,
    FunD.bindsN F (fun _ _ _ _ _ _ us hl => match us, hl with | [_, _], _ => rfl)⟩
end
end DL

set_option Elab.async false
set_option linter.all false
set_option maxRecDepth 100000
set_option maxHeartbeats 4000000
/-! Lk1: each def keeps its promise. -/
namespace DL
open PySem PySem.Spec PyProof.Rows L2
section
variable {P : Program} {w : World} {K : PySem.W.Frag} {mg : Str → Option Value} {h : Heap} {base : Heap}
theorem ok_seen_in (E : Envr w K mg h) : Ok P w K mg base 1 ("seen_in", 2, F_seen_in) := seen_in_ok E 49 rfl rfl
theorem ok_common_of (E : Envr w K mg h) : Ok P w K mg base 1 ("common_of", 2, F_common_of) :=
  link (C := C_common_of) (ps := ["one", "other"]) E 0 rfl rfl S_common_of rfl rfl rfl e_common_of (fun _ _ _ _ _ _ us hl => match us, hl with | [_, _], _ => rfl)
    (fun _ z => nomatch z) (fun _ z => nomatch z)
theorem ok_is_whole (E : Envr w K mg h) : Ok P w K mg base 1 ("is_whole", 1, F_is_whole) :=
  link (C := C_is_whole) (ps := ["thing"]) E 1 rfl rfl S_is_whole rfl rfl rfl e_is_whole (fun _ _ _ _ _ _ us hl => match us, hl with | [_], _ => rfl)
    (fun _ z => nomatch z) (fun _ z => nomatch z)
theorem ok_is_fraction (E : Envr w K mg h) : Ok P w K mg base 2 ("is_fraction", 1, F_is_fraction) :=
  link (C := C_is_fraction) (ps := ["thing"]) E 2 rfl rfl S_is_fraction rfl rfl rfl e_is_fraction (fun _ _ _ _ _ _ us hl => match us, hl with | [_], _ => rfl)
    (fun _ z => nomatch z) (List.forall_mem_cons.mpr ⟨(ok_is_whole E).mono (by decide), List.forall_mem_cons.mpr ⟨(ok_common_of E).mono (by decide), List.forall_mem_nil _⟩⟩)
theorem ok_fraction_of (E : Envr w K mg h) : Ok P w K mg base 2 ("fraction_of", 2, F_fraction_of) :=
  link (C := C_fraction_of) (ps := ["top", "bottom"]) E 3 rfl rfl S_fraction_of rfl rfl rfl e_fraction_of (fun _ _ _ _ _ _ us hl => match us, hl with | [_, _], _ => rfl)
    (fun _ z => nomatch z) (List.forall_mem_cons.mpr ⟨(ok_common_of E).mono (by decide), List.forall_mem_nil _⟩)
theorem ok_frac_sum (E : Envr w K mg h) : Ok P w K mg base 3 ("frac_sum", 2, F_frac_sum) :=
  link (C := C_frac_sum) (ps := ["one", "other"]) E 4 rfl rfl S_frac_sum rfl rfl rfl e_frac_sum (fun _ _ _ _ _ _ us hl => match us, hl with | [_, _], _ => rfl)
    (fun _ z => nomatch z) (List.forall_mem_cons.mpr ⟨(ok_fraction_of E).mono (by decide), List.forall_mem_nil _⟩)
theorem ok_frac_times (E : Envr w K mg h) : Ok P w K mg base 3 ("frac_times", 2, F_frac_times) :=
  link (C := C_frac_times) (ps := ["one", "other"]) E 5 rfl rfl S_frac_times rfl rfl rfl e_frac_times (fun _ _ _ _ _ _ us hl => match us, hl with | [_, _], _ => rfl)
    (fun _ z => nomatch z) (List.forall_mem_cons.mpr ⟨(ok_fraction_of E).mono (by decide), List.forall_mem_nil _⟩)
theorem ok_frac_below (E : Envr w K mg h) : Ok P w K mg base 1 ("frac_below", 2, F_frac_below) :=
  link (C := C_frac_below) (ps := ["one", "other"]) E 6 rfl rfl S_frac_below rfl rfl rfl e_frac_below (fun _ _ _ _ _ _ us hl => match us, hl with | [_, _], _ => rfl)
    (fun _ z => nomatch z) (fun _ z => nomatch z)
theorem ok_is_worth (E : Envr w K mg h) : Ok P w K mg base 3 ("is_worth", 1, F_is_worth) :=
  link (C := C_is_worth) (ps := ["thing"]) E 7 rfl rfl S_is_worth rfl rfl rfl e_is_worth (fun _ _ _ _ _ _ us hl => match us, hl with | [_], _ => rfl)
    (fun _ z => nomatch z) (List.forall_mem_cons.mpr ⟨(ok_is_fraction E).mono (by decide), List.forall_mem_nil _⟩)
theorem ok_are_worths (E : Envr w K mg h) : Ok P w K mg base 4 ("are_worths", 2, F_are_worths) :=
  link (C := C_are_worths) (ps := ["thing", "many"]) E 8 rfl rfl S_are_worths rfl rfl rfl e_are_worths (fun _ _ _ _ _ _ us hl => match us, hl with | [_, _], _ => rfl)
    (fun _ z => nomatch z) (List.forall_mem_cons.mpr ⟨(ok_is_worth E).mono (by decide), List.forall_mem_nil _⟩)
theorem ok_is_book (E : Envr w K mg h) : Ok P w K mg base 5 ("is_book", 1, F_is_book) :=
  link (C := C_is_book) (ps := ["thing"]) E 9 rfl rfl S_is_book rfl rfl rfl e_is_book (fun _ _ _ _ _ _ us hl => match us, hl with | [_], _ => rfl)
    (List.forall_mem_cons.mpr ⟨.tail _ (.tail _ (.tail _ (.tail _ (.tail _ (.head _))))), List.forall_mem_cons.mpr ⟨.tail _ (.tail _ (.tail _ (.tail _ (.tail _ (.tail _ (.head _)))))), List.forall_mem_nil _⟩⟩) (List.forall_mem_cons.mpr ⟨(ok_are_worths E).mono (by decide), List.forall_mem_nil _⟩)
theorem ok_look_at_book (E : Envr w K mg h) : Ok P w K mg base 6 ("look_at_book", 1, F_look_at_book) :=
  link (C := C_look_at_book) (ps := ["book"]) E 10 rfl rfl S_look_at_book rfl rfl rfl e_look_at_book (fun _ _ _ _ _ _ us hl => match us, hl with | [_], _ => rfl)
    (fun _ z => nomatch z) (List.forall_mem_cons.mpr ⟨(ok_is_book E).mono (by decide), List.forall_mem_nil _⟩)
theorem ok_order_of (E : Envr w K mg h) : Ok P w K mg base 2 ("order_of", 1, F_order_of) :=
  link (C := C_order_of) (ps := ["worths"]) E 11 rfl rfl S_order_of rfl rfl rfl e_order_of (fun _ _ _ _ _ _ us hl => match us, hl with | [_], _ => rfl)
    (fun _ z => nomatch z) (List.forall_mem_cons.mpr ⟨(ok_frac_below E).mono (by decide), List.forall_mem_nil _⟩)
theorem ok_is_weight (E : Envr w K mg h) : Ok P w K mg base 3 ("is_weight", 1, F_is_weight) :=
  link (C := C_is_weight) (ps := ["thing"]) E 12 rfl rfl S_is_weight rfl rfl rfl e_is_weight (fun _ _ _ _ _ _ us hl => match us, hl with | [_], _ => rfl)
    (fun _ z => nomatch z) (List.forall_mem_cons.mpr ⟨(ok_is_fraction E).mono (by decide), List.forall_mem_nil _⟩)
theorem ok_is_rule (E : Envr w K mg h) : Ok P w K mg base 4 ("is_rule", 2, F_is_rule) :=
  link (C := C_is_rule) (ps := ["thing", "many"]) E 13 rfl rfl S_is_rule rfl rfl rfl e_is_rule (fun _ _ _ _ _ _ us hl => match us, hl with | [_, _], _ => rfl)
    (List.forall_mem_cons.mpr ⟨.tail _ (.tail _ (.tail _ (.tail _ (.head _)))), List.forall_mem_nil _⟩) (List.forall_mem_cons.mpr ⟨(ok_is_weight E).mono (by decide), List.forall_mem_cons.mpr ⟨(ok_is_whole E).mono (by decide), List.forall_mem_nil _⟩⟩)
theorem ok_look_at_rule (E : Envr w K mg h) : Ok P w K mg base 5 ("look_at_rule", 2, F_look_at_rule) :=
  link (C := C_look_at_rule) (ps := ["rule", "many"]) E 14 rfl rfl S_look_at_rule rfl rfl rfl e_look_at_rule (fun _ _ _ _ _ _ us hl => match us, hl with | [_, _], _ => rfl)
    (fun _ z => nomatch z) (List.forall_mem_cons.mpr ⟨(ok_is_rule E).mono (by decide), List.forall_mem_nil _⟩)
theorem ok_falling (E : Envr w K mg h) : Ok P w K mg base 2 ("falling", 1, F_falling) :=
  link (C := C_falling) (ps := ["worths"]) E 15 rfl rfl S_falling rfl rfl rfl e_falling (fun _ _ _ _ _ _ us hl => match us, hl with | [_], _ => rfl)
    (fun _ z => nomatch z) (List.forall_mem_cons.mpr ⟨(ok_frac_below E).mono (by decide), List.forall_mem_nil _⟩)
theorem ok_place_of (E : Envr w K mg h) : Ok P w K mg base 1 ("place_of", 2, F_place_of) :=
  link (C := C_place_of) (ps := ["rule", "many"]) E 16 rfl rfl S_place_of rfl rfl rfl e_place_of (fun _ _ _ _ _ _ us hl => match us, hl with | [_, _], _ => rfl)
    (fun _ z => nomatch z) (fun _ z => nomatch z)
theorem ok_worth_by (E : Envr w K mg h) : Ok P w K mg base 4 ("worth_by", 2, F_worth_by) :=
  link (C := C_worth_by) (ps := ["rule", "worths"]) E 17 rfl rfl S_worth_by rfl rfl rfl e_worth_by (fun _ _ _ _ _ _ us hl => match us, hl with | [_, _], _ => rfl)
    (List.forall_mem_cons.mpr ⟨.head _, List.forall_mem_cons.mpr ⟨.tail _ (.head _), List.forall_mem_nil _⟩⟩) (List.forall_mem_cons.mpr ⟨(ok_frac_sum E).mono (by decide), List.forall_mem_cons.mpr ⟨(ok_frac_times E).mono (by decide), List.forall_mem_cons.mpr ⟨(ok_falling E).mono (by decide), List.forall_mem_cons.mpr ⟨(ok_place_of E).mono (by decide), List.forall_mem_nil _⟩⟩⟩⟩)
theorem ok_look_at_count (E : Envr w K mg h) : Ok P w K mg base 2 ("look_at_count", 2, F_look_at_count) :=
  link (C := C_look_at_count) (ps := ["book", "count"]) E 18 rfl rfl S_look_at_count rfl rfl rfl e_look_at_count (fun _ _ _ _ _ _ us hl => match us, hl with | [_, _], _ => rfl)
    (fun _ z => nomatch z) (List.forall_mem_cons.mpr ⟨(ok_is_whole E).mono (by decide), List.forall_mem_nil _⟩)
theorem ok_is_asked (E : Envr w K mg h) : Ok P w K mg base 2 ("is_asked", 3, F_is_asked) :=
  link (C := C_is_asked) (ps := ["thing", "lists", "many"]) E 19 rfl rfl S_is_asked rfl rfl rfl e_is_asked (fun _ _ _ _ _ _ us hl => match us, hl with | [_, _, _], _ => rfl)
    (fun _ z => nomatch z) (List.forall_mem_cons.mpr ⟨(ok_is_whole E).mono (by decide), List.forall_mem_nil _⟩)
theorem ok_is_looks (E : Envr w K mg h) : Ok P w K mg base 3 ("is_looks", 2, F_is_looks) :=
  link (C := C_is_looks) (ps := ["book", "thing"]) E 20 rfl rfl S_is_looks rfl rfl rfl e_is_looks (fun _ _ _ _ _ _ us hl => match us, hl with | [_, _], _ => rfl)
    (fun _ z => nomatch z) (List.forall_mem_cons.mpr ⟨(ok_is_whole E).mono (by decide), List.forall_mem_cons.mpr ⟨(ok_is_asked E).mono (by decide), List.forall_mem_nil _⟩⟩)
theorem ok_look_at_looks (E : Envr w K mg h) : Ok P w K mg base 4 ("look_at_looks", 2, F_look_at_looks) :=
  link (C := C_look_at_looks) (ps := ["book", "looks"]) E 21 rfl rfl S_look_at_looks rfl rfl rfl e_look_at_looks (fun _ _ _ _ _ _ us hl => match us, hl with | [_, _], _ => rfl)
    (fun _ z => nomatch z) (List.forall_mem_cons.mpr ⟨(ok_is_looks E).mono (by decide), List.forall_mem_nil _⟩)
theorem ok_read_lines (E : Envr w K mg h) : Ok P w K mg base 3 ("read_lines", 2, F_read_lines) :=
  link (C := C_read_lines) (ps := ["book", "depths"]) E 22 rfl rfl S_read_lines rfl rfl rfl e_read_lines (fun _ _ _ _ _ _ us hl => match us, hl with | [_, _], _ => rfl)
    (fun _ z => nomatch z) (List.forall_mem_cons.mpr ⟨(ok_order_of E).mono (by decide), List.forall_mem_nil _⟩)
theorem ok_seen_of (E : Envr w K mg h) : Ok P w K mg base 4 ("seen_of", 2, F_seen_of) :=
  link (C := C_seen_of) (ps := ["book", "looks"]) E 23 rfl rfl S_seen_of rfl rfl rfl e_seen_of (fun _ _ _ _ _ _ us hl => match us, hl with | [_, _], _ => rfl)
    (fun _ z => nomatch z) (List.forall_mem_cons.mpr ⟨(ok_read_lines E).mono (by decide), List.forall_mem_nil _⟩)
theorem ok_seen_worths (E : Envr w K mg h) : Ok P w K mg base 7 ("seen_worths", 2, F_seen_worths) :=
  link (C := C_seen_worths) (ps := ["book", "looks"]) E 24 rfl rfl S_seen_worths rfl rfl rfl e_seen_worths (fun _ _ _ _ _ _ us hl => match us, hl with | [_, _], _ => rfl)
    (fun _ z => nomatch z) (List.forall_mem_cons.mpr ⟨(ok_look_at_book E).mono (by decide), List.forall_mem_cons.mpr ⟨(ok_look_at_looks E).mono (by decide), List.forall_mem_cons.mpr ⟨(ok_seen_of E).mono (by decide), List.forall_mem_nil _⟩⟩⟩)
theorem ok_unread_of (E : Envr w K mg h) : Ok P w K mg base 4 ("unread_of", 2, F_unread_of) :=
  link (C := C_unread_of) (ps := ["book", "looks"]) E 25 rfl rfl S_unread_of rfl rfl rfl e_unread_of (fun _ _ _ _ _ _ us hl => match us, hl with | [_, _], _ => rfl)
    (fun _ z => nomatch z) (List.forall_mem_cons.mpr ⟨(ok_read_lines E).mono (by decide), List.forall_mem_nil _⟩)
theorem ok_count_of (E : Envr w K mg h) : Ok P w K mg base 7 ("count_of", 2, F_count_of) :=
  link (C := C_count_of) (ps := ["book", "looks"]) E 26 rfl rfl S_count_of rfl rfl rfl e_count_of (fun _ _ _ _ _ _ us hl => match us, hl with | [_, _], _ => rfl)
    (fun _ z => nomatch z) (List.forall_mem_cons.mpr ⟨(ok_look_at_book E).mono (by decide), List.forall_mem_cons.mpr ⟨(ok_look_at_looks E).mono (by decide), List.forall_mem_cons.mpr ⟨(ok_unread_of E).mono (by decide), List.forall_mem_nil _⟩⟩⟩)
theorem ok_last_of (E : Envr w K mg h) : Ok P w K mg base 4 ("last_of", 2, F_last_of) :=
  link (C := C_last_of) (ps := ["book", "depths"]) E 27 rfl rfl S_last_of rfl rfl rfl e_last_of (fun _ _ _ _ _ _ us hl => match us, hl with | [_, _], _ => rfl)
    (List.forall_mem_cons.mpr ⟨.tail _ (.tail _ (.tail _ (.head _))), List.forall_mem_nil _⟩) (List.forall_mem_cons.mpr ⟨(ok_read_lines E).mono (by decide), List.forall_mem_nil _⟩)
theorem ok_filled (E : Envr w K mg h) : Ok P w K mg base 1 ("filled", 2, F_filled) :=
  link (C := C_filled) (ps := ["row", "others"]) E 28 rfl rfl S_filled rfl rfl rfl e_filled (fun _ _ _ _ _ _ us hl => match us, hl with | [_, _], _ => rfl)
    (fun _ z => nomatch z) (fun _ z => nomatch z)
theorem ok_bounds_by (E : Envr w K mg h) : Ok P w K mg base 5 ("bounds_by", 3, F_bounds_by) :=
  link (C := C_bounds_by) (ps := ["rule", "seen", "last"]) E 29 rfl rfl S_bounds_by rfl rfl rfl e_bounds_by (fun _ _ _ _ _ _ us hl => match us, hl with | [_, _, _], _ => rfl)
    (List.forall_mem_cons.mpr ⟨.tail _ (.tail _ (.head _)), List.forall_mem_nil _⟩) (List.forall_mem_cons.mpr ⟨(ok_worth_by E).mono (by decide), List.forall_mem_cons.mpr ⟨(ok_filled E).mono (by decide), List.forall_mem_nil _⟩⟩)
theorem ok_bounds_of (E : Envr w K mg h) : Ok P w K mg base 6 ("bounds_of", 3, F_bounds_of) :=
  link (C := C_bounds_of) (ps := ["book", "rule", "looks"]) E 30 rfl rfl S_bounds_of rfl rfl rfl e_bounds_of (fun _ _ _ _ _ _ us hl => match us, hl with | [_, _, _], _ => rfl)
    (fun _ z => nomatch z) (List.forall_mem_cons.mpr ⟨(ok_bounds_by E).mono (by decide), List.forall_mem_cons.mpr ⟨(ok_last_of E).mono (by decide), List.forall_mem_cons.mpr ⟨(ok_seen_of E).mono (by decide), List.forall_mem_nil _⟩⟩⟩)
theorem ok_worth_bounds (E : Envr w K mg h) : Ok P w K mg base 7 ("worth_bounds", 3, F_worth_bounds) :=
  link (C := C_worth_bounds) (ps := ["book", "rule", "looks"]) E 31 rfl rfl S_worth_bounds rfl rfl rfl e_worth_bounds (fun _ _ _ _ _ _ us hl => match us, hl with | [_, _, _], _ => rfl)
    (fun _ z => nomatch z) (List.forall_mem_cons.mpr ⟨(ok_look_at_book E).mono (by decide), List.forall_mem_cons.mpr ⟨(ok_look_at_rule E).mono (by decide), List.forall_mem_cons.mpr ⟨(ok_look_at_looks E).mono (by decide), List.forall_mem_cons.mpr ⟨(ok_bounds_of E).mono (by decide), List.forall_mem_nil _⟩⟩⟩⟩)
theorem ok_goes_ahead (E : Envr w K mg h) : Ok P w K mg base 2 ("goes_ahead", 3, F_goes_ahead) :=
  link (C := C_goes_ahead) (ps := ["bounds", "one", "other"]) E 32 rfl rfl S_goes_ahead rfl rfl rfl e_goes_ahead (fun _ _ _ _ _ _ us hl => match us, hl with | [_, _, _], _ => rfl)
    (fun _ z => nomatch z) (List.forall_mem_cons.mpr ⟨(ok_frac_below E).mono (by decide), List.forall_mem_nil _⟩)
theorem ok_in_turn (E : Envr w K mg h) : Ok P w K mg base 3 ("in_turn", 1, F_in_turn) :=
  link (C := C_in_turn) (ps := ["bounds"]) E 33 rfl rfl S_in_turn rfl rfl rfl e_in_turn (fun _ _ _ _ _ _ us hl => match us, hl with | [_], _ => rfl)
    (fun _ z => nomatch z) (List.forall_mem_cons.mpr ⟨(ok_goes_ahead E).mono (by decide), List.forall_mem_nil _⟩)
theorem ok_are_sure (E : Envr w K mg h) : Ok P w K mg base 2 ("are_sure", 2, F_are_sure) :=
  link (C := C_are_sure) (ps := ["bounds", "things"]) E 34 rfl rfl S_are_sure rfl rfl rfl e_are_sure (fun _ _ _ _ _ _ us hl => match us, hl with | [_, _], _ => rfl)
    (fun _ z => nomatch z) (List.forall_mem_cons.mpr ⟨(ok_frac_below E).mono (by decide), List.forall_mem_nil _⟩)
theorem ok_sure_by (E : Envr w K mg h) : Ok P w K mg base 4 ("sure_by", 2, F_sure_by) :=
  link (C := C_sure_by) (ps := ["bounds", "count"]) E 35 rfl rfl S_sure_by rfl rfl rfl e_sure_by (fun _ _ _ _ _ _ us hl => match us, hl with | [_, _], _ => rfl)
    (fun _ z => nomatch z) (List.forall_mem_cons.mpr ⟨(ok_in_turn E).mono (by decide), List.forall_mem_cons.mpr ⟨(ok_are_sure E).mono (by decide), List.forall_mem_nil _⟩⟩)
theorem ok_sure_few (E : Envr w K mg h) : Ok P w K mg base 7 ("sure_few", 4, F_sure_few) :=
  link (C := C_sure_few) (ps := ["book", "rule", "count", "looks"]) E 36 rfl rfl S_sure_few rfl rfl rfl e_sure_few (fun _ _ _ _ _ _ us hl => match us, hl with | [_, _, _, _], _ => rfl)
    (fun _ z => nomatch z) (List.forall_mem_cons.mpr ⟨(ok_look_at_book E).mono (by decide), List.forall_mem_cons.mpr ⟨(ok_look_at_rule E).mono (by decide), List.forall_mem_cons.mpr ⟨(ok_look_at_count E).mono (by decide), List.forall_mem_cons.mpr ⟨(ok_look_at_looks E).mono (by decide), List.forall_mem_cons.mpr ⟨(ok_sure_by E).mono (by decide), List.forall_mem_cons.mpr ⟨(ok_bounds_of E).mono (by decide), List.forall_mem_nil _⟩⟩⟩⟩⟩⟩)
theorem ok_are_things (E : Envr w K mg h) : Ok P w K mg base 2 ("are_things", 2, F_are_things) :=
  link (C := C_are_things) (ps := ["thing", "many"]) E 37 rfl rfl S_are_things rfl rfl rfl e_are_things (fun _ _ _ _ _ _ us hl => match us, hl with | [_, _], _ => rfl)
    (fun _ z => nomatch z) (List.forall_mem_cons.mpr ⟨(ok_is_whole E).mono (by decide), List.forall_mem_nil _⟩)
theorem ok_look_at_things (E : Envr w K mg h) : Ok P w K mg base 3 ("look_at_things", 2, F_look_at_things) :=
  link (C := C_look_at_things) (ps := ["book", "things"]) E 38 rfl rfl S_look_at_things rfl rfl rfl e_look_at_things (fun _ _ _ _ _ _ us hl => match us, hl with | [_, _], _ => rfl)
    (fun _ z => nomatch z) (List.forall_mem_cons.mpr ⟨(ok_are_things E).mono (by decide), List.forall_mem_nil _⟩)
theorem ok_beaten_pair (E : Envr w K mg h) : Ok P w K mg base 2 ("beaten_pair", 2, F_beaten_pair) :=
  link (C := C_beaten_pair) (ps := ["bounds", "things"]) E 39 rfl rfl S_beaten_pair rfl rfl rfl e_beaten_pair (fun _ _ _ _ _ _ us hl => match us, hl with | [_, _], _ => rfl)
    (fun _ z => nomatch z) (List.forall_mem_cons.mpr ⟨(ok_frac_below E).mono (by decide), List.forall_mem_nil _⟩)
theorem ok_other_book (E : Envr w K mg h) : Ok P w K mg base 7 ("other_book", 4, F_other_book rest0) :=
  link (C := C_other_book) (ps := ["book", "rule", "things", "looks"]) E 40 rfl rfl S_other_book rfl rfl rfl e_other_book (fun _ _ _ _ _ _ us hl => match us, hl with | [_, _, _, _], _ => rfl)
    (fun _ z => nomatch z) (List.forall_mem_cons.mpr ⟨(ok_look_at_book E).mono (by decide), List.forall_mem_cons.mpr ⟨(ok_look_at_rule E).mono (by decide), List.forall_mem_cons.mpr ⟨(ok_look_at_things E).mono (by decide), List.forall_mem_cons.mpr ⟨(ok_look_at_looks E).mono (by decide), List.forall_mem_cons.mpr ⟨(ok_bounds_of E).mono (by decide), List.forall_mem_cons.mpr ⟨(ok_beaten_pair E).mono (by decide), List.forall_mem_nil _⟩⟩⟩⟩⟩⟩)
theorem ok_seen_paper (E : Envr w K mg h) : Ok P w K mg base 7 ("seen_paper", 4, F_seen_paper) :=
  link (C := C_seen_paper) (ps := ["book", "rule", "count", "looks"]) E 41 rfl rfl S_seen_paper rfl rfl rfl e_seen_paper (fun _ _ _ _ _ _ us hl => match us, hl with | [_, _, _, _], _ => rfl)
    (fun _ z => nomatch z) (List.forall_mem_cons.mpr ⟨(ok_look_at_book E).mono (by decide), List.forall_mem_cons.mpr ⟨(ok_look_at_rule E).mono (by decide), List.forall_mem_cons.mpr ⟨(ok_look_at_count E).mono (by decide), List.forall_mem_cons.mpr ⟨(ok_look_at_looks E).mono (by decide), List.forall_mem_cons.mpr ⟨(ok_sure_by E).mono (by decide), List.forall_mem_cons.mpr ⟨(ok_bounds_of E).mono (by decide), List.forall_mem_cons.mpr ⟨(ok_read_lines E).mono (by decide), List.forall_mem_nil _⟩⟩⟩⟩⟩⟩⟩)
theorem ok_is_number_below (E : Envr w K mg h) : Ok P w K mg base 2 ("is_number_below", 2, F_is_number_below) :=
  link (C := C_is_number_below) (ps := ["thing", "many"]) E 42 rfl rfl S_is_number_below rfl rfl rfl e_is_number_below (fun _ _ _ _ _ _ us hl => match us, hl with | [_, _], _ => rfl)
    (fun _ z => nomatch z) (List.forall_mem_cons.mpr ⟨(ok_is_whole E).mono (by decide), List.forall_mem_nil _⟩)
theorem ok_is_line (E : Envr w K mg h) : Ok P w K mg base 4 ("is_line", 2, F_is_line) :=
  link (C := C_is_line) (ps := ["thing", "many"]) E 43 rfl rfl S_is_line rfl rfl rfl e_is_line (fun _ _ _ _ _ _ us hl => match us, hl with | [_, _], _ => rfl)
    (fun _ z => nomatch z) (List.forall_mem_cons.mpr ⟨(ok_is_worth E).mono (by decide), List.forall_mem_cons.mpr ⟨(ok_is_number_below E).mono (by decide), List.forall_mem_nil _⟩⟩)
theorem ok_goes_behind (E : Envr w K mg h) : Ok P w K mg base 2 ("goes_behind", 2, F_goes_behind) :=
  link (C := C_goes_behind) (ps := ["line", "other"]) E 44 rfl rfl S_goes_behind rfl rfl rfl e_goes_behind (fun _ _ _ _ _ _ us hl => match us, hl with | [_, _], _ => rfl)
    (fun _ z => nomatch z) (List.forall_mem_cons.mpr ⟨(ok_frac_below E).mono (by decide), List.forall_mem_nil _⟩)
theorem ok_are_lines (E : Envr w K mg h) : Ok P w K mg base 5 ("are_lines", 2, F_are_lines) :=
  link (C := C_are_lines) (ps := ["thing", "many"]) E 45 rfl rfl S_are_lines rfl rfl rfl e_are_lines (fun _ _ _ _ _ _ us hl => match us, hl with | [_, _], _ => rfl)
    (List.forall_mem_cons.mpr ⟨.tail _ (.tail _ (.head _)), List.forall_mem_nil _⟩) (List.forall_mem_cons.mpr ⟨(ok_is_line E).mono (by decide), List.forall_mem_cons.mpr ⟨(ok_goes_behind E).mono (by decide), List.forall_mem_nil _⟩⟩)
theorem ok_is_let (E : Envr w K mg h) : Ok P w K mg base 3 ("is_let", 3, F_is_let) :=
  link (C := C_is_let) (ps := ["lines", "thing", "worth"]) E 46 rfl rfl S_is_let rfl rfl rfl e_is_let (fun _ _ _ _ _ _ us hl => match us, hl with | [_, _, _], _ => rfl)
    (fun _ z => nomatch z) (List.forall_mem_cons.mpr ⟨(ok_goes_behind E).mono (by decide), List.forall_mem_nil _⟩)
theorem ok_are_asked (E : Envr w K mg h) : Ok P w K mg base 4 ("are_asked", 3, F_are_asked) :=
  link (C := C_are_asked) (ps := ["thing", "lines", "many"]) E 47 rfl rfl S_are_asked rfl rfl rfl e_are_asked (fun _ _ _ _ _ _ us hl => match us, hl with | [_, _, _], _ => rfl)
    (fun _ z => nomatch z) (List.forall_mem_cons.mpr ⟨(ok_is_worth E).mono (by decide), List.forall_mem_cons.mpr ⟨(ok_is_number_below E).mono (by decide), List.forall_mem_cons.mpr ⟨(ok_is_let E).mono (by decide), List.forall_mem_nil _⟩⟩⟩)
theorem ok_is_paper (E : Envr w K mg h) : Ok P w K mg base 6 ("is_paper", 2, F_is_paper) :=
  link (C := C_is_paper) (ps := ["thing", "many"]) E 48 rfl rfl S_is_paper rfl rfl rfl e_is_paper (fun _ _ _ _ _ _ us hl => match us, hl with | [_, _], _ => rfl)
    (List.forall_mem_cons.mpr ⟨.tail _ (.tail _ (.tail _ (.tail _ (.tail _ (.tail _ (.tail _ (.head _))))))), List.forall_mem_nil _⟩) (List.forall_mem_cons.mpr ⟨(ok_are_lines E).mono (by decide), List.forall_mem_cons.mpr ⟨(ok_are_things E).mono (by decide), List.forall_mem_cons.mpr ⟨(ok_are_asked E).mono (by decide), List.forall_mem_nil _⟩⟩⟩)
theorem ok_judge_paper (E : Envr w K mg h) : Ok P w K mg base 7 ("judge_paper", 4, F_judge_paper) :=
  link (C := C_judge_paper) (ps := ["many", "rule", "count", "paper"]) E 50 rfl rfl S_judge_paper rfl rfl rfl e_judge_paper (fun _ _ _ _ _ _ us hl => match us, hl with | [_, _, _, _], _ => rfl)
    (List.forall_mem_cons.mpr ⟨.tail _ (.tail _ (.tail _ (.tail _ (.tail _ (.tail _ (.tail _ (.tail _ (.head _)))))))), List.forall_mem_cons.mpr ⟨.tail _ (.tail _ (.tail _ (.head _))), List.forall_mem_nil _⟩⟩) (List.forall_mem_cons.mpr ⟨(ok_is_whole E).mono (by decide), List.forall_mem_cons.mpr ⟨(ok_is_rule E).mono (by decide), List.forall_mem_cons.mpr ⟨(ok_is_paper E).mono (by decide), List.forall_mem_cons.mpr ⟨(ok_are_sure E).mono (by decide), List.forall_mem_cons.mpr ⟨(ok_bounds_by E).mono (by decide), List.forall_mem_cons.mpr ⟨(ok_seen_in E).mono (by decide), List.forall_mem_nil _⟩⟩⟩⟩⟩⟩)
theorem ok_look_at_slack (E : Envr w K mg h) : Ok P w K mg base 3 ("look_at_slack", 1, F_look_at_slack) :=
  link (C := C_look_at_slack) (ps := ["slack"]) E 51 rfl rfl S_look_at_slack rfl rfl rfl e_look_at_slack (fun _ _ _ _ _ _ us hl => match us, hl with | [_], _ => rfl)
    (fun _ z => nomatch z) (List.forall_mem_cons.mpr ⟨(ok_is_fraction E).mono (by decide), List.forall_mem_nil _⟩)
theorem ok_few_above (E : Envr w K mg h) : Ok P w K mg base 4 ("few_above", 4, F_few_above) :=
  link (C := C_few_above) (ps := ["bounds", "count", "slack", "least"]) E 52 rfl rfl S_few_above rfl rfl rfl e_few_above (fun _ _ _ _ _ _ us hl => match us, hl with | [_, _, _, _], _ => rfl)
    (fun _ z => nomatch z) (List.forall_mem_cons.mpr ⟨(ok_frac_times E).mono (by decide), List.forall_mem_cons.mpr ⟨(ok_in_turn E).mono (by decide), List.forall_mem_cons.mpr ⟨(ok_frac_below E).mono (by decide), List.forall_mem_nil _⟩⟩⟩)
theorem ok_near_few (E : Envr w K mg h) : Ok P w K mg base 7 ("near_few", 5, F_near_few) :=
  link (C := C_near_few) (ps := ["book", "rule", "count", "looks", "slack"]) E 53 rfl rfl S_near_few rfl rfl rfl e_near_few (fun _ _ _ _ _ _ us hl => match us, hl with | [_, _, _, _, _], _ => rfl)
    (fun _ z => nomatch z) (List.forall_mem_cons.mpr ⟨(ok_look_at_book E).mono (by decide), List.forall_mem_cons.mpr ⟨(ok_look_at_rule E).mono (by decide), List.forall_mem_cons.mpr ⟨(ok_look_at_count E).mono (by decide), List.forall_mem_cons.mpr ⟨(ok_look_at_looks E).mono (by decide), List.forall_mem_cons.mpr ⟨(ok_look_at_slack E).mono (by decide), List.forall_mem_cons.mpr ⟨(ok_bounds_of E).mono (by decide), List.forall_mem_cons.mpr ⟨(ok_in_turn E).mono (by decide), List.forall_mem_cons.mpr ⟨(ok_few_above E).mono (by decide), List.forall_mem_nil _⟩⟩⟩⟩⟩⟩⟩⟩)
theorem ok_law_cell (E : Envr w K mg h) : Ok P w K mg base 1 ("_law_cell", 2, F_law_cell) :=
  link (C := C_law_cell) (ps := ["_law_script", "_law_k"]) E 54 rfl rfl S_law_cell rfl rfl rfl e_law_cell (fun _ _ _ _ _ _ us hl => match us, hl with | [_, _], _ => rfl)
    (fun _ z => nomatch z) (fun _ z => nomatch z)
theorem ok_law_frac (E : Envr w K mg h) : Ok P w K mg base 1 ("_law_frac", 2, F_law_frac) :=
  link (C := C_law_frac) (ps := ["_law_top", "_law_bottom"]) E 55 rfl rfl S_law_frac rfl rfl rfl e_law_frac (fun _ _ _ _ _ _ us hl => match us, hl with | [_, _], _ => rfl)
    (fun _ z => nomatch z) (fun _ z => nomatch z)
theorem ok_law_add (E : Envr w K mg h) : Ok P w K mg base 2 ("_law_add", 2, F_law_add) :=
  link (C := C_law_add) (ps := ["_law_one", "_law_other"]) E 56 rfl rfl S_law_add rfl rfl rfl e_law_add (fun _ _ _ _ _ _ us hl => match us, hl with | [_, _], _ => rfl)
    (fun _ z => nomatch z) (List.forall_mem_cons.mpr ⟨(ok_law_frac E).mono (by decide), List.forall_mem_nil _⟩)
theorem ok_law_mul (E : Envr w K mg h) : Ok P w K mg base 2 ("_law_mul", 2, F_law_mul) :=
  link (C := C_law_mul) (ps := ["_law_one", "_law_other"]) E 57 rfl rfl S_law_mul rfl rfl rfl e_law_mul (fun _ _ _ _ _ _ us hl => match us, hl with | [_, _], _ => rfl)
    (fun _ z => nomatch z) (List.forall_mem_cons.mpr ⟨(ok_law_frac E).mono (by decide), List.forall_mem_nil _⟩)
theorem ok_law_below (E : Envr w K mg h) : Ok P w K mg base 1 ("_law_below", 2, F_law_below) :=
  link (C := C_law_below) (ps := ["_law_one", "_law_other"]) E 58 rfl rfl S_law_below rfl rfl rfl e_law_below (fun _ _ _ _ _ _ us hl => match us, hl with | [_, _], _ => rfl)
    (fun _ z => nomatch z) (fun _ z => nomatch z)
theorem ok_law_book (E : Envr w K mg h) : Ok P w K mg base 2 ("_law_book", 4, F_law_book) :=
  link (C := C_law_book) (ps := ["_law_script", "_law_at", "_law_lists", "_law_most"]) E 59 rfl rfl S_law_book rfl rfl rfl e_law_book (fun _ _ _ _ _ _ us hl => match us, hl with | [_, _, _, _], _ => rfl)
    (fun _ z => nomatch z) (List.forall_mem_cons.mpr ⟨(ok_law_cell E).mono (by decide), List.forall_mem_cons.mpr ⟨(ok_law_frac E).mono (by decide), List.forall_mem_nil _⟩⟩)
theorem ok_law_rule (E : Envr w K mg h) : Ok P w K mg base 2 ("_law_rule", 2, F_law_rule) :=
  link (C := C_law_rule) (ps := ["_law_number", "_law_lists"]) E 60 rfl rfl S_law_rule rfl rfl rfl e_law_rule (fun _ _ _ _ _ _ us hl => match us, hl with | [_, _], _ => rfl)
    (fun _ z => nomatch z) (List.forall_mem_cons.mpr ⟨(ok_law_frac E).mono (by decide), List.forall_mem_nil _⟩)
theorem ok_law_worth (E : Envr w K mg h) : Ok P w K mg base 3 ("_law_worth", 2, F_law_worth) :=
  link (C := C_law_worth) (ps := ["_law_rule_here", "_law_worths"]) E 61 rfl rfl S_law_worth rfl rfl rfl e_law_worth (fun _ _ _ _ _ _ us hl => match us, hl with | [_, _], _ => rfl)
    (fun _ z => nomatch z) (List.forall_mem_cons.mpr ⟨(ok_law_add E).mono (by decide), List.forall_mem_cons.mpr ⟨(ok_law_mul E).mono (by decide), List.forall_mem_cons.mpr ⟨(ok_law_below E).mono (by decide), List.forall_mem_nil _⟩⟩⟩)
theorem ok_law_order (E : Envr w K mg h) : Ok P w K mg base 2 ("_law_order", 1, F_law_order) :=
  link (C := C_law_order) (ps := ["_law_worths"]) E 62 rfl rfl S_law_order rfl rfl rfl e_law_order (fun _ _ _ _ _ _ us hl => match us, hl with | [_], _ => rfl)
    (fun _ z => nomatch z) (List.forall_mem_cons.mpr ⟨(ok_law_below E).mono (by decide), List.forall_mem_nil _⟩)
theorem ok_law_looks (E : Envr w K mg h) : Ok P w K mg base 2 ("_law_looks", 3, F_law_looks) :=
  link (C := C_law_looks) (ps := ["_law_script", "_law_at", "_law_book_here"]) E 63 rfl rfl S_law_looks rfl rfl rfl e_law_looks (fun _ _ _ _ _ _ us hl => match us, hl with | [_, _, _], _ => rfl)
    (fun _ z => nomatch z) (List.forall_mem_cons.mpr ⟨(ok_law_cell E).mono (by decide), List.forall_mem_nil _⟩)
theorem ok_law_more (E : Envr w K mg h) : Ok P w K mg base 2 ("_law_more", 4, F_law_more) :=
  link (C := C_law_more) (ps := ["_law_script", "_law_at", "_law_book_here", "_law_looks_here"]) E 64 rfl rfl S_law_more rfl rfl rfl e_law_more (fun _ _ _ _ _ _ us hl => match us, hl with | [_, _, _, _], _ => rfl)
    (fun _ z => nomatch z) (List.forall_mem_cons.mpr ⟨(ok_law_cell E).mono (by decide), List.forall_mem_nil _⟩)
theorem ok_law_nested (E : Envr w K mg h) : Ok P w K mg base 8 ("_law_nested", 4, F_law_nested) :=
  link (C := C_law_nested) (ps := ["_law_book_here", "_law_rule_here", "_law_looks_here", "_law_more_here"]) E 65 rfl rfl S_law_nested rfl rfl rfl e_law_nested (fun _ _ _ _ _ _ us hl => match us, hl with | [_, _, _, _], _ => rfl)
    (fun _ z => nomatch z) (List.forall_mem_cons.mpr ⟨(ok_seen_worths E).mono (by decide), List.forall_mem_cons.mpr ⟨(ok_worth_bounds E).mono (by decide), List.forall_mem_cons.mpr ⟨(ok_law_worth E).mono (by decide), List.forall_mem_cons.mpr ⟨(ok_law_below E).mono (by decide), List.forall_mem_cons.mpr ⟨(ok_count_of E).mono (by decide), List.forall_mem_nil _⟩⟩⟩⟩⟩)
theorem ok_law_stays (E : Envr w K mg h) : Ok P w K mg base 8 ("_law_stays", 5, F_law_stays rest0) :=
  link (C := C_law_stays rest0) (ps := ["_law_book_here", "_law_rule_here", "_law_count", "_law_looks_here", "_law_more_here"]) E 66 rfl rfl S_law_stays rfl rfl rfl (e_law_stays rest0) (fun _ _ _ _ _ _ us hl => match us, hl with | [_, _, _, _, _], _ => rfl)
    (fun _ z => nomatch z) (List.forall_mem_cons.mpr ⟨(ok_sure_few E).mono (by decide), List.forall_mem_cons.mpr ⟨(ok_other_book E).mono (by decide), List.forall_mem_cons.mpr ⟨(ok_seen_paper E).mono (by decide), List.forall_mem_cons.mpr ⟨(ok_judge_paper E).mono (by decide), List.forall_mem_nil _⟩⟩⟩⟩)
theorem ok_law_near (E : Envr w K mg h) : Ok P w K mg base 8 ("_law_near", 6, F_law_near) :=
  link (C := C_law_near) (ps := ["_law_book_here", "_law_rule_here", "_law_count", "_law_looks_here", "_law_more_here", "_law_slack"]) E 67 rfl rfl S_law_near rfl rfl rfl e_law_near (fun _ _ _ _ _ _ us hl => match us, hl with | [_, _, _, _, _, _], _ => rfl)
    (fun _ z => nomatch z) (List.forall_mem_cons.mpr ⟨(ok_near_few E).mono (by decide), List.forall_mem_cons.mpr ⟨(ok_worth_bounds E).mono (by decide), List.forall_mem_cons.mpr ⟨(ok_law_below E).mono (by decide), List.forall_mem_cons.mpr ⟨(ok_law_mul E).mono (by decide), List.forall_mem_cons.mpr ⟨(ok_law_add E).mono (by decide), List.forall_mem_nil _⟩⟩⟩⟩⟩)
theorem ok_law_whole (E : Envr w K mg h) : Ok P w K mg base 8 ("_law_whole", 3, F_law_whole rest0) :=
  link (C := C_law_whole rest0) (ps := ["_law_book_here", "_law_rule_here", "_law_count"]) E 68 rfl rfl S_law_whole rfl rfl rfl (e_law_whole rest0) (fun _ _ _ _ _ _ us hl => match us, hl with | [_, _, _], _ => rfl)
    (fun _ z => nomatch z) (List.forall_mem_cons.mpr ⟨(ok_law_worth E).mono (by decide), List.forall_mem_cons.mpr ⟨(ok_law_order E).mono (by decide), List.forall_mem_cons.mpr ⟨(ok_worth_bounds E).mono (by decide), List.forall_mem_cons.mpr ⟨(ok_other_book E).mono (by decide), List.forall_mem_cons.mpr ⟨(ok_sure_few E).mono (by decide), List.forall_mem_nil _⟩⟩⟩⟩⟩)
end
end DL

set_option Elab.async false
set_option linter.all false
set_option maxRecDepth 100000
set_option maxHeartbeats 4000000
set_option exponentiation.threshold 3000
/-! Fra: the program's fractions are rationals. -/
namespace DL
open PySem
/-- top and bottom below 2^n -/
def Sz (n : Nat) (r : Rat) : Prop := r.num.natAbs < 2 ^ n ∧ r.den < 2 ^ n
theorem pow_mono {n m : Nat} (h : n ≤ m) : (2 : Nat) ^ n ≤ 2 ^ m := Nat.pow_le_pow_right (by decide) h
theorem Sz.up {n m : Nat} {r : Rat} (h : Sz n r) (hn : n ≤ m) : Sz m r := ⟨Nat.lt_of_lt_of_le h.1 (pow_mono hn), Nat.lt_of_lt_of_le h.2 (pow_mono hn)⟩
theorem mulOk_of {i j : Int} {n m : Nat} (h1 : i.natAbs < 2 ^ n) (h2 : j.natAbs < 2 ^ m) (hn : n ≤ 1000) (hm : m ≤ 1000) : mulOk i j :=
  .inr (.inr ⟨Nat.lt_of_lt_of_le h1 (pow_mono hn), Nat.lt_of_lt_of_le h2 (pow_mono hm)⟩)
theorem den_abs (r : Rat) : ((r.den : Int)).natAbs = r.den := Int.natAbs_natCast r.den
theorem fr_mk (t b : Nat) (h : 0 < b) : mkRat (t : Int) b = mkRat ((t / Nat.gcd t b : Nat) : Int) (b / Nat.gcd t b) := by
  have hg : 0 < Nat.gcd t b := Nat.gcd_pos_of_pos_right t h
  have e := Rat.mkRat_mul_left (n := ((t / Nat.gcd t b : Nat) : Int)) (d := b / Nat.gcd t b) (a := Nat.gcd t b) (by omega)
  rw [← e]
  congr 1
  · have := Nat.mul_div_cancel' (Nat.gcd_dvd_left t b)
    exact_mod_cast this.symm
  · exact (Nat.mul_div_cancel' (Nat.gcd_dvd_right t b)).symm
theorem num_mk (t b : Nat) (h : 0 < b) : (mkRat (t : Int) b).num = ((t / Nat.gcd t b : Nat) : Int) := by
  rw [Rat.num_mkRat, if_neg (by omega), Int.natAbs_natCast, Nat.gcd_comm]
  rfl
theorem den_mk (t b : Nat) (h : 0 < b) : (mkRat (t : Int) b).den = b / Nat.gcd t b := by
  rw [Rat.den_mkRat, if_neg (by omega), Int.natAbs_natCast, Nat.gcd_comm]
theorem sz_mk {t b n : Nat} (h : 0 < b) (ht : t < 2 ^ n) (hb : b < 2 ^ n) : Sz n (mkRat (t : Int) b) := by
  constructor
  · rw [num_mk t b h, Int.natAbs_natCast]
    exact Nat.lt_of_le_of_lt (Nat.div_le_self _ _) ht
  · rw [den_mk t b h]
    exact Nat.lt_of_le_of_lt (Nat.div_le_self _ _) hb
theorem frR_mk (t b : Nat) (h : 0 < b) : frR (mkRat (t : Int) b) = .tuple [natD (t / Nat.gcd t b), natD (b / Nat.gcd t b)] := by
  unfold frR
  rw [num_mk t b h, den_mk t b h]
  rfl
theorem fin_rt (d : PyData) : fin (.rt d) = some d := rfl
theorem f_fraction {t b n : Nat} (h : 0 < b) (hb : b < 2 ^ n) (hn : n ≤ 1000) : F_fraction_of [natD t, natD b] = some (frR (mkRat (t : Int) b)) := by
  have hb1 : b < 2 ^ 1000 := Nat.lt_of_lt_of_le hb (pow_mono hn)
  have hg : 0 < Nat.gcd t b := Nat.gcd_pos_of_pos_right t h
  have hgb : Nat.gcd t b ≤ b := Nat.le_of_dvd h (Nat.gcd_dvd_right t b)
  have h1 : eqD (natD b) (.int 0) = some (.bool false) := by
    unfold natD
    rw [eq_ii, decide_eq_false (by omega)]
  have h2 : F_common_of [natD t, natD b] = some (natD (Nat.gcd t b)) := f_common (Nat.lt_of_lt_of_le hb1 (pow_mono (by decide)))
  have h3 : ltD (natD b) (.int 0) = some (.bool false) := by
    unfold natD
    rw [lt_ii, decide_eq_false (by omega)]
  have hgi : 0 < ((Nat.gcd t b : Nat) : Int) ∧ ((Nat.gcd t b : Nat) : Int) < 2 ^ 1000 := ⟨by omega, pow1000 (by omega) (by rw [Int.toNat_natCast]; exact Nat.lt_of_le_of_lt hgb hb1) (Nat.le_refl _)⟩
  have h4 : divD (natD t) (natD (Nat.gcd t b)) = some (natD (t / Nat.gcd t b)) := by
    unfold natD
    rw [div_ii hgi]
    rfl
  have h5 : divD (natD b) (natD (Nat.gcd t b)) = some (natD (b / Nat.gcd t b)) := by
    unfold natD
    rw [div_ii hgi]
    rfl
  rw [r_fraction_of, frR_mk t b h]
  simp only [B_fraction_of, sSeq, sIf, bOf, sPat, pName, sSkip, sRet, fTup, fCall, fCons, fNil, f2, fVar, fC, List.set_cons_succ, List.set_cons_zero, List.getElem?_cons_zero, List.getElem?_cons_succ, Option.bind_some, h1, h2, h3, h4, h5, fin_rt, List.length_cons, List.length_nil]
  rfl
theorem f_below {a b : Rat} {n m : Nat} (ha : Sz n a) (hb : Sz m b) (hn : n ≤ 1000) (hm : m ≤ 1000) : F_frac_below [frR a, frR b] = some (.bool (decide (a < b))) := by
  have m1 : mulOk a.num (b.den : Int) := mulOk_of ha.1 (by rw [den_abs]; exact hb.2) hn hm
  have m2 : mulOk b.num (a.den : Int) := mulOk_of hb.1 (by rw [den_abs]; exact ha.2) hm hn
  rw [r_frac_below]
  simp only [B_frac_below, sRet, f2, fVar, fC, List.getElem?_cons_zero, List.getElem?_cons_succ, Option.bind_some, ix_f0, ix_f1, mul_ii m1, mul_ii m2, lt_ii, fin_rt]
  have e : decide (a.num * (b.den : Int) < b.num * (a.den : Int)) = decide (a < b) := decide_eq_decide.mpr (Rat.lt_iff a b).symm
  rw [e]
theorem fl_below {a b : Rat} {n m : Nat} (ha : Sz n a) (hb : Sz m b) (hn : n ≤ 1000) (hm : m ≤ 1000) : F_law_below [frR a, frR b] = some (.bool (decide (a < b))) := by
  have m1 : mulOk a.num (b.den : Int) := mulOk_of ha.1 (by rw [den_abs]; exact hb.2) hn hm
  have m2 : mulOk b.num (a.den : Int) := mulOk_of hb.1 (by rw [den_abs]; exact ha.2) hm hn
  rw [r_law_below]
  simp only [B_law_below, sRet, f2, fVar, fC, List.getElem?_cons_zero, List.getElem?_cons_succ, Option.bind_some, ix_f0, ix_f1, mul_ii m1, mul_ii m2, lt_ii, fin_rt]
  have e : decide (a.num * (b.den : Int) < b.num * (a.den : Int)) = decide (a < b) := decide_eq_decide.mpr (Rat.lt_iff a b).symm
  rw [e]
theorem nn_num {a : Rat} (h : 0 ≤ a) : ∃ t : Nat, a.num = (t : Int) := ⟨a.num.toNat, (Int.toNat_of_nonneg (Rat.num_nonneg.mpr h)).symm⟩
theorem mul_lt_pow {a b n m : Nat} (h1 : a < 2 ^ n) (h2 : b < 2 ^ m) : a * b < 2 ^ (n + m) := by
  rw [Nat.pow_add]
  exact Nat.mul_lt_mul'' h1 h2
/-- the product of two fractions of 0 or more -/
theorem f_times {a b : Rat} {n m : Nat} (a0 : 0 ≤ a) (b0 : 0 ≤ b) (ha : Sz n a) (hb : Sz m b) (hn : n ≤ 400) (hm : m ≤ 400) : F_frac_times [frR a, frR b] = some (frR (a * b)) ∧ Sz (n + m) (a * b) := by
  obtain ⟨t, ht⟩ := nn_num a0
  obtain ⟨u, hu⟩ := nn_num b0
  have z1 := ha.1
  have z2 := hb.1
  rw [ht, Int.natAbs_natCast] at z1
  rw [hu, Int.natAbs_natCast] at z2
  have m1 : mulOk (t : Int) (u : Int) := mulOk_of (by rw [Int.natAbs_natCast]; exact z1) (by rw [Int.natAbs_natCast]; exact z2) (Nat.le_trans hn (by decide)) (Nat.le_trans hm (by decide))
  have m2 : mulOk (a.den : Int) (b.den : Int) := mulOk_of (by rw [den_abs]; exact ha.2) (by rw [den_abs]; exact hb.2) (Nat.le_trans hn (by decide)) (Nat.le_trans hm (by decide))
  have hd : 0 < a.den * b.den := Nat.mul_pos a.den_pos b.den_pos
  have hdl : a.den * b.den < 2 ^ (n + m) := mul_lt_pow ha.2 hb.2
  have e : a * b = mkRat ((t * u : Nat) : Int) (a.den * b.den) := by
    rw [Rat.mul_def', ht, hu, Int.natCast_mul]
  have k : F_fraction_of [.int ((t : Int) * (u : Int)), .int ((a.den : Int) * (b.den : Int))] = some (frR (a * b)) := by
    have q := f_fraction (t := t * u) hd hdl (by omega)
    rw [← e] at q
    unfold natD at q
    rw [Int.natCast_mul, Int.natCast_mul] at q
    exact q
  refine ⟨?_, ?_⟩
  · rw [r_frac_times]
    simp only [B_frac_times, sRet, fCall, fCons, fNil, f2, fVar, fC, List.getElem?_cons_zero, List.getElem?_cons_succ, Option.bind_some, ix_f0, ix_f1, ht, hu, mul_ii m1, mul_ii m2, k, fin_rt]
  · rw [e]
    exact sz_mk hd (mul_lt_pow z1 z2) hdl
theorem f_sum {a b : Rat} {n m : Nat} (a0 : 0 ≤ a) (b0 : 0 ≤ b) (ha : Sz n a) (hb : Sz m b) (hn : n ≤ 400) (hm : m ≤ 400) : F_frac_sum [frR a, frR b] = some (frR (a + b)) ∧ Sz (n + m + 1) (a + b) := by
  obtain ⟨t, ht⟩ := nn_num a0
  obtain ⟨u, hu⟩ := nn_num b0
  have z1 := ha.1
  have z2 := hb.1
  rw [ht, Int.natAbs_natCast] at z1
  rw [hu, Int.natAbs_natCast] at z2
  have m1 : mulOk (t : Int) (b.den : Int) := mulOk_of (by rw [Int.natAbs_natCast]; exact z1) (by rw [den_abs]; exact hb.2) (Nat.le_trans hn (by decide)) (Nat.le_trans hm (by decide))
  have m2 : mulOk (u : Int) (a.den : Int) := mulOk_of (by rw [Int.natAbs_natCast]; exact z2) (by rw [den_abs]; exact ha.2) (Nat.le_trans hm (by decide)) (Nat.le_trans hn (by decide))
  have m3 : mulOk (a.den : Int) (b.den : Int) := mulOk_of (by rw [den_abs]; exact ha.2) (by rw [den_abs]; exact hb.2) (Nat.le_trans hn (by decide)) (Nat.le_trans hm (by decide))
  have hd : 0 < a.den * b.den := Nat.mul_pos a.den_pos b.den_pos
  have hdl : a.den * b.den < 2 ^ (n + m) := mul_lt_pow ha.2 hb.2
  have p1 : t * b.den < 2 ^ (n + m) := mul_lt_pow z1 hb.2
  have p2 : u * a.den < 2 ^ (n + m) := by
    have := mul_lt_pow z2 ha.2
    rwa [Nat.add_comm m n] at this
  have pp : 2 ^ (n + m + 1) = 2 ^ (n + m) + 2 ^ (n + m) := by rw [Nat.pow_succ, Nat.mul_two]
  have e : a + b = mkRat ((t * b.den + u * a.den : Nat) : Int) (a.den * b.den) := by
    rw [Rat.add_def', ht, hu, Int.natCast_add, Int.natCast_mul, Int.natCast_mul]
  have k : F_fraction_of [.int ((t : Int) * (b.den : Int) + (u : Int) * (a.den : Int)), .int ((a.den : Int) * (b.den : Int))] = some (frR (a + b)) := by
    have q := f_fraction (t := t * b.den + u * a.den) hd hdl (by omega)
    rw [← e] at q
    unfold natD at q
    rw [Int.natCast_add, Int.natCast_mul, Int.natCast_mul, Int.natCast_mul] at q
    exact q
  refine ⟨?_, ?_⟩
  · rw [r_frac_sum]
    simp only [B_frac_sum, sRet, fCall, fCons, fNil, f2, fVar, fC, List.getElem?_cons_zero, List.getElem?_cons_succ, Option.bind_some, ix_f0, ix_f1, ht, hu, mul_ii m1, mul_ii m2, mul_ii m3, add_ii, k, fin_rt]
  · rw [e]
    exact sz_mk hd (by rw [pp]; omega) (by rw [pp]; omega)
theorem f_whole (i : Int) : F_is_whole [.int i] = some (.bool true) := rfl
theorem f_isfrac {r : Rat} {n : Nat} (h0 : 0 ≤ r) (h : Sz n r) (hn : n ≤ 1000) : F_is_fraction [frR r] = some (.bool true) := by
  obtain ⟨t, ht⟩ := nn_num h0
  have h2 : F_common_of [.int (t : Int), .int (r.den : Int)] = some (natD 1) := by
    have q := f_common (a := t) (b := r.den) (Nat.lt_of_lt_of_le h.2 (pow_mono (by omega)))
    have e : Nat.gcd t r.den = 1 := by
      have z := r.reduced
      rw [ht, Int.natAbs_natCast] at z
      exact z
    rw [e] at q
    exact q
  have h3 : geD (.int (r.den : Int)) (.int 1) = some (.bool true) := by
    rw [ge_ii, decide_eq_true (by have := r.den_pos; omega)]
  rw [r_is_fraction]
  have e1 : isiD "tuple" (frR r) = some (.bool true) := rfl
  have e2 : lenD [frR r] = some (.int 2) := rfl
  have e3 : eqD (natD 1) (.int 1) = some (.bool true) := eq_ii 1 1
  simp only [B_is_fraction, sSeq, sIf, bOf, bOr, bNot, sSkip, sRet, fCall, fCons, fNil, f1, f2, fVar, fC, fAnd, List.getElem?_cons_zero, List.getElem?_cons_succ, Option.bind_some, ix_f0, ix_f1, ht, e1, e2, e3, ne_ii, f_whole, h2, h3, fin_rt, decide_true, Bool.not_true]
/-- a worth -/
structure Wo (r : Rat) : Prop where
  nn : 0 ≤ r
  le : r ≤ 1
  sz : Sz 40 r
theorem f_isworth {r : Rat} (h : Wo r) : F_is_worth [frR r] = some (.bool true) := by
  have h1 : F_is_fraction [frR r] = some (.bool true) := f_isfrac h.nn h.sz (by decide)
  have h2 : geD (.int r.num) (.int 0) = some (.bool true) := by
    rw [ge_ii, decide_eq_true (Rat.num_nonneg.mpr h.nn)]
  have h3 : leD (.int r.num) (.int (r.den : Int)) = some (.bool true) := by
    rw [le_ii, decide_eq_true]
    have z := (Rat.le_iff r 1).mp h.le
    simpa using z
  rw [r_is_worth]
  simp only [B_is_worth, sRet, fCall, fCons, fNil, f2, fVar, fC, fAnd, List.getElem?_cons_zero, Option.bind_some, ix_f0, ix_f1, h1, h2, h3, fin_rt]
theorem f_isweight {r : Rat} {n : Nat} (h0 : 0 ≤ r) (h : Sz n r) (hn : n ≤ 1000) : F_is_weight [frR r] = some (.bool true) := by
  have h1 : F_is_fraction [frR r] = some (.bool true) := f_isfrac h0 h hn
  have h2 : geD (.int r.num) (.int 0) = some (.bool true) := by
    rw [ge_ii, decide_eq_true (Rat.num_nonneg.mpr h0)]
  rw [r_is_weight]
  simp only [B_is_weight, sRet, fCall, fCons, fNil, f2, fVar, fC, fAnd, List.getElem?_cons_zero, Option.bind_some, ix_f0, h1, h2, fin_rt]
/-! the law's own fractions -/
theorem euclidL : ∀ (n : Nat) (x y : PyData) (a b : Nat), b < n → ∃ f, whileD (bOf (f2 gtD (fVar 3) (fC (.int 0)))) (sPar 2 3 (fVar 3) (f2 modD (fVar 2) (fVar 3))) n [.val x, .val y, .val (natD a), .val (natD b)] = some (.nx [.val x, .val y, .val (natD (Nat.gcd a b)), f])
  | 0, x, y, a, b, h => absurd h (Nat.not_lt_zero _)
  | n + 1, x, y, a, b, h => by
    by_cases hb : b = 0
    · subst hb
      refine ⟨.val (natD 0), ?_⟩
      rw [Nat.gcd_zero_right]
      rfl
    · have hb' : 0 < (b : Int) := by omega
      obtain ⟨f, hf⟩ := euclidL n x y b (a % b) (Nat.lt_of_lt_of_le (Nat.mod_lt a (Nat.pos_of_ne_zero hb)) (Nat.lt_succ_iff.mp h))
      refine ⟨f, ?_⟩
      have e1 : (bOf (f2 gtD (fVar 3) (fC (.int 0)))) [.val x, .val y, .val (natD a), .val (natD b)] = some true := by
        show (gtD (natD b) (.int 0)).bind _ = _
        unfold natD
        rw [gt_ii, decide_eq_true hb']
        rfl
      have e2 : (sPar 2 3 (fVar 3) (f2 modD (fVar 2) (fVar 3))) [.val x, .val y, .val (natD a), .val (natD b)] = some (.nx [.val x, .val y, .val (natD b), .val (natD (a % b))]) := by
        show (modD (natD a) (natD b)).bind _ = _
        unfold natD
        rw [mod_ii hb']
        rfl
      show (bOf _ _).bind _ = _
      rw [e1]
      show (sPar 2 3 _ _ _).bind _ = _
      rw [e2]
      show whileD _ _ n _ = _
      rw [hf, Nat.gcd_comm a b, Nat.gcd_rec b a, Nat.gcd_comm (a % b) b]
theorem fl_frac {t b n : Nat} (h : 0 < b) (hb : b < 2 ^ n) (hn : n ≤ 1000) : F_law_frac [natD t, natD b] = some (frR (mkRat (t : Int) b)) := by
  have hb1 : b < 2 ^ 1000 := Nat.lt_of_lt_of_le hb (pow_mono hn)
  have hg : 0 < Nat.gcd t b := Nat.gcd_pos_of_pos_right t h
  have hgb : Nat.gcd t b ≤ b := Nat.le_of_dvd h (Nat.gcd_dvd_right t b)
  have hgi : 0 < ((Nat.gcd t b : Nat) : Int) ∧ ((Nat.gcd t b : Nat) : Int) < 2 ^ 1000 := ⟨by omega, pow1000 (by omega) (by rw [Int.toNat_natCast]; exact Nat.lt_of_le_of_lt hgb hb1) (Nat.le_refl _)⟩
  have h4 : divD (natD t) (natD (Nat.gcd t b)) = some (natD (t / Nat.gcd t b)) := by
    unfold natD
    rw [div_ii hgi]
    rfl
  have h5 : divD (natD b) (natD (Nat.gcd t b)) = some (natD (b / Nat.gcd t b)) := by
    unfold natD
    rw [div_ii hgi]
    rfl
  have ha : ∀ n : Nat, absD [natD n] = some (natD n) := fun n => by
    show some (PyData.int (if (n : Int) < 0 then _ else _)) = _
    rw [if_neg (by omega)]
    rfl
  have h3 : ltD (natD b) (.int 0) = some (.bool false) := by
    unfold natD
    rw [lt_ii, decide_eq_false (by omega)]
  obtain ⟨f, hf⟩ := euclidL fuel (natD t) (natD b) t b (Nat.lt_of_lt_of_le hb1 (pow_mono (by decide)))
  have hw : (sWhile (bOf (f2 gtD (fVar 3) (fC (.int 0)))) (sPar 2 3 (fVar 3) (f2 modD (fVar 2) (fVar 3)))) [.val (natD t), .val (natD b), .val (natD t), .val (natD b)] = some (.nx [.val (natD t), .val (natD b), .val (natD (Nat.gcd t b)), f]) := hf
  rw [r_law_frac, frR_mk t b h]
  unfold B_law_frac
  generalize sWhile (bOf (f2 gtD (fVar 3) (fC (.int 0)))) (sPar 2 3 (fVar 3) (f2 modD (fVar 2) (fVar 3))) = W at hw ⊢
  simp only [sSeq, sIf, bOf, sPat, pName, sSkip, sRet, fTup, fCall, fCons, fNil, f2, fVar, fC, List.set_cons_succ, List.set_cons_zero, List.getElem?_cons_zero, List.getElem?_cons_succ, Option.bind_some, ha, hw, h3, h4, h5, fin_rt, List.length_cons, List.length_nil]
  rfl
theorem fl_mul {a b : Rat} {n m : Nat} (a0 : 0 ≤ a) (b0 : 0 ≤ b) (ha : Sz n a) (hb : Sz m b) (hn : n ≤ 400) (hm : m ≤ 400) : F_law_mul [frR a, frR b] = some (frR (a * b)) := by
  obtain ⟨t, ht⟩ := nn_num a0
  obtain ⟨u, hu⟩ := nn_num b0
  have z1 := ha.1
  have z2 := hb.1
  rw [ht, Int.natAbs_natCast] at z1
  rw [hu, Int.natAbs_natCast] at z2
  have m1 : mulOk (t : Int) (u : Int) := mulOk_of (by rw [Int.natAbs_natCast]; exact z1) (by rw [Int.natAbs_natCast]; exact z2) (Nat.le_trans hn (by decide)) (Nat.le_trans hm (by decide))
  have m2 : mulOk (a.den : Int) (b.den : Int) := mulOk_of (by rw [den_abs]; exact ha.2) (by rw [den_abs]; exact hb.2) (Nat.le_trans hn (by decide)) (Nat.le_trans hm (by decide))
  have hd : 0 < a.den * b.den := Nat.mul_pos a.den_pos b.den_pos
  have hdl : a.den * b.den < 2 ^ (n + m) := mul_lt_pow ha.2 hb.2
  have e : a * b = mkRat ((t * u : Nat) : Int) (a.den * b.den) := by
    rw [Rat.mul_def', ht, hu, Int.natCast_mul]
  have k : F_law_frac [.int ((t : Int) * (u : Int)), .int ((a.den : Int) * (b.den : Int))] = some (frR (a * b)) := by
    have q := fl_frac (t := t * u) hd hdl (by omega)
    rw [← e] at q
    unfold natD at q
    rw [Int.natCast_mul, Int.natCast_mul] at q
    exact q
  rw [r_law_mul]
  simp only [B_law_mul, sRet, fCall, fCons, fNil, f2, fVar, fC, List.getElem?_cons_zero, List.getElem?_cons_succ, Option.bind_some, ix_f0, ix_f1, ht, hu, mul_ii m1, mul_ii m2, k, fin_rt]
theorem fl_add {a b : Rat} {n m : Nat} (a0 : 0 ≤ a) (b0 : 0 ≤ b) (ha : Sz n a) (hb : Sz m b) (hn : n ≤ 400) (hm : m ≤ 400) : F_law_add [frR a, frR b] = some (frR (a + b)) := by
  obtain ⟨t, ht⟩ := nn_num a0
  obtain ⟨u, hu⟩ := nn_num b0
  have z1 := ha.1
  have z2 := hb.1
  rw [ht, Int.natAbs_natCast] at z1
  rw [hu, Int.natAbs_natCast] at z2
  have m1 : mulOk (t : Int) (b.den : Int) := mulOk_of (by rw [Int.natAbs_natCast]; exact z1) (by rw [den_abs]; exact hb.2) (Nat.le_trans hn (by decide)) (Nat.le_trans hm (by decide))
  have m2 : mulOk (u : Int) (a.den : Int) := mulOk_of (by rw [Int.natAbs_natCast]; exact z2) (by rw [den_abs]; exact ha.2) (Nat.le_trans hm (by decide)) (Nat.le_trans hn (by decide))
  have m3 : mulOk (a.den : Int) (b.den : Int) := mulOk_of (by rw [den_abs]; exact ha.2) (by rw [den_abs]; exact hb.2) (Nat.le_trans hn (by decide)) (Nat.le_trans hm (by decide))
  have hd : 0 < a.den * b.den := Nat.mul_pos a.den_pos b.den_pos
  have hdl : a.den * b.den < 2 ^ (n + m) := mul_lt_pow ha.2 hb.2
  have e : a + b = mkRat ((t * b.den + u * a.den : Nat) : Int) (a.den * b.den) := by
    rw [Rat.add_def', ht, hu, Int.natCast_add, Int.natCast_mul, Int.natCast_mul]
  have k : F_law_frac [.int ((t : Int) * (b.den : Int) + (u : Int) * (a.den : Int)), .int ((a.den : Int) * (b.den : Int))] = some (frR (a + b)) := by
    have q := fl_frac (t := t * b.den + u * a.den) hd hdl (by omega)
    rw [← e] at q
    unfold natD at q
    rw [Int.natCast_add, Int.natCast_mul, Int.natCast_mul, Int.natCast_mul] at q
    exact q
  rw [r_law_add]
  simp only [B_law_add, sRet, fCall, fCons, fNil, f2, fVar, fC, List.getElem?_cons_zero, List.getElem?_cons_succ, Option.bind_some, ix_f0, ix_f1, ht, hu, mul_ii m1, mul_ii m2, mul_ii m3, add_ii, k, fin_rt]
/-! equality -/
theorem shaped_fr (r : Rat) : SeqAt.shaped (frR r) = true := rfl
theorem eqv_fr (a b : Rat) : PyData.eqv (frR a) (frR b) = decide (a = b) := by
  show ((a.num == b.num) && (((a.den : Int) == (b.den : Int)) && true)) = _
  rw [Bool.and_true, Bool.eq_iff_iff]
  simp only [Bool.and_eq_true, beq_iff_eq, decide_eq_true_eq]
  constructor
  · rintro ⟨h1, h2⟩
    exact Rat.ext h1 (by omega)
  · rintro rfl
    exact ⟨rfl, rfl⟩
theorem eq_fr (a b : Rat) : eqD (frR a) (frR b) = some (.bool (decide (a = b))) := by
  unfold eqD
  rw [if_pos ⟨shaped_fr a, shaped_fr b⟩, eqv_fr]
theorem ne_fr (a b : Rat) : neD (frR a) (frR b) = some (.bool (!decide (a = b))) := by
  unfold neD
  rw [if_pos ⟨shaped_fr a, shaped_fr b⟩, eqv_fr]
end DL

set_option Elab.async false
set_option linter.all false
set_option maxRecDepth 100000
set_option maxHeartbeats 4000000
/-! Srt: lists made by putting in one thing after another; the k-th greatest; what a rule makes of worths. Plain lists. -/
namespace DL
section
variable {α : Type}
/-- x put in behind as many as there are that le lets ahead of it -/
def insBy (le : α → α → Bool) (found : List α) (x : α) : List α := found.take (found.filter fun o => le o x).length ++ [x] ++ found.drop (found.filter fun o => le o x).length
def sortBy (le : α → α → Bool) (xs : List α) : List α := xs.foldl (insBy le) []
theorem sortBy_snoc (le : α → α → Bool) (xs : List α) (x : α) : sortBy le (xs ++ [x]) = insBy le (sortBy le xs) x := by
  unfold sortBy
  rw [List.foldl_append]
  rfl
theorem split_filter {p : α → Bool} : ∀ {xs : List α}, xs.Pairwise (fun a b => p b = true → p a = true) → xs.take (xs.filter p).length = xs.filter p ∧ xs.drop (xs.filter p).length = xs.filter fun x => !p x
  | [], _ => ⟨rfl, rfl⟩
  | x :: r, h => by
    obtain ⟨h1, h2⟩ := List.pairwise_cons.mp h
    obtain ⟨i1, i2⟩ := split_filter h2
    cases q : p x with
    | true =>
      rw [List.filter_cons, if_pos q, List.filter_cons, q]
      refine ⟨?_, ?_⟩
      · show x :: r.take (r.filter p).length = _
        rw [i1]
      · show r.drop (r.filter p).length = _
        rw [i2]
        rfl
    | false =>
      have none : ∀ b ∈ r, p b = false := fun b hb => by
        cases z : p b with
        | false => rfl
        | true =>
          rw [h1 b hb z] at q
          cases q
      have e : r.filter p = [] := List.filter_eq_nil_iff.mpr fun b hb => by rw [none b hb]; decide
      have e2 : (r.filter fun x => !p x) = r := List.filter_eq_self.mpr fun b hb => by rw [none b hb]; rfl
      rw [List.filter_cons, if_neg (by rw [q]; decide), e, List.filter_cons, q]
      refine ⟨rfl, ?_⟩
      show x :: r = x :: _
      rw [e2]
theorem ins_perm (le : α → α → Bool) (found : List α) (x : α) : (insBy le found x).Perm (found ++ [x]) := by
  unfold insBy
  generalize (found.filter fun o => le o x).length = k
  have h : (found.take k ++ [x] ++ found.drop k).Perm (found.take k ++ (found.drop k ++ [x])) := by
    rw [List.append_assoc]
    exact List.Perm.append_left _ List.perm_append_comm
  rw [← List.append_assoc, List.take_append_drop] at h
  exact h
theorem sort_fold {S : α → α → Prop} {le : α → α → Bool} (tr : ∀ a b x, S a b → le b x = true → le a x = true) : ∀ (post acc : List α), acc.Pairwise S →
    (∀ o ∈ acc, ∀ x ∈ post, (le o x = true → S o x) ∧ (le o x = false → S x o)) → post.Pairwise (fun o x => (le o x = true → S o x) ∧ (le o x = false → S x o)) →
    (post.foldl (insBy le) acc).Pairwise S ∧ (post.foldl (insBy le) acc).Perm (acc ++ post)
  | [], acc, h, _, _ => ⟨h, by rw [List.append_nil]; exact .refl _⟩
  | x :: r, acc, h, h1, h2 => by
    obtain ⟨h3, h4⟩ := List.pairwise_cons.mp h2
    have pf : acc.Pairwise (fun a b => le b x = true → le a x = true) := h.imp fun {a b} s => tr a b x s
    obtain ⟨e1, e2⟩ := split_filter (p := fun o => le o x) pf
    have hi : (insBy le acc x).Pairwise S := by
      unfold insBy
      rw [e1, e2, List.append_assoc]
      refine List.pairwise_append.mpr ⟨h.filter _, List.pairwise_cons.mpr ⟨fun b hb => ?_, h.filter _⟩, fun a ha b hb => ?_⟩
      · obtain ⟨m, q⟩ := List.mem_filter.mp hb
        exact (h1 b m x List.mem_cons_self).2 (by simpa using q)
      · obtain ⟨m, q⟩ := List.mem_filter.mp ha
        have sax : S a x := (h1 a m x List.mem_cons_self).1 q
        rcases List.mem_cons.mp hb with rfl | hb
        · exact sax
        · obtain ⟨m2, q2⟩ := List.mem_filter.mp hb
          have := h
          -- a stands ahead of b in acc: le a x, not le b x
          have key : ∀ {l : List α}, l.Pairwise S → l.Pairwise (fun a b => le b x = true → le a x = true) → a ∈ l → b ∈ l → S a b := by
            intro l
            induction l with
            | nil => intro _ _ z; cases z
            | cons c l ih =>
              intro p1 p2 ma mb
              obtain ⟨u1, u2⟩ := List.pairwise_cons.mp p1
              obtain ⟨v1, v2⟩ := List.pairwise_cons.mp p2
              rcases List.mem_cons.mp ma with ea | ma
              · rcases List.mem_cons.mp mb with eb | mb
                · rw [ea, ← eb] at q
                  rw [q] at q2
                  cases q2
                · rw [ea]
                  exact u1 b mb
              · rcases List.mem_cons.mp mb with eb | mb
                · have := v1 a ma q
                  rw [← eb] at this
                  rw [this] at q2
                  cases q2
                · exact ih u2 v2 ma mb
          exact key h pf m m2
    have hp : (insBy le acc x).Perm (acc ++ [x]) := ins_perm le acc x
    obtain ⟨r1, r2⟩ := sort_fold tr r (insBy le acc x) hi (fun o ho y hy => by
      have m := hp.mem_iff.mp ho
      rcases List.mem_append.mp m with m | m
      · exact h1 o m y (List.mem_cons_of_mem _ hy)
      · rw [List.mem_singleton.mp m]
        exact h3 y hy) h4
    refine ⟨r1, r2.trans ?_⟩
    have := hp.append_right r
    rw [List.append_assoc] at this
    exact this
theorem sort_ok {S : α → α → Prop} {le : α → α → Bool} (tr : ∀ a b x, S a b → le b x = true → le a x = true) {xs : List α} (h : xs.Pairwise (fun o x => (le o x = true → S o x) ∧ (le o x = false → S x o))) :
    (sortBy le xs).Pairwise S ∧ (sortBy le xs).Perm xs := sort_fold tr xs [] .nil (fun _ z => nomatch z) h
theorem ins_congr {le le' : α → α → Bool} {found : List α} {x : α} (h : ∀ o ∈ found, le o x = le' o x) : insBy le found x = insBy le' found x := by
  unfold insBy
  rw [List.filter_congr h]
theorem sort_congr {le le' : α → α → Bool} : ∀ (post acc : List α), (∀ o ∈ acc, ∀ x ∈ post, le o x = le' o x) → post.Pairwise (fun o x => le o x = le' o x) → post.foldl (insBy le) acc = post.foldl (insBy le') acc
  | [], _, _, _ => rfl
  | x :: r, acc, h1, h2 => by
    obtain ⟨h3, h4⟩ := List.pairwise_cons.mp h2
    show r.foldl (insBy le) (insBy le acc x) = r.foldl (insBy le') (insBy le' acc x)
    rw [← ins_congr fun o ho => h1 o ho x List.mem_cons_self]
    refine sort_congr r _ (fun o ho y hy => ?_) h4
    rcases List.mem_append.mp ((ins_perm le acc x).mem_iff.mp ho) with m | m
    · exact h1 o m y (List.mem_cons_of_mem _ hy)
    · rw [List.mem_singleton.mp m]
      exact h3 y hy
theorem sort_len (le : α → α → Bool) (xs : List α) : (sortBy le xs).length = xs.length := by
  have key : ∀ (post acc : List α), (post.foldl (insBy le) acc).length = acc.length + post.length := by
    intro post
    induction post with
    | nil => intro acc; rfl
    | cons x r ih =>
      intro acc
      show (r.foldl (insBy le) (insBy le acc x)).length = _
      rw [ih, (ins_perm le acc x).length_eq, List.length_append, List.length_cons, List.length_nil, List.length_cons]
      omega
  have := key xs []
  rw [List.length_nil, Nat.zero_add] at this
  exact this
theorem sort_perm (le : α → α → Bool) (xs : List α) : (sortBy le xs).Perm xs := by
  have key : ∀ (post acc : List α), (post.foldl (insBy le) acc).Perm (acc ++ post) := by
    intro post
    induction post with
    | nil => intro acc; rw [List.append_nil]; exact .refl _
    | cons x r ih =>
      intro acc
      refine (ih (insBy le acc x)).trans ?_
      have := (ins_perm le acc x).append_right r
      rw [List.append_assoc] at this
      exact this
  exact key xs []
end

/-! ### the order in which a list is read -/
def W (ws : List Rat) (i : Nat) : Rat := ws.getD i 0
def leW (ws : List Rat) (o x : Nat) : Bool := decide (W ws x ≤ W ws o)
def orderR (ws : List Rat) : List Nat := sortBy (leW ws) (List.range ws.length)
/-- a is read ahead of b -/
def Ahd (ws : List Rat) (a b : Nat) : Prop := W ws b < W ws a ∨ (W ws b = W ws a ∧ a < b)
theorem order_ok (ws : List Rat) : (orderR ws).Pairwise (Ahd ws) ∧ (orderR ws).Perm (List.range ws.length) := by
  refine sort_ok (S := Ahd ws) (fun a b x s l => ?_) (List.pairwise_lt_range.imp fun {o x} hlt => ⟨fun l => ?_, fun l => ?_⟩)
  · have l' : W ws x ≤ W ws b := of_decide_eq_true l
    refine decide_eq_true ?_
    rcases s with s | ⟨s, _⟩
    · exact Rat.le_trans l' (Rat.le_of_lt s)
    · rw [← s]; exact l'
  · have l' : W ws x ≤ W ws o := of_decide_eq_true l
    rcases Rat.le_iff_lt_or_eq.mp l' with z | z
    · exact .inl z
    · exact .inr ⟨z, hlt⟩
  · have l' : ¬ W ws x ≤ W ws o := of_decide_eq_false l
    exact .inl (Rat.not_le.mp l')
theorem Ahd.le {ws : List Rat} {a b : Nat} (h : Ahd ws a b) : W ws b ≤ W ws a := by
  rcases h with h | ⟨h, _⟩
  · exact Rat.le_of_lt h
  · rw [h]; exact Rat.le_refl
theorem order_mem {ws : List Rat} {i : Nat} : i ∈ orderR ws ↔ i < ws.length := by
  rw [(order_ok ws).2.mem_iff, List.mem_range]
theorem order_nodup (ws : List Rat) : (orderR ws).Nodup := (order_ok ws).2.nodup_iff.mpr List.nodup_range
theorem order_len (ws : List Rat) : (orderR ws).length = ws.length := by
  rw [(order_ok ws).2.length_eq, List.length_range]

/-! ### greater ones first; lesser ones first -/
def fallR (ws : List Rat) : List Rat := sortBy (fun o x => decide (x ≤ o)) ws
def riseR (ws : List Rat) : List Rat := sortBy (fun o x => decide (o < x)) ws
theorem pw_all {α : Type} {R : α → α → Prop} (h : ∀ a b, R a b) : ∀ xs : List α, xs.Pairwise R
  | [] => .nil
  | x :: r => .cons (fun b _ => h x b) (pw_all h r)
theorem lt_of_le_lt {a b x : Rat} (h : a ≤ b) (l : b < x) : a < x := Rat.not_le.mp fun q => absurd (Rat.le_trans q h) (Rat.not_le.mpr l)
theorem lt_of_lt_le {a b x : Rat} (h : a < b) (l : b ≤ x) : a < x := Rat.not_le.mp fun q => absurd (Rat.le_trans l q) (Rat.not_le.mpr h)
theorem fall_ok (ws : List Rat) : (fallR ws).Pairwise (fun a b => b ≤ a) ∧ (fallR ws).Perm ws := by
  refine sort_ok (S := fun a b => b ≤ a) (le := fun o x => decide (x ≤ o)) (fun a b x s l => ?_) (pw_all (fun o x => ⟨fun l => ?_, fun l => ?_⟩) ws)
  · have l' : x ≤ b := of_decide_eq_true l
    exact decide_eq_true (Rat.le_trans l' s)
  · exact of_decide_eq_true l
  · have l' : ¬ x ≤ o := of_decide_eq_false l
    exact Rat.le_of_lt (Rat.not_le.mp l')
theorem rise_ok (ws : List Rat) : (riseR ws).Pairwise (fun a b => a ≤ b) ∧ (riseR ws).Perm ws := by
  refine sort_ok (S := fun a b => a ≤ b) (le := fun o x => decide (o < x)) (fun a b x s l => ?_) (pw_all (fun o x => ⟨fun l => ?_, fun l => ?_⟩) ws)
  · have l' : b < x := of_decide_eq_true l
    exact decide_eq_true (lt_of_le_lt s l')
  · have l' : o < x := of_decide_eq_true l
    exact Rat.le_of_lt l'
  · have l' : ¬ o < x := of_decide_eq_false l
    exact Rat.not_lt.mp l'
theorem rise_fall (ws : List Rat) : riseR ws = (fallR ws).reverse := by
  have h1 := rise_ok ws
  have h2 := fall_ok ws
  refine List.Perm.eq_of_pairwise (le := fun a b => a ≤ b) (fun a b _ _ x y => Rat.le_antisymm x y) h1.1 (List.pairwise_reverse.mpr h2.1) (h1.2.trans (h2.2.symm.trans (List.reverse_perm _).symm))
theorem fall_len (ws : List Rat) : (fallR ws).length = ws.length := (fall_ok ws).2.length_eq
theorem rise_len (ws : List Rat) : (riseR ws).length = ws.length := (rise_ok ws).2.length_eq
/-! ### one by one no greater -/
inductive LeA : List Rat → List Rat → Prop
  | nil : LeA [] []
  | cons {x y : Rat} {xs ys : List Rat} : x ≤ y → LeA xs ys → LeA (x :: xs) (y :: ys)
theorem LeA.len : ∀ {xs ys : List Rat}, LeA xs ys → xs.length = ys.length
  | _, _, .nil => rfl
  | _, _, .cons _ h => congrArg (· + 1) h.len
theorem LeA.refl : ∀ xs : List Rat, LeA xs xs
  | [] => .nil
  | x :: r => .cons Rat.le_refl (LeA.refl r)
theorem count_mono {v : Rat} : ∀ {xs ys : List Rat}, LeA xs ys → xs.countP (fun x => decide (v ≤ x)) ≤ ys.countP (fun x => decide (v ≤ x))
  | _, _, .nil => Nat.le_refl _
  | _, _, .cons (x := x) (y := y) h r => by
    have i := count_mono (v := v) r
    rw [List.countP_cons, List.countP_cons]
    by_cases q : v ≤ x
    · have q2 : v ≤ y := Rat.le_trans q h
      rw [if_pos (decide_eq_true q), if_pos (decide_eq_true q2)]
      omega
    · rw [if_neg (by rw [decide_eq_false q]; decide)]
      omega
/-- in a falling list the k-th is no less than v just where more than k are no less -/
theorem kth_ge {L : List Rat} (h : L.Pairwise (fun a b => b ≤ a)) {k : Nat} {x v : Rat} (hx : L[k]? = some x) : v ≤ x ↔ k < L.countP (fun y => decide (v ≤ y)) := by
  obtain ⟨hk, e⟩ := List.getElem?_eq_some_iff.mp hx
  have d : L = L.take k ++ x :: L.drop (k + 1) := by
    rw [← e, ← List.drop_eq_getElem_cons hk, List.take_append_drop]
  have hp := h
  rw [d] at hp
  obtain ⟨p1, p2, p3⟩ := List.pairwise_append.mp hp
  obtain ⟨p4, _⟩ := List.pairwise_cons.mp p2
  have c : L.countP (fun y => decide (v ≤ y)) = (L.take k).countP (fun y => decide (v ≤ y)) + (x :: L.drop (k + 1)).countP (fun y => decide (v ≤ y)) := by
    conv => lhs; rw [d]
    exact List.countP_append
  have lt : (L.take k).length = k := by rw [List.length_take]; omega
  constructor
  · intro hv
    have a1 : (L.take k).countP (fun y => decide (v ≤ y)) = k := by
      rw [List.countP_eq_length.mpr fun y hy => decide_eq_true (Rat.le_trans hv (p3 y hy x List.mem_cons_self)), lt]
    rw [c, a1, List.countP_cons, if_pos (decide_eq_true hv)]
    omega
  · intro hc
    refine Classical.byContradiction fun hv => ?_
    have hv' : x < v := Rat.not_le.mp hv
    have a1 : (L.take k).countP (fun y => decide (v ≤ y)) ≤ k := by
      have := List.countP_le_length (p := fun y => decide (v ≤ y)) (l := L.take k)
      omega
    have a2 : (x :: L.drop (k + 1)).countP (fun y => decide (v ≤ y)) = 0 := by
      refine List.countP_eq_zero.mpr fun y hy => ?_
      have hyx : y ≤ x := by
        rcases List.mem_cons.mp hy with rfl | hy
        · exact Rat.le_refl
        · exact p4 y hy
      simp only [decide_eq_true_eq]
      intro z
      exact hv (Rat.le_trans z hyx)
    rw [c, a2] at hc
    omega
theorem kth_mono {xs ys : List Rat} (h : LeA xs ys) {k : Nat} {x y : Rat} (hx : (fallR xs)[k]? = some x) (hy : (fallR ys)[k]? = some y) : x ≤ y := by
  have fx := fall_ok xs
  have fy := fall_ok ys
  rw [kth_ge fy.1 hy]
  have h1 := (kth_ge fx.1 hx).mp (Rat.le_refl (a := x))
  rw [fx.2.countP_eq] at h1
  rw [fy.2.countP_eq]
  exact Nat.lt_of_lt_of_le h1 (count_mono h)

/-! ### rules -/
inductive Rule where
  | least
  | greatest
  | product
  | middle (k : Nat)
  | shares (ws : List Rat)
def placeR : Rule → Nat → Nat
  | .middle k, _ => k
  | .least, n => n
  | _, _ => 1
def shareR (t : Rat) (p : Rat × Rat) : Rat := t + p.1 * p.2
def worthR : Rule → List Rat → Rat
  | .shares ws, xs => (ws.zip xs).foldl shareR 0
  | .product, xs => xs.foldl (fun t x => t * x) 1
  | r, xs => (fallR xs).getD (placeR r xs.length - 1) 0
/-- a rule for n lists -/
def Rok (n : Nat) : Rule → Prop
  | .middle k => 1 ≤ k ∧ k ≤ n
  | .shares ws => ws.length = n ∧ ∀ w ∈ ws, 0 ≤ w ∧ Sz 3 w
  | _ => True
theorem share_mono : ∀ {ws xs ys : List Rat} {s t : Rat}, (∀ w ∈ ws, 0 ≤ w) → LeA xs ys → s ≤ t → (ws.zip xs).foldl shareR s ≤ (ws.zip ys).foldl shareR t
  | [], _, _, s, t, _, _, h => h
  | _ :: _, _, _, s, t, _, .nil, h => h
  | w :: ws, _, _, s, t, hw, .cons (x := x) (y := y) h r, hs => by
    refine share_mono (ws := ws) (fun v hv => hw v (List.mem_cons_of_mem _ hv)) r ?_
    show s + w * x ≤ t + w * y
    have h1 : w * x ≤ w * y := Rat.mul_le_mul_of_nonneg_left h (hw w List.mem_cons_self)
    exact Rat.le_trans (Rat.add_le_add_left.mpr h1) (Rat.add_le_add_right.mpr hs)
theorem prod_mono : ∀ {xs ys : List Rat} {s t : Rat}, (∀ x ∈ xs, 0 ≤ x) → LeA xs ys → 0 ≤ s → s ≤ t → xs.foldl (fun t x => t * x) s ≤ ys.foldl (fun t x => t * x) t
  | [], [], s, t, _, .nil, _, h => h
  | x :: xs, y :: ys, s, t, hx, .cons h r, h0, hs => by
    have x0 : 0 ≤ x := hx x List.mem_cons_self
    have t0 : 0 ≤ t := Rat.le_trans h0 hs
    refine prod_mono (xs := xs) (ys := ys) (fun v hv => hx v (List.mem_cons_of_mem _ hv)) r (Rat.mul_nonneg h0 x0) ?_
    exact Rat.le_trans (Rat.mul_le_mul_of_nonneg_right hs x0) (Rat.mul_le_mul_of_nonneg_left h t0)
theorem worth_mono {r : Rule} {n : Nat} {xs ys : List Rat} (hr : Rok n r) (hn : xs.length = n) (n0 : 0 < n) (h : LeA xs ys) (h0 : ∀ x ∈ xs, 0 ≤ x) : worthR r xs ≤ worthR r ys := by
  have key : ∀ p : Nat, p - 1 < xs.length → (fallR xs).getD (p - 1) 0 ≤ (fallR ys).getD (p - 1) 0 := fun p hp => by
    have l1 : p - 1 < (fallR xs).length := by rw [fall_len]; exact hp
    have l2 : p - 1 < (fallR ys).length := by rw [fall_len, ← h.len]; exact hp
    have e1 : (fallR xs)[p - 1]? = some ((fallR xs)[p - 1]) := List.getElem?_eq_getElem l1
    have e2 : (fallR ys)[p - 1]? = some ((fallR ys)[p - 1]) := List.getElem?_eq_getElem l2
    rw [List.getD_eq_getElem?_getD, List.getD_eq_getElem?_getD, e1, e2]
    exact kth_mono h e1 e2
  have hl := h.len
  cases r with
  | shares ws => exact share_mono (fun w hw => (hr.2 w hw).1) h Rat.le_refl
  | product => exact prod_mono h0 h (by decide) Rat.le_refl
  | least =>
    show (fallR xs).getD (xs.length - 1) 0 ≤ (fallR ys).getD (ys.length - 1) 0
    rw [← hl]
    exact key xs.length (by omega)
  | greatest => exact key 1 (by omega)
  | middle k =>
    obtain ⟨k1, k2⟩ := hr
    exact key k (by omega)
end DL

set_option Elab.async false
set_option linter.all false
set_option maxRecDepth 100000
set_option maxHeartbeats 4000000
set_option exponentiation.threshold 3000
/-! Tls: the functions of data applied. -/
namespace DL
open PySem
def appK (i : Nat) (δ : DEnv) (ds : List PyData) (d : PyData) : Option Res := if ds.length ≤ 1000 then some (.nx (δ.set i (.own (ds ++ [d])))) else none
def insK (i : Nat) (δ : DEnv) (ds : List PyData) (x d : PyData) : Option Res := match x with
  | .int n => if ds.length ≤ 1000 ∧ 0 ≤ n ∧ n ≤ 1000 then some (.nx (δ.set i (.own (ds.take n.toNat ++ [d] ++ ds.drop n.toNat)))) else none
  | _ => none
section
variable (a b c : FE) (r : FA) (s t : FS) (x y : FT) (δ : DEnv) (i j : Nat) (d : PyData)
theorem sSeq_ap : sSeq s t δ = (s δ).bind fun q => match q with
  | .nx δ' => t δ'
  | .rt d => some (.rt d)
  | .bk δ' => some (.bk δ')
  | .ct δ' => some (.ct δ') := id rfl
theorem sIf_ap : sIf x s t δ = (x δ).bind fun q => match q with
  | true => s δ
  | false => t δ := id rfl
theorem bOf_ap : bOf a δ = (a δ).bind fun q => match q with
  | .bool u => some u
  | _ => none := id rfl
theorem bAnd_ap : bAnd x y δ = (x δ).bind fun q => match q with
  | true => y δ
  | false => some false := id rfl
theorem bOr_ap : bOr x y δ = (x δ).bind fun q => match q with
  | true => some true
  | false => y δ := id rfl
theorem bNot_ap : bNot x δ = (x δ).bind fun q => some (!q) := id rfl
theorem bYes_ap : bYes δ = some true := id rfl
theorem fAnd_ap : fAnd a b δ = (a δ).bind fun q => match q with
  | .bool true => b δ
  | .bool false => some (.bool false)
  | _ => none := id rfl
theorem fOr_ap : fOr a b δ = (a δ).bind fun q => match q with
  | .bool true => some (.bool true)
  | .bool false => b δ
  | _ => none := id rfl
theorem fNot_ap : fNot a δ = (a δ).bind fun q => match q with
  | .bool u => some (.bool (!u))
  | _ => none := id rfl
theorem fIf_ap : fIf x a b δ = (x δ).bind fun q => match q with
  | true => a δ
  | false => b δ := id rfl
theorem sPat_ap (p : FP) : sPat p a δ = (a δ).bind fun d => (p d δ).bind fun δ' => some (.nx δ') := id rfl
theorem pName_ap : pName j d δ = some (δ.set j (.val d)) := id rfl
theorem pTup_ap (js : List Nat) (ds : List PyData) : pTup js (.tuple ds) δ = setAll js ds δ := id rfl
theorem sSkip_ap : sSkip δ = some (.nx δ) := id rfl
theorem sRet_ap : sRet a δ = (a δ).bind fun d => some (.rt d) := id rfl
theorem sOwn_ap : sOwn i r δ = (r δ).bind fun ds => some (.nx (δ.set i (.own ds))) := id rfl
theorem sFrz_ap (is : List Nat) : sFrz is s δ = s (frz is δ) := id rfl
theorem sApp_ap : sApp i a δ = match δ[i]? with
  | some (.own ds) => (a δ).bind fun d => appK i δ ds d
  | _ => none := id rfl
theorem sIns_ap : sIns i a b δ = match δ[i]? with
  | some (.own ds) => (a δ).bind fun x => (b δ).bind fun d => insK i δ ds x d
  | _ => none := id rfl
theorem sDo_ap : sDo a δ = (a δ).bind fun _ => some (.nx δ) := id rfl
theorem fTup_ap : fTup r δ = (r δ).bind fun xs => if xs.length ≤ 1000 then some (.tuple xs) else none := id rfl
theorem fLstN_ap : fLstN r δ = (r δ).bind fun xs => if xs.length ≤ 1000 then some xs else none := id rfl
theorem fList_ap : fList r δ = (r δ).bind fun xs => some (.list xs) := id rfl
theorem fCall_ap (g : Fd) : fCall g r δ = (r δ).bind g := id rfl
theorem fCons_ap : fCons a r δ = (a δ).bind fun x => (r δ).bind fun xs => some (x :: xs) := id rfl
theorem fNil_ap : fNil δ = some [] := id rfl
theorem f1_ap (g : PyData → Option PyData) : f1 g a δ = (a δ).bind g := id rfl
theorem f2_ap (g : PyData → PyData → Option PyData) : f2 g a b δ = (a δ).bind fun x => (b δ).bind fun y => g x y := id rfl
theorem fVar_ap : fVar i δ = match δ[i]? with
  | some (.val d) => some d
  | _ => none := id rfl
theorem fC_ap : fC d δ = some d := id rfl
theorem sFor_ap (p : FP) : sFor r p s δ = (r δ).bind fun ds => forD p s ds δ := id rfl
theorem dList_ap : dList a δ = (a δ).bind fun x => match x with
  | .list ds => some ds
  | _ => none := id rfl
theorem dEnum_ap : dEnum a δ = (a δ).bind fun x => match x with
  | .list ds => some (enumD 0 ds)
  | _ => none := id rfl
theorem dVar_ap : dVar i δ = match δ[i]? with
  | some (.val (.list ds)) => some ds
  | some (.own ds) => some ds
  | _ => none := id rfl
theorem dZip_ap : dZip a b δ = (a δ).bind fun x => (b δ).bind fun y => match x, y with
  | .list xs, .list ys => some (zipD xs ys)
  | _, _ => none := id rfl
end
theorem leng0 : ([] : List PyData).length = 0 := id rfl
theorem leng1 (a : PyData) : [a].length = 1 := id rfl
theorem leng2 (a b : PyData) : [a, b].length = 2 := id rfl
theorem leng3 (a b c : PyData) : [a, b, c].length = 3 := id rfl
theorem leng4 (a b c d : PyData) : [a, b, c, d].length = 4 := id rfl
theorem if10 {α : Type} (a b : α) : (if (0 : Nat) ≤ 1000 then a else b) = a := if_pos (by decide)
theorem if11 {α : Type} (a b : α) : (if (1 : Nat) ≤ 1000 then a else b) = a := if_pos (by decide)
theorem if12 {α : Type} (a b : α) : (if (2 : Nat) ≤ 1000 then a else b) = a := if_pos (by decide)
theorem if13 {α : Type} (a b : α) : (if (3 : Nat) ≤ 1000 then a else b) = a := if_pos (by decide)
theorem if14 {α : Type} (a b : α) : (if (4 : Nat) ≤ 1000 then a else b) = a := if_pos (by decide)
theorem app_eq (i : Nat) (δ : DEnv) {ds : List PyData} (d : PyData) (h : ds.length ≤ 1000) : appK i δ ds d = some (.nx (δ.set i (.own (ds ++ [d])))) := if_pos h
theorem app_map {α : Type} (i : Nat) (δ : DEnv) {f : α → PyData} {xs : List α} (h : xs.length ≤ 1000) (x : α) : appK i δ (xs.map f) (f x) = some (.nx (δ.set i (.own ((xs ++ [x]).map f)))) := by
  rw [app_eq i δ (f x) (by rw [List.length_map]; exact h), List.map_append, List.map_cons, List.map_nil]
theorem ins_eq {α : Type} (i : Nat) (δ : DEnv) {f : α → PyData} {found : List α} {le : α → α → Bool} (h : found.length ≤ 1000) (x : α) :
    insK i δ (found.map f) (natD (found.filter fun o => le o x).length) (f x) = some (.nx (δ.set i (.own ((insBy le found x).map f)))) := by
  have hf := List.length_filter_le (fun o => le o x) found
  show (if (found.map f).length ≤ 1000 ∧ (0 : Int) ≤ ((found.filter fun o => le o x).length : Int) ∧ ((found.filter fun o => le o x).length : Int) ≤ 1000 then _ else _) = _
  refine (if_pos ⟨by rw [List.length_map]; exact h, by omega, by omega⟩).trans ?_
  rw [Int.toNat_natCast]
  unfold insBy
  rw [List.map_append, List.map_append, List.map_take, List.map_drop]
  rfl
theorem fin_nx (δ : DEnv) : fin (.nx δ) = some .none := id rfl
theorem range_map {α : Type} (n : Nat) : (List.range n).map (fun k => PyData.int (0 + (k : Nat))) = (List.range n).map natD := by
  refine List.map_congr_left fun k _ => ?_
  unfold natD
  rw [Int.zero_add]
theorem dRange_ap (a : FE) (δ : DEnv) {n : Nat} (h : a δ = some (natD n)) (hn : n ≤ 900) : dRange1 a δ = some ((List.range n).map natD) := by
  have c : (n : Int).natAbs < 1000 := by omega
  unfold dRange1
  rw [h, Option.bind_some]
  unfold natD
  refine (if_pos c).trans ?_
  rw [Int.toNat_natCast]
  exact congrArg some (range_map (α := Nat) n)
theorem dRange2_ap (a b : FE) (δ : DEnv) {m n : Nat} (h : a δ = some (natD m)) (h2 : b δ = some (natD n)) (hm : m ≤ 900) (hn : n ≤ 900) : dRange2 a b δ = some ((List.range (n - m)).map fun k => natD (m + k)) := by
  have c : (m : Int).natAbs < 1000 ∧ (n : Int).natAbs < 1000 := ⟨by omega, by omega⟩
  unfold dRange2
  rw [h, h2, Option.bind_some, Option.bind_some]
  unfold natD
  refine (if_pos c).trans ?_
  congr 1
  have e : ((n : Int) - (m : Int)).toNat = n - m := by omega
  rw [e]
  refine List.map_congr_left fun k _ => ?_
  rw [Int.natCast_add]
theorem len_list (ds : List PyData) : lenD [.list ds] = some (natD ds.length) := rfl
theorem len_tup (ds : List PyData) : lenD [.tuple ds] = some (natD ds.length) := rfl
theorem len_map {α : Type} (f : α → PyData) (xs : List α) : lenD [.list (xs.map f)] = some (natD xs.length) := by rw [len_list, List.length_map]
theorem lt_nn (i j : Nat) : ltD (natD i) (natD j) = some (.bool (decide (i < j))) := by
  unfold natD
  rw [lt_ii]
  congr 2
  exact decide_eq_decide.mpr (by omega)
theorem le_nn (i j : Nat) : leD (natD i) (natD j) = some (.bool (decide (i ≤ j))) := by
  unfold natD
  rw [le_ii]
  congr 2
  exact decide_eq_decide.mpr (by omega)
theorem gt_nn (i j : Nat) : gtD (natD i) (natD j) = some (.bool (decide (j < i))) := by
  unfold natD
  rw [gt_ii]
  congr 2
  exact decide_eq_decide.mpr (by omega)
theorem ge_nn (i j : Nat) : geD (natD i) (natD j) = some (.bool (decide (j ≤ i))) := by
  unfold natD
  rw [ge_ii]
  congr 2
  exact decide_eq_decide.mpr (by omega)
theorem eq_nn (i j : Nat) : eqD (natD i) (natD j) = some (.bool (decide (i = j))) := by
  unfold natD
  rw [eq_ii]
  congr 2
  exact decide_eq_decide.mpr (by omega)
theorem ne_nn (i j : Nat) : neD (natD i) (natD j) = some (.bool (!decide (i = j))) := by
  unfold natD
  rw [ne_ii]
  congr 3
  exact decide_eq_decide.mpr (by omega)
theorem add_nn (i j : Nat) : addD (natD i) (natD j) = some (natD (i + j)) := by
  unfold natD
  rw [add_ii, Int.natCast_add]
theorem sub_nn {i j : Nat} (h : j ≤ i) : subD (natD i) (natD j) = some (natD (i - j)) := by
  unfold natD
  rw [sub_ii, Int.ofNat_sub h]
theorem mod_nn {i j : Nat} (h : 0 < j) : modD (natD i) (natD j) = some (natD (i % j)) := by
  unfold natD
  rw [mod_ii (by omega)]
  rfl
theorem div_nn {i j : Nat} (h : 0 < j) (h2 : j < 2 ^ 60) : divD (natD i) (natD j) = some (natD (i / j)) := by
  unfold natD
  rw [div_ii ⟨by omega, pow1000 (n := 60) (by omega) (by rw [Int.toNat_natCast]; exact h2) (by decide)⟩]
  rfl
theorem mul_nn {i j : Nat} (h : i < 2 ^ 60 ∨ j < 2 ^ 60) : mulD (natD i) (natD j) = some (natD (i * j)) := by
  unfold natD
  rw [mul_ii (by
    rcases h with h | h
    · exact .inl (by rw [Int.natAbs_natCast]; exact h)
    · exact .inr (.inl (by rw [Int.natAbs_natCast]; exact h))), Int.natCast_mul]
theorem int_nat (n : Nat) : PyData.int (n : Int) = natD n := rfl
theorem int_0 : PyData.int 0 = natD 0 := rfl
theorem int_1 : PyData.int 1 = natD 1 := rfl
theorem int_2 : PyData.int 2 = natD 2 := rfl
theorem int_3 : PyData.int 3 = natD 3 := rfl
theorem int_4 : PyData.int 4 = natD 4 := rfl
theorem int_8 : PyData.int 8 = natD 8 := rfl
theorem int_12 : PyData.int 12 = natD 12 := rfl
theorem to_nat (ds : List PyData) (n : Nat) : toD (.list ds) (natD n) = some (.list (ds.take n)) := by
  show (if 0 ≤ (n : Int) then some (PyData.list (ds.take (n : Int).toNat)) else none) = _
  rw [if_pos (by omega), Int.toNat_natCast]
theorem to_map {α : Type} (f : α → PyData) (xs : List α) (n : Nat) : toD (.list (xs.map f)) (natD n) = some (.list ((xs.take n).map f)) := by
  rw [to_nat, List.map_take]
theorem whole_n (n : Nat) : F_is_whole [natD n] = some (.bool true) := f_whole _
def pairD (p : Nat × Nat) : PyData := .tuple [natD p.1, natD p.2]
/-- a value of data without dicts, of that depth -/
def Shp (n : Nat) (d : PyData) : Prop := d.canLay0 = true ∧ d.depth ≤ n
theorem Shp.shaped {n : Nat} {d : PyData} (h : Shp n d) (hn : n ≤ 64) : SeqAt.shaped d = true := Bool.and_eq_true_iff.mpr ⟨h.1, decide_eq_true (Nat.le_trans h.2 hn)⟩
theorem shp_all {n : Nat} : ∀ {ds : List PyData}, (∀ d ∈ ds, Shp n d) → PyData.canLayAll0 ds = true ∧ PyData.depthAll ds ≤ n
  | [], _ => ⟨rfl, Nat.zero_le _⟩
  | d :: r, h => by
    have h1 := h d List.mem_cons_self
    have h2 := shp_all (ds := r) fun e he => h e (List.mem_cons_of_mem _ he)
    simp only [PyData.canLayAll0, PyData.depthAll, h1.1, h2.1, Bool.and_self, true_and]
    have := h1.2
    have := h2.2
    omega
theorem shp_list {n : Nat} {ds : List PyData} (h : ∀ d ∈ ds, Shp n d) : Shp (n + 1) (.list ds) := by
  have q := shp_all h
  refine ⟨by simp only [PyData.canLay0]; exact q.1, ?_⟩
  simp only [PyData.depth]
  have := q.2
  omega
theorem shp_tup {n : Nat} {ds : List PyData} (h : ∀ d ∈ ds, Shp n d) : Shp (n + 1) (.tuple ds) := by
  have q := shp_all h
  refine ⟨by simp only [PyData.canLay0]; exact q.1, ?_⟩
  simp only [PyData.depth]
  have := q.2
  omega
theorem shp_map {α : Type} {f : α → PyData} {n : Nat} (h : ∀ a, Shp n (f a)) (xs : List α) : Shp (n + 1) (.list (xs.map f)) := shp_list fun d hd => by
  obtain ⟨a, _, rfl⟩ := List.mem_map.mp hd
  exact h a
theorem shp_n (n : Nat) : Shp 0 (natD n) := ⟨rfl, Nat.le_refl 0⟩
theorem shp_p (p : Nat × Nat) : Shp 1 (pairD p) := shp_tup fun d hd => by
  rcases List.mem_cons.mp hd with rfl | hd
  · exact shp_n _
  · rw [List.mem_singleton.mp hd]
    exact shp_n _
theorem shp_fr (r : Rat) : Shp 1 (frR r) := ⟨rfl, by simp only [frR, PyData.depth, PyData.depthAll]; decide⟩
theorem any_eqv {α : Type} [DecidableEq α] {f : α → PyData} (h : ∀ a b, PyData.eqv (f a) (f b) = decide (a = b)) (x : α) (xs : List α) : ((xs.map f).any fun z => PyData.eqv z (f x)) = decide (x ∈ xs) := by
  induction xs with
  | nil => rfl
  | cons a r ih =>
    rw [List.map_cons, List.any_cons, ih, h, Bool.eq_iff_iff]
    simp only [Bool.or_eq_true, decide_eq_true_eq, List.mem_cons]
    constructor
    · rintro (h | h)
      · exact .inl h.symm
      · exact .inr h
    · rintro (h | h)
      · exact .inl h.symm
      · exact .inr h
theorem in_map {α : Type} [DecidableEq α] {f : α → PyData} {n : Nat} (hn : n < 64) (hs : ∀ a, Shp n (f a)) (h : ∀ a b, PyData.eqv (f a) (f b) = decide (a = b)) (x : α) (xs : List α) : inD (f x) (.list (xs.map f)) = some (.bool (decide (x ∈ xs))) := by
  show (if SeqAt.shaped (f x) = true ∧ SeqAt.shaped (.list (xs.map f)) = true then some (PyData.bool _) else none) = _
  rw [if_pos ⟨(hs x).shaped (by omega), (shp_map hs xs).shaped hn⟩, any_eqv h]
theorem notin_map {α : Type} [DecidableEq α] {f : α → PyData} {n : Nat} (hn : n < 64) (hs : ∀ a, Shp n (f a)) (h : ∀ a b, PyData.eqv (f a) (f b) = decide (a = b)) (x : α) (xs : List α) : notInD (f x) (.list (xs.map f)) = some (.bool (!decide (x ∈ xs))) := by
  show (if SeqAt.shaped (f x) = true ∧ SeqAt.shaped (.list (xs.map f)) = true then some (PyData.bool _) else none) = _
  rw [if_pos ⟨(hs x).shaped (by omega), (shp_map hs xs).shaped hn⟩, any_eqv h]
theorem eqv_n (a b : Nat) : PyData.eqv (natD a) (natD b) = decide (a = b) := by
  unfold natD
  rw [eqv_int]
  exact decide_eq_decide.mpr (by omega)
theorem in_n (x : Nat) (xs : List Nat) : inD (natD x) (.list (xs.map natD)) = some (.bool (decide (x ∈ xs))) := in_map (by decide) shp_n eqv_n x xs
theorem notin_n (x : Nat) (xs : List Nat) : notInD (natD x) (.list (xs.map natD)) = some (.bool (!decide (x ∈ xs))) := notin_map (by decide) shp_n eqv_n x xs
theorem eqv_p (a b : Nat × Nat) : PyData.eqv (pairD a) (pairD b) = decide (a = b) := by
  show (PyData.eqv (natD a.1) (natD b.1) && (PyData.eqv (natD a.2) (natD b.2) && true)) = _
  rw [eqv_n, eqv_n, Bool.and_true, Bool.eq_iff_iff]
  simp only [Bool.and_eq_true, decide_eq_true_eq]
  exact ⟨fun h => Prod.ext h.1 h.2, fun h => by rw [h]; exact ⟨rfl, rfl⟩⟩
theorem in_p (x : Nat × Nat) (xs : List (Nat × Nat)) : inD (pairD x) (.list (xs.map pairD)) = some (.bool (decide (x ∈ xs))) := by
  rw [in_map (by decide) shp_p eqv_p x xs]
  congr 2
  exact decide_eq_decide.mpr Iff.rfl
theorem all_true (n : Nat) : allD [.list (List.replicate n (.bool true))] = some (.bool true) := by
  have key : ∀ n, bools? (List.replicate n (.bool true)) = some (List.replicate n true) := by
    intro n
    induction n with
    | zero => rfl
    | succ n ih =>
      show (bools? (List.replicate n (.bool true))).bind _ = _
      rw [ih]
      rfl
  show (bools? _).bind _ = _
  rw [key]
  show some (PyData.bool ((List.replicate n true).all id)) = _
  congr 2
  rw [List.all_eq_true]
  intro x hx
  exact (List.mem_replicate.mp hx).2
theorem all_map {α : Type} (xs : List α) : allD [.list (xs.map fun _ => PyData.bool true)] = some (.bool true) := by
  rw [List.map_const', all_true]
theorem sort_fold_len {α : Type} (le : α → α → Bool) (pr : List α) (x : α) : sortBy le (pr ++ [x]) = insBy le (sortBy le pr) x := sortBy_snoc le pr x
end DL

set_option Elab.async false
set_option linter.all false
set_option maxRecDepth 100000
set_option maxHeartbeats 4000000
set_option exponentiation.threshold 3000
/-! Eq1: books, rules, worths by a rule. -/
namespace DL
open PySem
theorem nought_fr : nought = frR 0 := rfl
theorem one_fr : one = frR 1 := rfl
theorem isi_list (ds : List PyData) : isiD "list" (.list ds) = some (.bool true) := rfl
theorem isi_tup (ds : List PyData) : isiD "tuple" (.tuple ds) = some (.bool true) := rfl
theorem isi_str (s : Str) : isiD "str" (.str s) = some (.bool true) := rfl
theorem not_lt_dec (a b : Rat) : (!decide (a < b)) = decide (b ≤ a) := by
  rw [Bool.eq_iff_iff]
  simp only [Bool.not_eq_true', decide_eq_false_iff_not, decide_eq_true_eq]
  exact Rat.not_lt
theorem fTup_eq {r : FA} {δ : DEnv} {ds : List PyData} (h : r δ = some ds) (hl : ds.length ≤ 1000) : fTup r δ = some (.tuple ds) := by
  rw [fTup_ap, h]
  exact if_pos hl
/-- a book of that many things -/
structure Bok (m : Nat) (b : List (List Rat)) : Prop where
  n1 : 1 ≤ b.length
  n2 : b.length ≤ 4
  m1 : 1 ≤ m
  m2 : m ≤ 12
  row : ∀ r ∈ b, r.length = m
  wo : ∀ r ∈ b, ∀ w ∈ r, Wo w
theorem Bok.hd {m : Nat} {b : List (List Rat)} (h : Bok m b) : ∃ r, b[0]? = some r ∧ r ∈ b ∧ r.length = m := by
  have h1 := h.n1
  refine ⟨b[0], List.getElem?_eq_getElem (by omega), List.getElem_mem _, h.row _ (List.getElem_mem _)⟩
theorem ix_book {b : List (List Rat)} {n : Nat} {r : List Rat} (h : b[n]? = some r) : ixD (bookD b) (natD n) = some (rowD r) := ix_map h
theorem ix_row {r : List Rat} {n : Nat} {w : Rat} (h : r[n]? = some w) : ixD (rowD r) (natD n) = some (frR w) := ix_map h
theorem len_book (b : List (List Rat)) : lenD [bookD b] = some (natD b.length) := len_map _ _
theorem len_row (b : List Rat) : lenD [rowD b] = some (natD b.length) := len_map _ _
theorem isi_book (b : List (List Rat)) : isiD "list" (bookD b) = some (.bool true) := rfl
theorem isi_row (b : List Rat) : isiD "list" (rowD b) = some (.bool true) := rfl
theorem f_are_worths {r : List Rat} (h : ∀ w ∈ r, Wo w) (hl : r.length ≤ 12) : F_are_worths [rowD r, natD r.length] = some (.bool true) := by
  have c : fComp (dVar 0) (pName 2) bYes (fCall F_is_worth (fCons (fVar 2) fNil)) [2] [.val (rowD r), .val (natD r.length), .no] = some (r.map fun _ => PyData.bool true) :=
    comp_map (enc := frR) _ r rfl (by omega) fun x hx => ⟨_, rfl, by simp only [sSeq_ap, sIf_ap, bOf_ap, bAnd_ap, bOr_ap, bNot_ap, bYes_ap, fAnd_ap, fOr_ap, fNot_ap, fIf_ap, sPat_ap, pName_ap, pTup_ap, setAll, sSkip_ap, sRet_ap, sOwn_ap, sFrz_ap, frz, frz1, sApp_ap, sIns_ap, sDo_ap, fTup_ap, fLstN_ap, fList_ap, fCall_ap, fCons_ap, fNil_ap, f1_ap, f2_ap, fVar_ap, fC_ap, sFor_ap, List.foldl_cons, List.foldl_nil, List.set_cons_succ, List.set_cons_zero, List.getElem?_cons_zero, List.getElem?_cons_succ, Option.bind_some, fin_rt, fin_nx, Bool.not_true, Bool.not_false, wipeD, nought_fr, one_fr, int_0, int_1, int_2, int_3, int_4, int_8, int_12, len_list, len_tup, len_map, isi_list, isi_tup, isi_str, lt_nn, le_nn, gt_nn, ge_nn, eq_nn, ne_nn, add_nn, whole_n, List.length_map, decide_true, decide_false, leng0, leng1, leng2, leng3, leng4, if_true, if_false, eq_self, Nat.reduceEqDiff, Nat.reduceLT, Nat.reduceLeDiff, f_isworth (h x hx)]⟩
  rw [r_are_worths]
  simp only [B_are_worths, sSeq_ap, sIf_ap, bOf_ap, bAnd_ap, bOr_ap, bNot_ap, bYes_ap, fAnd_ap, fOr_ap, fNot_ap, fIf_ap, sPat_ap, pName_ap, pTup_ap, setAll, sSkip_ap, sRet_ap, sOwn_ap, sFrz_ap, frz, frz1, sApp_ap, sIns_ap, sDo_ap, fTup_ap, fLstN_ap, fList_ap, fCall_ap, fCons_ap, fNil_ap, f1_ap, f2_ap, fVar_ap, fC_ap, sFor_ap, List.foldl_cons, List.foldl_nil, List.set_cons_succ, List.set_cons_zero, List.getElem?_cons_zero, List.getElem?_cons_succ, Option.bind_some, fin_rt, fin_nx, Bool.not_true, Bool.not_false, wipeD, nought_fr, one_fr, int_0, int_1, int_2, int_3, int_4, int_8, int_12, len_list, len_tup, len_map, isi_list, isi_tup, isi_str, lt_nn, le_nn, gt_nn, ge_nn, eq_nn, ne_nn, add_nn, whole_n, List.length_map, decide_true, decide_false, leng0, leng1, leng2, leng3, leng4, if_true, if_false, eq_self, Nat.reduceEqDiff, Nat.reduceLT, Nat.reduceLeDiff, c, isi_row, len_row, all_map, decide_true]
theorem f_is_book {m : Nat} {b : List (List Rat)} (h : Bok m b) : F_is_book [bookD b] = some (.bool true) := by
  obtain ⟨r, h1, h2, h3⟩ := h.hd
  have c : fComp (dVar 0) (pName 2) bYes (fCall F_are_worths (fCons (fVar 2) (fCons (fVar 1) fNil))) [2] [.val (bookD b), .val (natD m), .no] = some (b.map fun _ => PyData.bool true) :=
    comp_map (enc := rowD) _ b rfl (by have := h.n2; omega) fun x hx => ⟨_, rfl, by
      have q := f_are_worths (h.wo x hx) (by rw [h.row x hx]; exact h.m2)
      rw [h.row x hx] at q
      simp only [sSeq_ap, sIf_ap, bOf_ap, bAnd_ap, bOr_ap, bNot_ap, bYes_ap, fAnd_ap, fOr_ap, fNot_ap, fIf_ap, sPat_ap, pName_ap, pTup_ap, setAll, sSkip_ap, sRet_ap, sOwn_ap, sFrz_ap, frz, frz1, sApp_ap, sIns_ap, sDo_ap, fTup_ap, fLstN_ap, fList_ap, fCall_ap, fCons_ap, fNil_ap, f1_ap, f2_ap, fVar_ap, fC_ap, sFor_ap, List.foldl_cons, List.foldl_nil, List.set_cons_succ, List.set_cons_zero, List.getElem?_cons_zero, List.getElem?_cons_succ, Option.bind_some, fin_rt, fin_nx, Bool.not_true, Bool.not_false, wipeD, nought_fr, one_fr, int_0, int_1, int_2, int_3, int_4, int_8, int_12, len_list, len_tup, len_map, isi_list, isi_tup, isi_str, lt_nn, le_nn, gt_nn, ge_nn, eq_nn, ne_nn, add_nn, whole_n, List.length_map, decide_true, decide_false, leng0, leng1, leng2, leng3, leng4, if_true, if_false, eq_self, Nat.reduceEqDiff, Nat.reduceLT, Nat.reduceLeDiff, q]⟩
  have n1 := h.n1
  have n2 := h.n2
  rw [r_is_book]
  simp only [B_is_book, sSeq_ap, sIf_ap, bOf_ap, bAnd_ap, bOr_ap, bNot_ap, bYes_ap, fAnd_ap, fOr_ap, fNot_ap, fIf_ap, sPat_ap, pName_ap, pTup_ap, setAll, sSkip_ap, sRet_ap, sOwn_ap, sFrz_ap, frz, frz1, sApp_ap, sIns_ap, sDo_ap, fTup_ap, fLstN_ap, fList_ap, fCall_ap, fCons_ap, fNil_ap, f1_ap, f2_ap, fVar_ap, fC_ap, sFor_ap, List.foldl_cons, List.foldl_nil, List.set_cons_succ, List.set_cons_zero, List.getElem?_cons_zero, List.getElem?_cons_succ, Option.bind_some, fin_rt, fin_nx, Bool.not_true, Bool.not_false, wipeD, nought_fr, one_fr, int_0, int_1, int_2, int_3, int_4, int_8, int_12, len_list, len_tup, len_map, isi_list, isi_tup, isi_str, lt_nn, le_nn, gt_nn, ge_nn, eq_nn, ne_nn, add_nn, whole_n, List.length_map, decide_true, decide_false, leng0, leng1, leng2, leng3, leng4, if_true, if_false, eq_self, Nat.reduceEqDiff, Nat.reduceLT, Nat.reduceLeDiff, isi_book, len_book, ix_book h1, isi_row, len_row, h3, decide_eq_false (show ¬ b.length < 1 by omega), decide_eq_false (show ¬ 4 < b.length by omega), decide_eq_true h.m1, decide_eq_true h.m2, c, all_map]
theorem f_look_at_book {m : Nat} {b : List (List Rat)} (h : Bok m b) : F_look_at_book [bookD b] = some .none := by
  rw [r_look_at_book]
  simp only [B_look_at_book, sSeq_ap, sIf_ap, bOf_ap, bAnd_ap, bOr_ap, bNot_ap, bYes_ap, fAnd_ap, fOr_ap, fNot_ap, fIf_ap, sPat_ap, pName_ap, pTup_ap, setAll, sSkip_ap, sRet_ap, sOwn_ap, sFrz_ap, frz, frz1, sApp_ap, sIns_ap, sDo_ap, fTup_ap, fLstN_ap, fList_ap, fCall_ap, fCons_ap, fNil_ap, f1_ap, f2_ap, fVar_ap, fC_ap, sFor_ap, List.foldl_cons, List.foldl_nil, List.set_cons_succ, List.set_cons_zero, List.getElem?_cons_zero, List.getElem?_cons_succ, Option.bind_some, fin_rt, fin_nx, Bool.not_true, Bool.not_false, wipeD, nought_fr, one_fr, int_0, int_1, int_2, int_3, int_4, int_8, int_12, len_list, len_tup, len_map, isi_list, isi_tup, isi_str, lt_nn, le_nn, gt_nn, ge_nn, eq_nn, ne_nn, add_nn, whole_n, List.length_map, decide_true, decide_false, leng0, leng1, leng2, leng3, leng4, if_true, if_false, eq_self, Nat.reduceEqDiff, Nat.reduceLT, Nat.reduceLeDiff, f_is_book h]
/-- the read order of a list -/
theorem leW_at {r : List Rat} {k : Nat} {w : Rat} (h : r[k]? = some w) : W r k = w := by
  unfold W
  rw [List.getD_eq_getElem?_getD, h]
  rfl
theorem at_W {r : List Rat} {k : Nat} (h : k < r.length) : r[k]? = some (W r k) := by
  unfold W
  rw [List.getD_eq_getElem?_getD, List.getElem?_eq_getElem h]
  rfl
theorem W_wo {r : List Rat} (hr : ∀ w ∈ r, Wo w) {k : Nat} (h : k < r.length) : Wo (W r k) := by
  refine hr _ ?_
  have := at_W h
  exact List.mem_of_getElem? this
theorem order_step {r : List Rat} (hr : ∀ w ∈ r, Wo w) {acc : List Nat} (hin : ∀ o ∈ acc, o < r.length) (hl : acc.length ≤ 100) {k : Nat} {w : Rat} (hk : r[k]? = some w) (x4 x5 : DV) :
    B_order_of_1 [.val (rowD r), .own (acc.map natD), .val (natD k), .val (frR w), x4, x5] = some (.nx [.val (rowD r), .own ((insBy (leW r) acc k).map natD), .val (natD k), .val (frR w), .val (.list ((acc.filter fun o => leW r o k).map natD)), x5]) := by
  have hww : Wo w := hr w (List.mem_of_getElem? hk)
  have c : fComp (dVar 1) (pName 5) (bNot (bOf (fCall F_frac_below (fCons (f2 ixD (fVar 0) (fVar 5)) (fCons (fVar 3) fNil))))) (fVar 5) [5] [.val (rowD r), .own (acc.map natD), .val (natD k), .val (frR w), x4, x5] =
      some ((acc.filter fun o => leW r o k).map natD) := comp_keep (enc := natD) _ _ _ rfl (by omega) fun o ho => ⟨_, rfl, by
        have q := f_below (W_wo hr (hin o ho)).sz hww.sz (by decide) (by decide)
        simp only [sSeq_ap, sIf_ap, bOf_ap, bAnd_ap, bOr_ap, bNot_ap, bYes_ap, fAnd_ap, fOr_ap, fNot_ap, fIf_ap, sPat_ap, pName_ap, pTup_ap, setAll, sSkip_ap, sRet_ap, sOwn_ap, sFrz_ap, frz, frz1, sApp_ap, sIns_ap, sDo_ap, fTup_ap, fLstN_ap, fList_ap, fCall_ap, fCons_ap, fNil_ap, f1_ap, f2_ap, fVar_ap, fC_ap, sFor_ap, List.foldl_cons, List.foldl_nil, List.set_cons_succ, List.set_cons_zero, List.getElem?_cons_zero, List.getElem?_cons_succ, Option.bind_some, fin_rt, fin_nx, Bool.not_true, Bool.not_false, wipeD, nought_fr, one_fr, int_0, int_1, int_2, int_3, int_4, int_8, int_12, len_list, len_tup, len_map, isi_list, isi_tup, isi_str, lt_nn, le_nn, gt_nn, ge_nn, eq_nn, ne_nn, add_nn, whole_n, List.length_map, decide_true, decide_false, leng0, leng1, leng2, leng3, leng4, if_true, if_false, eq_self, Nat.reduceEqDiff, Nat.reduceLT, Nat.reduceLeDiff, ix_row (at_W (hin o ho)), q, not_lt_dec]
        unfold leW
        rw [leW_at hk], fun _ => by simp only [sSeq_ap, sIf_ap, bOf_ap, bAnd_ap, bOr_ap, bNot_ap, bYes_ap, fAnd_ap, fOr_ap, fNot_ap, fIf_ap, sPat_ap, pName_ap, pTup_ap, setAll, sSkip_ap, sRet_ap, sOwn_ap, sFrz_ap, frz, frz1, sApp_ap, sIns_ap, sDo_ap, fTup_ap, fLstN_ap, fList_ap, fCall_ap, fCons_ap, fNil_ap, f1_ap, f2_ap, fVar_ap, fC_ap, sFor_ap, List.foldl_cons, List.foldl_nil, List.set_cons_succ, List.set_cons_zero, List.getElem?_cons_zero, List.getElem?_cons_succ, Option.bind_some, fin_rt, fin_nx, Bool.not_true, Bool.not_false, wipeD, nought_fr, one_fr, int_0, int_1, int_2, int_3, int_4, int_8, int_12, len_list, len_tup, len_map, isi_list, isi_tup, isi_str, lt_nn, le_nn, gt_nn, ge_nn, eq_nn, ne_nn, add_nn, whole_n, List.length_map, decide_true, decide_false, leng0, leng1, leng2, leng3, leng4, if_true, if_false, eq_self, Nat.reduceEqDiff, Nat.reduceLT, Nat.reduceLeDiff]⟩
  simp only [B_order_of_1, sSeq_ap, sIf_ap, bOf_ap, bAnd_ap, bOr_ap, bNot_ap, bYes_ap, fAnd_ap, fOr_ap, fNot_ap, fIf_ap, sPat_ap, pName_ap, pTup_ap, setAll, sSkip_ap, sRet_ap, sOwn_ap, sFrz_ap, frz, frz1, sApp_ap, sIns_ap, sDo_ap, fTup_ap, fLstN_ap, fList_ap, fCall_ap, fCons_ap, fNil_ap, f1_ap, f2_ap, fVar_ap, fC_ap, sFor_ap, List.foldl_cons, List.foldl_nil, List.set_cons_succ, List.set_cons_zero, List.getElem?_cons_zero, List.getElem?_cons_succ, Option.bind_some, fin_rt, fin_nx, Bool.not_true, Bool.not_false, wipeD, nought_fr, one_fr, int_0, int_1, int_2, int_3, int_4, int_8, int_12, len_list, len_tup, len_map, isi_list, isi_tup, isi_str, lt_nn, le_nn, gt_nn, ge_nn, eq_nn, ne_nn, add_nn, whole_n, List.length_map, decide_true, decide_false, leng0, leng1, leng2, leng3, leng4, if_true, if_false, eq_self, Nat.reduceEqDiff, Nat.reduceLT, Nat.reduceLeDiff, c, ins_eq (le := leW r) _ _ (show acc.length ≤ 1000 by omega) k]
/-- a loop that puts one after another in -/
theorem loop_sort {α β : Type} {enc : α → PyData} {encB : β → PyData} {p : FP} {body : FS} {le : β → β → Bool} (f : α → β) (xs : List α) (δ : DEnv) (st : List β → DEnv → Prop) (h0 : st [] δ)
    (hs : ∀ (acc : List β) (x : α) (δ : DEnv), (∀ o ∈ acc, ∃ y ∈ xs, o = f y) → acc.length ≤ xs.length → x ∈ xs → st acc δ → ∃ δ1 δ2, p (enc x) δ = some δ1 ∧ body δ1 = some (.nx δ2) ∧ st (insBy le acc (f x)) δ2) :
    ∃ δ', forD p body (xs.map enc) δ = some (.nx δ') ∧ st (sortBy le (xs.map f)) δ' :=
  for_inv (fun pr δ => st (sortBy le (pr.map f)) δ) h0 fun pr x po δ e i => by
    have hin : ∀ o ∈ sortBy le (pr.map f), ∃ y ∈ xs, o = f y := fun o ho => by
      obtain ⟨a, q1, rfl⟩ := List.mem_map.mp ((sort_perm _ _).mem_iff.mp ho)
      exact ⟨a, by rw [e]; exact List.mem_append_left _ q1, rfl⟩
    have hl : (sortBy le (pr.map f)).length ≤ xs.length := by rw [sort_len, List.length_map, e, List.length_append]; omega
    obtain ⟨δ1, δ2, q1, q2, q3⟩ := hs _ x δ hin hl (by rw [e]; exact List.mem_append_right _ List.mem_cons_self) i
    refine ⟨δ1, δ2, q1, q2, ?_⟩
    rw [List.map_append, List.map_cons, List.map_nil, sortBy_snoc]
    exact q3
theorem f_order {r : List Rat} (hr : ∀ w ∈ r, Wo w) (hl : r.length ≤ 12) : F_order_of [rowD r] = some (natsD (orderR r)) := by
  obtain ⟨δ', h1, x2, x3, x4, x5, h2⟩ := loop_sort (enc := fun p : Rat × Nat => PyData.tuple [.int (p.2 : Int), frR p.1]) (encB := natD) (p := pTup [2, 3]) (body := B_order_of_1) (le := leW r) (·.2) r.zipIdx [.val (rowD r), .own [], .no, .no, .no, .no]
    (fun acc δ => ∃ x2 x3 x4 x5, δ = [.val (rowD r), .own (acc.map natD), x2, x3, x4, x5]) ⟨_, _, _, _, rfl⟩ (by
      rintro acc ⟨w, k⟩ δ ha hal hx ⟨x2, x3, x4, x5, rfl⟩
      have hk : r[k]? = some w := List.mk_mem_zipIdx_iff_getElem?.mp hx
      have hb := order_step hr (acc := acc) (fun o ho => by
        obtain ⟨⟨a, i⟩, q1, rfl⟩ := ha o ho
        exact (List.getElem?_eq_some_iff.mp (List.mk_mem_zipIdx_iff_getElem?.mp q1)).1) (by rw [List.length_zipIdx] at hal; omega) hk x4 x5
      exact ⟨_, _, rfl, hb, _, _, _, _, rfl⟩)
  rw [List.zipIdx_map_snd, ← List.range_eq_range'] at h2
  rw [r_order_of]
  have e1 : dEnum (fVar 0) [.val (rowD r), .own [], .no, .no, .no, .no] = some (r.zipIdx.map fun p : Rat × Nat => PyData.tuple [.int (p.2 : Int), frR p.1]) := by
    rw [← enumD_map]
    rfl
  simp only [B_order_of, sSeq_ap, sIf_ap, bOf_ap, bAnd_ap, bOr_ap, bNot_ap, bYes_ap, fAnd_ap, fOr_ap, fNot_ap, fIf_ap, sPat_ap, pName_ap, pTup_ap, setAll, sSkip_ap, sRet_ap, sOwn_ap, sFrz_ap, frz, frz1, sApp_ap, sIns_ap, sDo_ap, fTup_ap, fLstN_ap, fList_ap, fCall_ap, fCons_ap, fNil_ap, f1_ap, f2_ap, fVar_ap, fC_ap, sFor_ap, List.foldl_cons, List.foldl_nil, List.set_cons_succ, List.set_cons_zero, List.getElem?_cons_zero, List.getElem?_cons_succ, Option.bind_some, fin_rt, fin_nx, Bool.not_true, Bool.not_false, wipeD, nought_fr, one_fr, int_0, int_1, int_2, int_3, int_4, int_8, int_12, len_list, len_tup, len_map, isi_list, isi_tup, isi_str, lt_nn, le_nn, gt_nn, ge_nn, eq_nn, ne_nn, add_nn, whole_n, List.length_map, decide_true, decide_false, leng0, leng1, leng2, leng3, leng4, if_true, if_false, eq_self, Nat.reduceEqDiff, Nat.reduceLT, Nat.reduceLeDiff, e1, h1, h2]
  rfl
end DL

set_option Elab.async false
set_option linter.all false
set_option maxRecDepth 100000
set_option maxHeartbeats 4000000
set_option exponentiation.threshold 3000
/-! Eq2: rules and worths by a rule. -/
namespace DL
open PySem
def ruleD : Rule → PyData
  | .least => .tuple [.str "least"]
  | .greatest => .tuple [.str "greatest"]
  | .product => .tuple [.str "product"]
  | .middle k => .tuple [.str "middle", natD k]
  | .shares ws => .tuple [.str "shares", rowD ws]
theorem ls : eqD (.str "least") (.str "shares") = some (.bool false) := by kernel_rfl
theorem gs : eqD (.str "greatest") (.str "shares") = some (.bool false) := by kernel_rfl
theorem ps : eqD (.str "product") (.str "shares") = some (.bool false) := by kernel_rfl
theorem ms : eqD (.str "middle") (.str "shares") = some (.bool false) := by kernel_rfl
theorem ss : eqD (.str "shares") (.str "shares") = some (.bool true) := by kernel_rfl
theorem lm : eqD (.str "least") (.str "middle") = some (.bool false) := by kernel_rfl
theorem gm : eqD (.str "greatest") (.str "middle") = some (.bool false) := by kernel_rfl
theorem pm : eqD (.str "product") (.str "middle") = some (.bool false) := by kernel_rfl
theorem mm : eqD (.str "middle") (.str "middle") = some (.bool true) := by kernel_rfl
theorem lp : eqD (.str "least") (.str "product") = some (.bool false) := by kernel_rfl
theorem gp : eqD (.str "greatest") (.str "product") = some (.bool false) := by kernel_rfl
theorem pp : eqD (.str "product") (.str "product") = some (.bool true) := by kernel_rfl
theorem mp : eqD (.str "middle") (.str "product") = some (.bool false) := by kernel_rfl
theorem ll : eqD (.str "least") (.str "least") = some (.bool true) := by kernel_rfl
theorem gl : eqD (.str "greatest") (.str "least") = some (.bool false) := by kernel_rfl
theorem ml : eqD (.str "middle") (.str "least") = some (.bool false) := by kernel_rfl
theorem gg : eqD (.str "greatest") (.str "greatest") = some (.bool true) := by kernel_rfl
theorem mg : eqD (.str "middle") (.str "greatest") = some (.bool false) := by kernel_rfl
theorem inl : inD (.tuple [.str "least"]) alone = some (.bool true) := by kernel_rfl
theorem ing : inD (.tuple [.str "greatest"]) alone = some (.bool true) := by kernel_rfl
theorem inp : inD (.tuple [.str "product"]) alone = some (.bool true) := by kernel_rfl
theorem ix_0 (a : PyData) (r : List PyData) : ixD (.tuple (a :: r)) (natD 0) = some a := ix_t0 _ _
theorem ix_1 (a b : PyData) (r : List PyData) : ixD (.tuple (a :: b :: r)) (natD 1) = some b := ix_t1 _ _ _
theorem ix_2 (a b c : PyData) (r : List PyData) : ixD (.tuple (a :: b :: c :: r)) (natD 2) = some c := ix_t2 _ _ _ _
theorem f_is_rule {n : Nat} {r : Rule} (h : Rok n r) (h4 : n ≤ 4) : F_is_rule [ruleD r, natD n] = some (.bool true) := by
  rw [r_is_rule]
  cases r with
  | least => simp only [B_is_rule, ruleD, sSeq_ap, sIf_ap, bOf_ap, bAnd_ap, bOr_ap, bNot_ap, bYes_ap, fAnd_ap, fOr_ap, fNot_ap, fIf_ap, sPat_ap, pName_ap, pTup_ap, setAll, sSkip_ap, sRet_ap, sOwn_ap, sFrz_ap, frz, frz1, sApp_ap, sIns_ap, sDo_ap, fTup_ap, fLstN_ap, fList_ap, fCall_ap, fCons_ap, fNil_ap, f1_ap, f2_ap, fVar_ap, fC_ap, sFor_ap, List.foldl_cons, List.foldl_nil, List.set_cons_succ, List.set_cons_zero, List.getElem?_cons_zero, List.getElem?_cons_succ, Option.bind_some, fin_rt, fin_nx, Bool.not_true, Bool.not_false, wipeD, nought_fr, one_fr, int_0, int_1, int_2, int_3, int_4, int_8, int_12, len_list, len_tup, len_map, isi_list, isi_tup, isi_str, lt_nn, le_nn, gt_nn, ge_nn, eq_nn, ne_nn, add_nn, whole_n, List.length_map, decide_true, decide_false, leng0, leng1, leng2, leng3, leng4, if_true, if_false, eq_self, Nat.reduceEqDiff, Nat.reduceLT, Nat.reduceLeDiff, ix_0, ls, lm, inl]
  | greatest => simp only [B_is_rule, ruleD, sSeq_ap, sIf_ap, bOf_ap, bAnd_ap, bOr_ap, bNot_ap, bYes_ap, fAnd_ap, fOr_ap, fNot_ap, fIf_ap, sPat_ap, pName_ap, pTup_ap, setAll, sSkip_ap, sRet_ap, sOwn_ap, sFrz_ap, frz, frz1, sApp_ap, sIns_ap, sDo_ap, fTup_ap, fLstN_ap, fList_ap, fCall_ap, fCons_ap, fNil_ap, f1_ap, f2_ap, fVar_ap, fC_ap, sFor_ap, List.foldl_cons, List.foldl_nil, List.set_cons_succ, List.set_cons_zero, List.getElem?_cons_zero, List.getElem?_cons_succ, Option.bind_some, fin_rt, fin_nx, Bool.not_true, Bool.not_false, wipeD, nought_fr, one_fr, int_0, int_1, int_2, int_3, int_4, int_8, int_12, len_list, len_tup, len_map, isi_list, isi_tup, isi_str, lt_nn, le_nn, gt_nn, ge_nn, eq_nn, ne_nn, add_nn, whole_n, List.length_map, decide_true, decide_false, leng0, leng1, leng2, leng3, leng4, if_true, if_false, eq_self, Nat.reduceEqDiff, Nat.reduceLT, Nat.reduceLeDiff, ix_0, gs, gm, ing]
  | product => simp only [B_is_rule, ruleD, sSeq_ap, sIf_ap, bOf_ap, bAnd_ap, bOr_ap, bNot_ap, bYes_ap, fAnd_ap, fOr_ap, fNot_ap, fIf_ap, sPat_ap, pName_ap, pTup_ap, setAll, sSkip_ap, sRet_ap, sOwn_ap, sFrz_ap, frz, frz1, sApp_ap, sIns_ap, sDo_ap, fTup_ap, fLstN_ap, fList_ap, fCall_ap, fCons_ap, fNil_ap, f1_ap, f2_ap, fVar_ap, fC_ap, sFor_ap, List.foldl_cons, List.foldl_nil, List.set_cons_succ, List.set_cons_zero, List.getElem?_cons_zero, List.getElem?_cons_succ, Option.bind_some, fin_rt, fin_nx, Bool.not_true, Bool.not_false, wipeD, nought_fr, one_fr, int_0, int_1, int_2, int_3, int_4, int_8, int_12, len_list, len_tup, len_map, isi_list, isi_tup, isi_str, lt_nn, le_nn, gt_nn, ge_nn, eq_nn, ne_nn, add_nn, whole_n, List.length_map, decide_true, decide_false, leng0, leng1, leng2, leng3, leng4, if_true, if_false, eq_self, Nat.reduceEqDiff, Nat.reduceLT, Nat.reduceLeDiff, ix_0, ps, pm, inp]
  | middle k =>
    obtain ⟨k1, k2⟩ := h
    simp only [B_is_rule, ruleD, sSeq_ap, sIf_ap, bOf_ap, bAnd_ap, bOr_ap, bNot_ap, bYes_ap, fAnd_ap, fOr_ap, fNot_ap, fIf_ap, sPat_ap, pName_ap, pTup_ap, setAll, sSkip_ap, sRet_ap, sOwn_ap, sFrz_ap, frz, frz1, sApp_ap, sIns_ap, sDo_ap, fTup_ap, fLstN_ap, fList_ap, fCall_ap, fCons_ap, fNil_ap, f1_ap, f2_ap, fVar_ap, fC_ap, sFor_ap, List.foldl_cons, List.foldl_nil, List.set_cons_succ, List.set_cons_zero, List.getElem?_cons_zero, List.getElem?_cons_succ, Option.bind_some, fin_rt, fin_nx, Bool.not_true, Bool.not_false, wipeD, nought_fr, one_fr, int_0, int_1, int_2, int_3, int_4, int_8, int_12, len_list, len_tup, len_map, isi_list, isi_tup, isi_str, lt_nn, le_nn, gt_nn, ge_nn, eq_nn, ne_nn, add_nn, whole_n, List.length_map, decide_true, decide_false, leng0, leng1, leng2, leng3, leng4, if_true, if_false, eq_self, Nat.reduceEqDiff, Nat.reduceLT, Nat.reduceLeDiff, ix_0, ix_1, ms, mm, decide_eq_true (show 0 < k by omega), decide_eq_true k2]
  | shares ws =>
    obtain ⟨k1, k2⟩ := h
    have c : fComp (dList (f2 ixD (fVar 0) (fC (.int 1)))) (pName 2) bYes (fCall F_is_weight (fCons (fVar 2) fNil)) [2] [.val (.tuple [.str "shares", rowD ws]), .val (natD n), .no] = some (ws.map fun _ => PyData.bool true) :=
      comp_map (enc := frR) _ ws (by simp only [dList_ap, sSeq_ap, sIf_ap, bOf_ap, bAnd_ap, bOr_ap, bNot_ap, bYes_ap, fAnd_ap, fOr_ap, fNot_ap, fIf_ap, sPat_ap, pName_ap, pTup_ap, setAll, sSkip_ap, sRet_ap, sOwn_ap, sFrz_ap, frz, frz1, sApp_ap, sIns_ap, sDo_ap, fTup_ap, fLstN_ap, fList_ap, fCall_ap, fCons_ap, fNil_ap, f1_ap, f2_ap, fVar_ap, fC_ap, sFor_ap, List.foldl_cons, List.foldl_nil, List.set_cons_succ, List.set_cons_zero, List.getElem?_cons_zero, List.getElem?_cons_succ, Option.bind_some, fin_rt, fin_nx, Bool.not_true, Bool.not_false, wipeD, nought_fr, one_fr, int_0, int_1, int_2, int_3, int_4, int_8, int_12, len_list, len_tup, len_map, isi_list, isi_tup, isi_str, lt_nn, le_nn, gt_nn, ge_nn, eq_nn, ne_nn, add_nn, whole_n, List.length_map, decide_true, decide_false, leng0, leng1, leng2, leng3, leng4, if_true, if_false, eq_self, Nat.reduceEqDiff, Nat.reduceLT, Nat.reduceLeDiff, ix_1]; rfl) (by omega) fun x hx => ⟨_, rfl, by simp only [sSeq_ap, sIf_ap, bOf_ap, bAnd_ap, bOr_ap, bNot_ap, bYes_ap, fAnd_ap, fOr_ap, fNot_ap, fIf_ap, sPat_ap, pName_ap, pTup_ap, setAll, sSkip_ap, sRet_ap, sOwn_ap, sFrz_ap, frz, frz1, sApp_ap, sIns_ap, sDo_ap, fTup_ap, fLstN_ap, fList_ap, fCall_ap, fCons_ap, fNil_ap, f1_ap, f2_ap, fVar_ap, fC_ap, sFor_ap, List.foldl_cons, List.foldl_nil, List.set_cons_succ, List.set_cons_zero, List.getElem?_cons_zero, List.getElem?_cons_succ, Option.bind_some, fin_rt, fin_nx, Bool.not_true, Bool.not_false, wipeD, nought_fr, one_fr, int_0, int_1, int_2, int_3, int_4, int_8, int_12, len_list, len_tup, len_map, isi_list, isi_tup, isi_str, lt_nn, le_nn, gt_nn, ge_nn, eq_nn, ne_nn, add_nn, whole_n, List.length_map, decide_true, decide_false, leng0, leng1, leng2, leng3, leng4, if_true, if_false, eq_self, Nat.reduceEqDiff, Nat.reduceLT, Nat.reduceLeDiff, f_isweight (k2 x hx).1 (k2 x hx).2 (by decide)]⟩
    simp only [B_is_rule, ruleD, sSeq_ap, sIf_ap, bOf_ap, bAnd_ap, bOr_ap, bNot_ap, bYes_ap, fAnd_ap, fOr_ap, fNot_ap, fIf_ap, sPat_ap, pName_ap, pTup_ap, setAll, sSkip_ap, sRet_ap, sOwn_ap, sFrz_ap, frz, frz1, sApp_ap, sIns_ap, sDo_ap, fTup_ap, fLstN_ap, fList_ap, fCall_ap, fCons_ap, fNil_ap, f1_ap, f2_ap, fVar_ap, fC_ap, sFor_ap, List.foldl_cons, List.foldl_nil, List.set_cons_succ, List.set_cons_zero, List.getElem?_cons_zero, List.getElem?_cons_succ, Option.bind_some, fin_rt, fin_nx, Bool.not_true, Bool.not_false, wipeD, nought_fr, one_fr, int_0, int_1, int_2, int_3, int_4, int_8, int_12, len_list, len_tup, len_map, isi_list, isi_tup, isi_str, lt_nn, le_nn, gt_nn, ge_nn, eq_nn, ne_nn, add_nn, whole_n, List.length_map, decide_true, decide_false, leng0, leng1, leng2, leng3, leng4, if_true, if_false, eq_self, Nat.reduceEqDiff, Nat.reduceLT, Nat.reduceLeDiff, ix_0, ix_1, ss, isi_row, len_row, k1, decide_true]
    simp only [int_1] at c
    rw [c]
    simp only [sSeq_ap, sIf_ap, bOf_ap, bAnd_ap, bOr_ap, bNot_ap, bYes_ap, fAnd_ap, fOr_ap, fNot_ap, fIf_ap, sPat_ap, pName_ap, pTup_ap, setAll, sSkip_ap, sRet_ap, sOwn_ap, sFrz_ap, frz, frz1, sApp_ap, sIns_ap, sDo_ap, fTup_ap, fLstN_ap, fList_ap, fCall_ap, fCons_ap, fNil_ap, f1_ap, f2_ap, fVar_ap, fC_ap, sFor_ap, List.foldl_cons, List.foldl_nil, List.set_cons_succ, List.set_cons_zero, List.getElem?_cons_zero, List.getElem?_cons_succ, Option.bind_some, fin_rt, fin_nx, Bool.not_true, Bool.not_false, wipeD, nought_fr, one_fr, int_0, int_1, int_2, int_3, int_4, int_8, int_12, len_list, len_tup, len_map, isi_list, isi_tup, isi_str, lt_nn, le_nn, gt_nn, ge_nn, eq_nn, ne_nn, add_nn, whole_n, List.length_map, decide_true, decide_false, leng0, leng1, leng2, leng3, leng4, if_true, if_false, eq_self, Nat.reduceEqDiff, Nat.reduceLT, Nat.reduceLeDiff, all_map]
theorem f_look_at_rule {n : Nat} {r : Rule} (h : Rok n r) (h4 : n ≤ 4) : F_look_at_rule [ruleD r, natD n] = some .none := by
  rw [r_look_at_rule]
  simp only [B_look_at_rule, sSeq_ap, sIf_ap, bOf_ap, bAnd_ap, bOr_ap, bNot_ap, bYes_ap, fAnd_ap, fOr_ap, fNot_ap, fIf_ap, sPat_ap, pName_ap, pTup_ap, setAll, sSkip_ap, sRet_ap, sOwn_ap, sFrz_ap, frz, frz1, sApp_ap, sIns_ap, sDo_ap, fTup_ap, fLstN_ap, fList_ap, fCall_ap, fCons_ap, fNil_ap, f1_ap, f2_ap, fVar_ap, fC_ap, sFor_ap, List.foldl_cons, List.foldl_nil, List.set_cons_succ, List.set_cons_zero, List.getElem?_cons_zero, List.getElem?_cons_succ, Option.bind_some, fin_rt, fin_nx, Bool.not_true, Bool.not_false, wipeD, nought_fr, one_fr, int_0, int_1, int_2, int_3, int_4, int_8, int_12, len_list, len_tup, len_map, isi_list, isi_tup, isi_str, lt_nn, le_nn, gt_nn, ge_nn, eq_nn, ne_nn, add_nn, whole_n, List.length_map, decide_true, decide_false, leng0, leng1, leng2, leng3, leng4, if_true, if_false, eq_self, Nat.reduceEqDiff, Nat.reduceLT, Nat.reduceLeDiff, f_is_rule h h4]
theorem f_look_at_count {m c : Nat} {b : List (List Rat)} (h : Bok m b) (hc : c ≤ m) : F_look_at_count [bookD b, natD c] = some .none := by
  obtain ⟨r, h1, h2, h3⟩ := h.hd
  rw [r_look_at_count]
  simp only [B_look_at_count, sSeq_ap, sIf_ap, bOf_ap, bAnd_ap, bOr_ap, bNot_ap, bYes_ap, fAnd_ap, fOr_ap, fNot_ap, fIf_ap, sPat_ap, pName_ap, pTup_ap, setAll, sSkip_ap, sRet_ap, sOwn_ap, sFrz_ap, frz, frz1, sApp_ap, sIns_ap, sDo_ap, fTup_ap, fLstN_ap, fList_ap, fCall_ap, fCons_ap, fNil_ap, f1_ap, f2_ap, fVar_ap, fC_ap, sFor_ap, List.foldl_cons, List.foldl_nil, List.set_cons_succ, List.set_cons_zero, List.getElem?_cons_zero, List.getElem?_cons_succ, Option.bind_some, fin_rt, fin_nx, Bool.not_true, Bool.not_false, wipeD, nought_fr, one_fr, int_0, int_1, int_2, int_3, int_4, int_8, int_12, len_list, len_tup, len_map, isi_list, isi_tup, isi_str, lt_nn, le_nn, gt_nn, ge_nn, eq_nn, ne_nn, add_nn, whole_n, List.length_map, decide_true, decide_false, leng0, leng1, leng2, leng3, leng4, if_true, if_false, eq_self, Nat.reduceEqDiff, Nat.reduceLT, Nat.reduceLeDiff, ix_book h1, len_row, h3, decide_eq_false (show ¬ c < 0 by omega), decide_eq_false (show ¬ m < c by omega)]
theorem falling_step {a : PyData} {acc : List Rat} (hin : ∀ o ∈ acc, Wo o) (hl : acc.length ≤ 100) {w : Rat} (hw : Wo w) (x3 x4 : DV) :
    B_falling_1 [.val a, .own (acc.map frR), .val (frR w), x3, x4] = some (.nx [.val a, .own ((insBy (fun o x => decide (x ≤ o)) acc w).map frR), .val (frR w), .val (natD (acc.filter fun o => decide (w ≤ o)).length), x4]) := by
  have c : fComp (dVar 1) (pName 4) (bNot (bOf (fCall F_frac_below (fCons (fVar 4) (fCons (fVar 2) fNil))))) (fVar 4) [4] [.val a, .own (acc.map frR), .val (frR w), x3, x4] =
      some ((acc.filter fun o => decide (w ≤ o)).map frR) := comp_keep (enc := frR) _ _ _ rfl (by omega) fun o ho => ⟨_, rfl, by
        have q := f_below (hin o ho).sz hw.sz (by decide) (by decide)
        simp only [sSeq_ap, sIf_ap, bOf_ap, bAnd_ap, bOr_ap, bNot_ap, bYes_ap, fAnd_ap, fOr_ap, fNot_ap, fIf_ap, sPat_ap, pName_ap, pTup_ap, setAll, sSkip_ap, sRet_ap, sOwn_ap, sFrz_ap, frz, frz1, sApp_ap, sIns_ap, sDo_ap, fTup_ap, fLstN_ap, fList_ap, fCall_ap, fCons_ap, fNil_ap, f1_ap, f2_ap, fVar_ap, fC_ap, sFor_ap, List.foldl_cons, List.foldl_nil, List.set_cons_succ, List.set_cons_zero, List.getElem?_cons_zero, List.getElem?_cons_succ, Option.bind_some, fin_rt, fin_nx, Bool.not_true, Bool.not_false, wipeD, nought_fr, one_fr, int_0, int_1, int_2, int_3, int_4, int_8, int_12, len_list, len_tup, len_map, isi_list, isi_tup, isi_str, lt_nn, le_nn, gt_nn, ge_nn, eq_nn, ne_nn, add_nn, whole_n, List.length_map, decide_true, decide_false, leng0, leng1, leng2, leng3, leng4, if_true, if_false, eq_self, Nat.reduceEqDiff, Nat.reduceLT, Nat.reduceLeDiff, q, not_lt_dec], fun _ => by simp only [sSeq_ap, sIf_ap, bOf_ap, bAnd_ap, bOr_ap, bNot_ap, bYes_ap, fAnd_ap, fOr_ap, fNot_ap, fIf_ap, sPat_ap, pName_ap, pTup_ap, setAll, sSkip_ap, sRet_ap, sOwn_ap, sFrz_ap, frz, frz1, sApp_ap, sIns_ap, sDo_ap, fTup_ap, fLstN_ap, fList_ap, fCall_ap, fCons_ap, fNil_ap, f1_ap, f2_ap, fVar_ap, fC_ap, sFor_ap, List.foldl_cons, List.foldl_nil, List.set_cons_succ, List.set_cons_zero, List.getElem?_cons_zero, List.getElem?_cons_succ, Option.bind_some, fin_rt, fin_nx, Bool.not_true, Bool.not_false, wipeD, nought_fr, one_fr, int_0, int_1, int_2, int_3, int_4, int_8, int_12, len_list, len_tup, len_map, isi_list, isi_tup, isi_str, lt_nn, le_nn, gt_nn, ge_nn, eq_nn, ne_nn, add_nn, whole_n, List.length_map, decide_true, decide_false, leng0, leng1, leng2, leng3, leng4, if_true, if_false, eq_self, Nat.reduceEqDiff, Nat.reduceLT, Nat.reduceLeDiff]⟩
  simp only [B_falling_1, sSeq_ap, sIf_ap, bOf_ap, bAnd_ap, bOr_ap, bNot_ap, bYes_ap, fAnd_ap, fOr_ap, fNot_ap, fIf_ap, sPat_ap, pName_ap, pTup_ap, setAll, sSkip_ap, sRet_ap, sOwn_ap, sFrz_ap, frz, frz1, sApp_ap, sIns_ap, sDo_ap, fTup_ap, fLstN_ap, fList_ap, fCall_ap, fCons_ap, fNil_ap, f1_ap, f2_ap, fVar_ap, fC_ap, sFor_ap, List.foldl_cons, List.foldl_nil, List.set_cons_succ, List.set_cons_zero, List.getElem?_cons_zero, List.getElem?_cons_succ, Option.bind_some, fin_rt, fin_nx, Bool.not_true, Bool.not_false, wipeD, nought_fr, one_fr, int_0, int_1, int_2, int_3, int_4, int_8, int_12, len_list, len_tup, len_map, isi_list, isi_tup, isi_str, lt_nn, le_nn, gt_nn, ge_nn, eq_nn, ne_nn, add_nn, whole_n, List.length_map, decide_true, decide_false, leng0, leng1, leng2, leng3, leng4, if_true, if_false, eq_self, Nat.reduceEqDiff, Nat.reduceLT, Nat.reduceLeDiff, c, ins_eq (le := fun o x : Rat => decide (x ≤ o)) _ _ (show acc.length ≤ 1000 by omega) w]
theorem f_falling {xs : List Rat} (hx : ∀ w ∈ xs, Wo w) (hl : xs.length ≤ 12) : F_falling [rowD xs] = some (rowD (fallR xs)) := by
  obtain ⟨δ', h1, x2, x3, x4, h2⟩ := loop_sort (enc := frR) (encB := frR) (p := pName 2) (body := B_falling_1) (le := fun o x => decide (x ≤ o)) id xs [.val (rowD xs), .own [], .no, .no, .no]
    (fun acc δ => ∃ x2 x3 x4, δ = [.val (rowD xs), .own (acc.map frR), x2, x3, x4]) ⟨_, _, _, rfl⟩ (by
      rintro acc w δ ha hal hw ⟨x2, x3, x4, rfl⟩
      exact ⟨_, _, rfl, falling_step (acc := acc) (fun o ho => by
        obtain ⟨y, q1, e⟩ := ha o ho
        rw [e]
        exact hx y q1) (by omega) (hx w hw) x3 x4, _, _, _, rfl⟩)
  rw [List.map_id] at h2
  rw [r_falling]
  have e1 : dList (fVar 0) [.val (rowD xs), .own [], .no, .no, .no] = some (xs.map frR) := rfl
  simp only [B_falling, sSeq_ap, sIf_ap, bOf_ap, bAnd_ap, bOr_ap, bNot_ap, bYes_ap, fAnd_ap, fOr_ap, fNot_ap, fIf_ap, sPat_ap, pName_ap, pTup_ap, setAll, sSkip_ap, sRet_ap, sOwn_ap, sFrz_ap, frz, frz1, sApp_ap, sIns_ap, sDo_ap, fTup_ap, fLstN_ap, fList_ap, fCall_ap, fCons_ap, fNil_ap, f1_ap, f2_ap, fVar_ap, fC_ap, sFor_ap, List.foldl_cons, List.foldl_nil, List.set_cons_succ, List.set_cons_zero, List.getElem?_cons_zero, List.getElem?_cons_succ, Option.bind_some, fin_rt, fin_nx, Bool.not_true, Bool.not_false, wipeD, nought_fr, one_fr, int_0, int_1, int_2, int_3, int_4, int_8, int_12, len_list, len_tup, len_map, isi_list, isi_tup, isi_str, lt_nn, le_nn, gt_nn, ge_nn, eq_nn, ne_nn, add_nn, whole_n, List.length_map, decide_true, decide_false, leng0, leng1, leng2, leng3, leng4, if_true, if_false, eq_self, Nat.reduceEqDiff, Nat.reduceLT, Nat.reduceLeDiff, e1, h1, h2]
  rfl
/-- a bound: 0 or more, of some size -/
structure Bo (r : Rat) : Prop where
  nn : 0 ≤ r
  sz : Sz 200 r
theorem Wo.bo {r : Rat} (h : Wo r) : Bo r := ⟨h.nn, h.sz.up (by decide)⟩
theorem f_place {n : Nat} {r : Rule} : (∀ ws, r ≠ .shares ws) → r ≠ .product → F_place_of [ruleD r, natD n] = some (natD (placeR r n)) := fun h1 h2 => by
  rw [r_place_of]
  cases r with
  | least => simp only [B_place_of, ruleD, sSeq_ap, sIf_ap, bOf_ap, bAnd_ap, bOr_ap, bNot_ap, bYes_ap, fAnd_ap, fOr_ap, fNot_ap, fIf_ap, sPat_ap, pName_ap, pTup_ap, setAll, sSkip_ap, sRet_ap, sOwn_ap, sFrz_ap, frz, frz1, sApp_ap, sIns_ap, sDo_ap, fTup_ap, fLstN_ap, fList_ap, fCall_ap, fCons_ap, fNil_ap, f1_ap, f2_ap, fVar_ap, fC_ap, sFor_ap, List.foldl_cons, List.foldl_nil, List.set_cons_succ, List.set_cons_zero, List.getElem?_cons_zero, List.getElem?_cons_succ, Option.bind_some, fin_rt, fin_nx, Bool.not_true, Bool.not_false, wipeD, nought_fr, one_fr, int_0, int_1, int_2, int_3, int_4, int_8, int_12, len_list, len_tup, len_map, isi_list, isi_tup, isi_str, lt_nn, le_nn, gt_nn, ge_nn, eq_nn, ne_nn, add_nn, whole_n, List.length_map, decide_true, decide_false, leng0, leng1, leng2, leng3, leng4, if_true, if_false, eq_self, Nat.reduceEqDiff, Nat.reduceLT, Nat.reduceLeDiff, ix_0, lm, ll]; rfl
  | greatest => simp only [B_place_of, ruleD, sSeq_ap, sIf_ap, bOf_ap, bAnd_ap, bOr_ap, bNot_ap, bYes_ap, fAnd_ap, fOr_ap, fNot_ap, fIf_ap, sPat_ap, pName_ap, pTup_ap, setAll, sSkip_ap, sRet_ap, sOwn_ap, sFrz_ap, frz, frz1, sApp_ap, sIns_ap, sDo_ap, fTup_ap, fLstN_ap, fList_ap, fCall_ap, fCons_ap, fNil_ap, f1_ap, f2_ap, fVar_ap, fC_ap, sFor_ap, List.foldl_cons, List.foldl_nil, List.set_cons_succ, List.set_cons_zero, List.getElem?_cons_zero, List.getElem?_cons_succ, Option.bind_some, fin_rt, fin_nx, Bool.not_true, Bool.not_false, wipeD, nought_fr, one_fr, int_0, int_1, int_2, int_3, int_4, int_8, int_12, len_list, len_tup, len_map, isi_list, isi_tup, isi_str, lt_nn, le_nn, gt_nn, ge_nn, eq_nn, ne_nn, add_nn, whole_n, List.length_map, decide_true, decide_false, leng0, leng1, leng2, leng3, leng4, if_true, if_false, eq_self, Nat.reduceEqDiff, Nat.reduceLT, Nat.reduceLeDiff, ix_0, gm, gl]; rfl
  | product => exact absurd rfl h2
  | middle k => simp only [B_place_of, ruleD, sSeq_ap, sIf_ap, bOf_ap, bAnd_ap, bOr_ap, bNot_ap, bYes_ap, fAnd_ap, fOr_ap, fNot_ap, fIf_ap, sPat_ap, pName_ap, pTup_ap, setAll, sSkip_ap, sRet_ap, sOwn_ap, sFrz_ap, frz, frz1, sApp_ap, sIns_ap, sDo_ap, fTup_ap, fLstN_ap, fList_ap, fCall_ap, fCons_ap, fNil_ap, f1_ap, f2_ap, fVar_ap, fC_ap, sFor_ap, List.foldl_cons, List.foldl_nil, List.set_cons_succ, List.set_cons_zero, List.getElem?_cons_zero, List.getElem?_cons_succ, Option.bind_some, fin_rt, fin_nx, Bool.not_true, Bool.not_false, wipeD, nought_fr, one_fr, int_0, int_1, int_2, int_3, int_4, int_8, int_12, len_list, len_tup, len_map, isi_list, isi_tup, isi_str, lt_nn, le_nn, gt_nn, ge_nn, eq_nn, ne_nn, add_nn, whole_n, List.length_map, decide_true, decide_false, leng0, leng1, leng2, leng3, leng4, if_true, if_false, eq_self, Nat.reduceEqDiff, Nat.reduceLT, Nat.reduceLeDiff, ix_0, ix_1, mm]; rfl
  | shares ws => exact absurd rfl (h1 ws)
theorem sz0 : Sz 1 0 := ⟨by decide, by decide⟩
theorem sz1 : Sz 1 1 := ⟨by decide, by decide⟩
theorem fall_mem {xs : List Rat} {y : Rat} (h : y ∈ fallR xs) : y ∈ xs := (fall_ok xs).2.mem_iff.mp h
theorem f_worth {n : Nat} {r : Rule} {xs : List Rat} (h : Rok n r) (hn : xs.length = n) (n1 : 1 ≤ n) (n4 : n ≤ 4) (hx : ∀ x ∈ xs, Wo x) : F_worth_by [ruleD r, rowD xs] = some (frR (worthR r xs)) ∧ Bo (worthR r xs) := by
  have pick : ∀ r : Rule, (∀ ws, r ≠ .shares ws) → r ≠ .product → eqD (match ruleD r with
      | .tuple (a :: _) => a
      | d => d) (.str "shares") = some (.bool false) → eqD (match ruleD r with
      | .tuple (a :: _) => a
      | d => d) (.str "product") = some (.bool false) → worthR r xs = (fallR xs).getD (placeR r xs.length - 1) 0 → 1 ≤ placeR r n → placeR r n ≤ n → F_worth_by [ruleD r, rowD xs] = some (frR (worthR r xs)) ∧ Bo (worthR r xs) := fun r h1 h2 h3 h4 h5 h6 h7 => by
    have hl : placeR r n - 1 < (fallR xs).length := by rw [fall_len]; omega
    have e : (fallR xs)[placeR r n - 1]? = some ((fallR xs).getD (placeR r n - 1) 0) := by
      rw [List.getD_eq_getElem?_getD, List.getElem?_eq_getElem hl]
      rfl
    have hm : (fallR xs).getD (placeR r n - 1) 0 ∈ xs := fall_mem (List.mem_of_getElem? e)
    rw [h5, hn]
    refine ⟨?_, (hx _ hm).bo⟩
    have p := f_place (n := n) h1 h2
    have e0 : ∃ a l, ruleD r = .tuple (a :: l) := by
      cases r <;> exact ⟨_, _, rfl⟩
    obtain ⟨a, l, e0⟩ := e0
    rw [e0] at h3 h4 p
    rw [r_worth_by, e0]
    simp only [B_worth_by, sSeq_ap, sIf_ap, bOf_ap, bAnd_ap, bOr_ap, bNot_ap, bYes_ap, fAnd_ap, fOr_ap, fNot_ap, fIf_ap, sPat_ap, pName_ap, pTup_ap, setAll, sSkip_ap, sRet_ap, sOwn_ap, sFrz_ap, frz, frz1, sApp_ap, sIns_ap, sDo_ap, fTup_ap, fLstN_ap, fList_ap, fCall_ap, fCons_ap, fNil_ap, f1_ap, f2_ap, fVar_ap, fC_ap, sFor_ap, List.foldl_cons, List.foldl_nil, List.set_cons_succ, List.set_cons_zero, List.getElem?_cons_zero, List.getElem?_cons_succ, Option.bind_some, fin_rt, fin_nx, Bool.not_true, Bool.not_false, wipeD, nought_fr, one_fr, int_0, int_1, int_2, int_3, int_4, int_8, int_12, len_list, len_tup, len_map, isi_list, isi_tup, isi_str, lt_nn, le_nn, gt_nn, ge_nn, eq_nn, ne_nn, add_nn, whole_n, List.length_map, decide_true, decide_false, leng0, leng1, leng2, leng3, leng4, if_true, if_false, eq_self, Nat.reduceEqDiff, Nat.reduceLT, Nat.reduceLeDiff, ix_0, h3, h4, len_row, hn, p, sub_nn h6, f_falling hx (by omega), ix_row e]
  cases r with
  | least => exact pick .least (fun _ z => by cases z) (fun z => by cases z) ls lp rfl n1 (Nat.le_refl n)
  | greatest => exact pick .greatest (fun _ z => by cases z) (fun z => by cases z) gs gp rfl (Nat.le_refl 1) n1
  | middle k => exact pick (.middle k) (fun _ z => by cases z) (fun z => by cases z) ms mp rfl h.1 h.2
  | product =>
    obtain ⟨δ', h1, x3, x4, h2, h3, h4⟩ := for_inv (enc := frR) (p := pName 4) (body := B_worth_by_2) (xs := xs) (δ := [.val (ruleD .product), .val (rowD xs), .val (frR 1), .no, .no])
      (fun pr δ => ∃ x3 x4, δ = [.val (ruleD .product), .val (rowD xs), .val (frR (pr.foldl (fun t x => t * x) 1)), x3, x4] ∧ 0 ≤ pr.foldl (fun t x => t * x) (1 : Rat) ∧ Sz (1 + 40 * pr.length) (pr.foldl (fun t x => t * x) 1)) ⟨_, _, rfl, by decide, sz1⟩ (by
        rintro pr x po δ e ⟨x3, x4, rfl, h0, hs⟩
        have hw : Wo x := hx x (by rw [e]; exact List.mem_append_right _ List.mem_cons_self)
        have hl : pr.length ≤ 4 := by
          have := congrArg List.length e
          rw [List.length_append] at this
          omega
        obtain ⟨q1, q2⟩ := f_times h0 hw.nn hs hw.sz (by omega) (by omega)
        have hb : B_worth_by_2 [.val (ruleD .product), .val (rowD xs), .val (frR (pr.foldl (fun t x => t * x) 1)), x3, .val (frR x)] = some (.nx [.val (ruleD .product), .val (rowD xs), .val (frR (pr.foldl (fun t x => t * x) 1 * x)), x3, .val (frR x)]) := by
          simp only [B_worth_by_2, sSeq_ap, sIf_ap, bOf_ap, bAnd_ap, bOr_ap, bNot_ap, bYes_ap, fAnd_ap, fOr_ap, fNot_ap, fIf_ap, sPat_ap, pName_ap, pTup_ap, setAll, sSkip_ap, sRet_ap, sOwn_ap, sFrz_ap, frz, frz1, sApp_ap, sIns_ap, sDo_ap, fTup_ap, fLstN_ap, fList_ap, fCall_ap, fCons_ap, fNil_ap, f1_ap, f2_ap, fVar_ap, fC_ap, sFor_ap, List.foldl_cons, List.foldl_nil, List.set_cons_succ, List.set_cons_zero, List.getElem?_cons_zero, List.getElem?_cons_succ, Option.bind_some, fin_rt, fin_nx, Bool.not_true, Bool.not_false, wipeD, nought_fr, one_fr, int_0, int_1, int_2, int_3, int_4, int_8, int_12, len_list, len_tup, len_map, isi_list, isi_tup, isi_str, lt_nn, le_nn, gt_nn, ge_nn, eq_nn, ne_nn, add_nn, whole_n, List.length_map, decide_true, decide_false, leng0, leng1, leng2, leng3, leng4, if_true, if_false, eq_self, Nat.reduceEqDiff, Nat.reduceLT, Nat.reduceLeDiff, q1]
        have ef : (pr ++ [x]).foldl (fun t x => t * x) (1 : Rat) = pr.foldl (fun t x => t * x) 1 * x := by rw [List.foldl_append]; rfl
        refine ⟨_, _, rfl, hb, x3, .val (frR x), by rw [ef], by rw [ef]; exact Rat.mul_nonneg h0 hw.nn, ?_⟩
        rw [ef, List.length_append]
        exact q2.up (by simp only [List.length_cons, List.length_nil]; omega))
    have e1 : dList (fVar 1) [.val (ruleD .product), .val (rowD xs), .val (frR 1), .no, .no] = some (xs.map frR) := rfl
    refine ⟨?_, h3, h4.up (by omega)⟩
    rw [r_worth_by]
    have e2 : ixD (ruleD .product) (natD 0) = some (.str "product") := rfl
    simp only [B_worth_by, sSeq_ap, sIf_ap, bOf_ap, bAnd_ap, bOr_ap, bNot_ap, bYes_ap, fAnd_ap, fOr_ap, fNot_ap, fIf_ap, sPat_ap, pName_ap, pTup_ap, setAll, sSkip_ap, sRet_ap, sOwn_ap, sFrz_ap, frz, frz1, sApp_ap, sIns_ap, sDo_ap, fTup_ap, fLstN_ap, fList_ap, fCall_ap, fCons_ap, fNil_ap, f1_ap, f2_ap, fVar_ap, fC_ap, sFor_ap, List.foldl_cons, List.foldl_nil, List.set_cons_succ, List.set_cons_zero, List.getElem?_cons_zero, List.getElem?_cons_succ, Option.bind_some, fin_rt, fin_nx, Bool.not_true, Bool.not_false, wipeD, nought_fr, one_fr, int_0, int_1, int_2, int_3, int_4, int_8, int_12, len_list, len_tup, len_map, isi_list, isi_tup, isi_str, lt_nn, le_nn, gt_nn, ge_nn, eq_nn, ne_nn, add_nn, whole_n, List.length_map, decide_true, decide_false, leng0, leng1, leng2, leng3, leng4, if_true, if_false, eq_self, Nat.reduceEqDiff, Nat.reduceLT, Nat.reduceLeDiff, e2, ps, pp, e1, h1, h2]
    rfl
  | shares ws =>
    obtain ⟨k1, k2⟩ := h
    obtain ⟨δ', h1, x3, x4, h2, h3, h4⟩ := for_inv (enc := fun p : Rat × Rat => PyData.tuple [frR p.1, frR p.2]) (p := pTup [3, 4]) (body := B_worth_by_1) (xs := ws.zip xs) (δ := [.val (ruleD (.shares ws)), .val (rowD xs), .val (frR 0), .no, .no])
      (fun pr δ => ∃ x3 x4, δ = [.val (ruleD (.shares ws)), .val (rowD xs), .val (frR (pr.foldl shareR 0)), x3, x4] ∧ 0 ≤ pr.foldl shareR 0 ∧ Sz (1 + 44 * pr.length) (pr.foldl shareR 0)) ⟨_, _, rfl, by decide, sz0⟩ (by
        rintro pr ⟨w, x⟩ po δ e ⟨x3, x4, rfl, h0, hs⟩
        have hm : (w, x) ∈ ws.zip xs := by rw [e]; exact List.mem_append_right _ List.mem_cons_self
        have hw : Wo x := hx x (List.of_mem_zip hm).2
        have hv := k2 w (List.of_mem_zip hm).1
        have hl : pr.length ≤ 4 := by
          have := congrArg List.length e
          rw [List.length_append, List.length_zip] at this
          omega
        obtain ⟨q1, q2⟩ := f_times hv.1 hw.nn hv.2 hw.sz (by omega) (by omega)
        obtain ⟨q3, q4⟩ := f_sum h0 (Rat.mul_nonneg hv.1 hw.nn) hs q2 (by omega) (by omega)
        have hb : B_worth_by_1 [.val (ruleD (.shares ws)), .val (rowD xs), .val (frR (pr.foldl shareR 0)), .val (frR w), .val (frR x)] = some (.nx [.val (ruleD (.shares ws)), .val (rowD xs), .val (frR (pr.foldl shareR 0 + w * x)), .val (frR w), .val (frR x)]) := by
          simp only [B_worth_by_1, sSeq_ap, sIf_ap, bOf_ap, bAnd_ap, bOr_ap, bNot_ap, bYes_ap, fAnd_ap, fOr_ap, fNot_ap, fIf_ap, sPat_ap, pName_ap, pTup_ap, setAll, sSkip_ap, sRet_ap, sOwn_ap, sFrz_ap, frz, frz1, sApp_ap, sIns_ap, sDo_ap, fTup_ap, fLstN_ap, fList_ap, fCall_ap, fCons_ap, fNil_ap, f1_ap, f2_ap, fVar_ap, fC_ap, sFor_ap, List.foldl_cons, List.foldl_nil, List.set_cons_succ, List.set_cons_zero, List.getElem?_cons_zero, List.getElem?_cons_succ, Option.bind_some, fin_rt, fin_nx, Bool.not_true, Bool.not_false, wipeD, nought_fr, one_fr, int_0, int_1, int_2, int_3, int_4, int_8, int_12, len_list, len_tup, len_map, isi_list, isi_tup, isi_str, lt_nn, le_nn, gt_nn, ge_nn, eq_nn, ne_nn, add_nn, whole_n, List.length_map, decide_true, decide_false, leng0, leng1, leng2, leng3, leng4, if_true, if_false, eq_self, Nat.reduceEqDiff, Nat.reduceLT, Nat.reduceLeDiff, q1, q3]
        have ef : (pr ++ [(w, x)]).foldl shareR 0 = pr.foldl shareR 0 + w * x := by rw [List.foldl_append]; rfl
        refine ⟨_, _, rfl, hb, _, _, by rw [ef], by rw [ef]; exact Rat.add_nonneg h0 (Rat.mul_nonneg hv.1 hw.nn), ?_⟩
        rw [ef, List.length_append]
        exact q4.up (by simp only [List.length_cons, List.length_nil]; omega))
    have e2 : ixD (ruleD (.shares ws)) (natD 0) = some (.str "shares") := rfl
    have e3 : ixD (ruleD (.shares ws)) (natD 1) = some (rowD ws) := rfl
    have e1 : dZip (f2 ixD (fVar 0) (fC (natD 1))) (fVar 1) [.val (ruleD (.shares ws)), .val (rowD xs), .val (frR 0), .no, .no] = some ((ws.zip xs).map fun p : Rat × Rat => PyData.tuple [frR p.1, frR p.2]) := by
      rw [← zipD_map]
      rfl
    have hzl : (ws.zip xs).length ≤ 4 := by rw [List.length_zip]; omega
    refine ⟨?_, h3, h4.up (by omega)⟩
    rw [r_worth_by]
    simp only [B_worth_by, sSeq_ap, sIf_ap, bOf_ap, bAnd_ap, bOr_ap, bNot_ap, bYes_ap, fAnd_ap, fOr_ap, fNot_ap, fIf_ap, sPat_ap, pName_ap, pTup_ap, setAll, sSkip_ap, sRet_ap, sOwn_ap, sFrz_ap, frz, frz1, sApp_ap, sIns_ap, sDo_ap, fTup_ap, fLstN_ap, fList_ap, fCall_ap, fCons_ap, fNil_ap, f1_ap, f2_ap, fVar_ap, fC_ap, sFor_ap, List.foldl_cons, List.foldl_nil, List.set_cons_succ, List.set_cons_zero, List.getElem?_cons_zero, List.getElem?_cons_succ, Option.bind_some, fin_rt, fin_nx, Bool.not_true, Bool.not_false, wipeD, nought_fr, one_fr, int_0, int_1, int_2, int_3, int_4, int_8, int_12, len_list, len_tup, len_map, isi_list, isi_tup, isi_str, lt_nn, le_nn, gt_nn, ge_nn, eq_nn, ne_nn, add_nn, whole_n, List.length_map, decide_true, decide_false, leng0, leng1, leng2, leng3, leng4, if_true, if_false, eq_self, Nat.reduceEqDiff, Nat.reduceLT, Nat.reduceLeDiff, e2, ss, e1, h1, h2]
    rfl
end DL

set_option Elab.async false
set_option linter.all false
set_option maxRecDepth 100000
set_option maxHeartbeats 4000000
set_option exponentiation.threshold 3000
/-! Eq3: looks at a book, what is seen, the bounds. -/
namespace DL
open PySem
def lexlt (p q : Nat × Nat) : Prop := p.1 < q.1 ∨ (p.1 = q.1 ∧ p.2 < q.2)
/-- looks at a book of n lists of m things -/
structure Lok (n m : Nat) (ds : List Nat) (as : List (Nat × Nat)) : Prop where
  dn : ds.length = n
  dm : ∀ d ∈ ds, d ≤ m
  an : ∀ p ∈ as, p.1 < n ∧ p.2 < m
  ar : as.Pairwise lexlt
  al : as.length ≤ 100
def pairsD (as : List (Nat × Nat)) : PyData := .list (as.map pairD)
def looksD (ds : List Nat) (as : List (Nat × Nat)) : PyData := .tuple [natsD ds, pairsD as]
def lastQ : Option (Nat × Nat) → PyData
  | some p => pairD p
  | none => .none
def lastD (as : List (Nat × Nat)) : PyData := lastQ as.getLast?
theorem le_pair {p q : Nat × Nat} (h : lexlt q p) : leD (pairD p) (pairD q) = some (.bool false) := by
  show some (PyData.bool (lexD [(p.1 : Int), (p.2 : Int)] [(q.1 : Int), (q.2 : Int)])) = _
  congr 2
  unfold lexD
  show (if decide ((p.1 : Int) = (q.1 : Int)) = true then (if decide ((p.2 : Int) = (q.2 : Int)) = true then _ else decide ((p.2 : Int) ≤ (q.2 : Int))) else decide ((p.1 : Int) ≤ (q.1 : Int))) = false
  rcases h with h | ⟨h1, h2⟩
  · rw [if_neg (by simp only [decide_eq_true_eq]; omega), decide_eq_false (by omega)]
  · rw [if_pos (by simp only [decide_eq_true_eq]; omega), if_neg (by simp only [decide_eq_true_eq]; omega), decide_eq_false (by omega)]
theorem isi_pair (p : Nat × Nat) : isiD "tuple" (pairD p) = some (.bool true) := rfl
theorem len_pair (p : Nat × Nat) : lenD [pairD p] = some (natD 2) := rfl
theorem ix_p0 (p : Nat × Nat) : ixD (pairD p) (natD 0) = some (natD p.1) := ix_t0 _ _
theorem ix_p1 (p : Nat × Nat) : ixD (pairD p) (natD 1) = some (natD p.2) := ix_t1 _ _ _
theorem nn_none : notNoneD .none = some (.bool false) := rfl
theorem nn_pair (p : Nat × Nat) : notNoneD (pairD p) = some (.bool true) := rfl
theorem asked_step {n m : Nat} {a : DV} {q : Option (Nat × Nat)} {p : Nat × Nat} (h1 : p.1 < n) (h2 : p.2 < m) (hq : ∀ r, q = some r → lexlt r p) :
    B_is_asked_1 [a, .val (natD n), .val (natD m), .val (lastQ q), .val (pairD p)] = some (.nx [a, .val (natD n), .val (natD m), .val (pairD p), .val (pairD p)]) := by
  have e1 : decide (n ≤ p.1) = false := decide_eq_false (by omega)
  have e2 : decide (m ≤ p.2) = false := decide_eq_false (by omega)
  have e3 : ∀ k : Nat, decide (k < 0) = false := fun k => decide_eq_false (by omega)
  cases q with
  | none => simp only [B_is_asked_1, sSeq_ap, sIf_ap, bOf_ap, bAnd_ap, bOr_ap, bNot_ap, bYes_ap, fAnd_ap, fOr_ap, fNot_ap, fIf_ap, sPat_ap, pName_ap, pTup_ap, setAll, sSkip_ap, sRet_ap, sOwn_ap, sFrz_ap, frz, frz1, sApp_ap, sIns_ap, sDo_ap, fTup_ap, fLstN_ap, fList_ap, fCall_ap, fCons_ap, fNil_ap, f1_ap, f2_ap, fVar_ap, fC_ap, sFor_ap, List.foldl_cons, List.foldl_nil, List.set_cons_succ, List.set_cons_zero, List.getElem?_cons_zero, List.getElem?_cons_succ, Option.bind_some, fin_rt, fin_nx, Bool.not_true, Bool.not_false, wipeD, nought_fr, one_fr, int_0, int_1, int_2, int_3, int_4, int_8, int_12, len_list, len_tup, len_map, isi_list, isi_tup, isi_str, lt_nn, le_nn, gt_nn, ge_nn, eq_nn, ne_nn, add_nn, whole_n, List.length_map, decide_true, decide_false, leng0, leng1, leng2, leng3, leng4, if_true, if_false, eq_self, Nat.reduceEqDiff, Nat.reduceLT, Nat.reduceLeDiff, isi_pair, len_pair, lastQ, ix_p0, ix_p1, e1, e2, e3, nn_none]
  | some r => simp only [B_is_asked_1, sSeq_ap, sIf_ap, bOf_ap, bAnd_ap, bOr_ap, bNot_ap, bYes_ap, fAnd_ap, fOr_ap, fNot_ap, fIf_ap, sPat_ap, pName_ap, pTup_ap, setAll, sSkip_ap, sRet_ap, sOwn_ap, sFrz_ap, frz, frz1, sApp_ap, sIns_ap, sDo_ap, fTup_ap, fLstN_ap, fList_ap, fCall_ap, fCons_ap, fNil_ap, f1_ap, f2_ap, fVar_ap, fC_ap, sFor_ap, List.foldl_cons, List.foldl_nil, List.set_cons_succ, List.set_cons_zero, List.getElem?_cons_zero, List.getElem?_cons_succ, Option.bind_some, fin_rt, fin_nx, Bool.not_true, Bool.not_false, wipeD, nought_fr, one_fr, int_0, int_1, int_2, int_3, int_4, int_8, int_12, len_list, len_tup, len_map, isi_list, isi_tup, isi_str, lt_nn, le_nn, gt_nn, ge_nn, eq_nn, ne_nn, add_nn, whole_n, List.length_map, decide_true, decide_false, leng0, leng1, leng2, leng3, leng4, if_true, if_false, eq_self, Nat.reduceEqDiff, Nat.reduceLT, Nat.reduceLeDiff, isi_pair, len_pair, lastQ, ix_p0, ix_p1, e1, e2, e3, nn_pair, le_pair (hq r rfl)]
theorem getLast_snoc {α : Type} (xs : List α) (x : α) : (xs ++ [x]).getLast? = some x := by
  rw [List.getLast?_append]
  rfl
theorem f_asked {n m : Nat} {as : List (Nat × Nat)} (h1 : ∀ p ∈ as, p.1 < n ∧ p.2 < m) (h2 : as.Pairwise lexlt) : F_is_asked [pairsD as, natD n, natD m] = some (.bool true) := by
  obtain ⟨δ', h3, x4, h4⟩ := for_inv (enc := pairD) (p := pName 4) (body := B_is_asked_1) (xs := as) (δ := [.val (pairsD as), .val (natD n), .val (natD m), .val .none, .no])
    (fun pr δ => ∃ x4, δ = [.val (pairsD as), .val (natD n), .val (natD m), .val (lastD pr), x4]) ⟨_, rfl⟩ (by
      rintro pr p po δ e ⟨x4, rfl⟩
      have hp := h1 p (by rw [e]; exact List.mem_append_right _ List.mem_cons_self)
      refine ⟨_, _, rfl, asked_step (q := pr.getLast?) hp.1 hp.2 fun r hr => ?_, .val (pairD p), ?_⟩
      · rw [e] at h2
        exact (List.pairwise_append.mp h2).2.2 r (List.mem_of_getLast? hr) p List.mem_cons_self
      · have : lastD (pr ++ [p]) = pairD p := by
          unfold lastD
          rw [getLast_snoc]
          rfl
        rw [this])
  have e1 : dList (fVar 0) [.val (pairsD as), .val (natD n), .val (natD m), .val .none, .no] = some (as.map pairD) := rfl
  have e2 : isiD "list" (pairsD as) = some (.bool true) := rfl
  rw [r_is_asked]
  simp only [B_is_asked, sSeq_ap, sIf_ap, bOf_ap, bAnd_ap, bOr_ap, bNot_ap, bYes_ap, fAnd_ap, fOr_ap, fNot_ap, fIf_ap, sPat_ap, pName_ap, pTup_ap, setAll, sSkip_ap, sRet_ap, sOwn_ap, sFrz_ap, frz, frz1, sApp_ap, sIns_ap, sDo_ap, fTup_ap, fLstN_ap, fList_ap, fCall_ap, fCons_ap, fNil_ap, f1_ap, f2_ap, fVar_ap, fC_ap, sFor_ap, List.foldl_cons, List.foldl_nil, List.set_cons_succ, List.set_cons_zero, List.getElem?_cons_zero, List.getElem?_cons_succ, Option.bind_some, fin_rt, fin_nx, Bool.not_true, Bool.not_false, wipeD, nought_fr, one_fr, int_0, int_1, int_2, int_3, int_4, int_8, int_12, len_list, len_tup, len_map, isi_list, isi_tup, isi_str, lt_nn, le_nn, gt_nn, ge_nn, eq_nn, ne_nn, add_nn, whole_n, List.length_map, decide_true, decide_false, leng0, leng1, leng2, leng3, leng4, if_true, if_false, eq_self, Nat.reduceEqDiff, Nat.reduceLT, Nat.reduceLeDiff, e1, e2, h3, h4]
theorem f_is_looks {m : Nat} {b : List (List Rat)} {ds : List Nat} {as : List (Nat × Nat)} (h : Bok m b) (hl : Lok b.length m ds as) : F_is_looks [bookD b, looksD ds as] = some (.bool true) := by
  obtain ⟨r, h1, h2, h3⟩ := h.hd
  obtain ⟨δ', h4, x4, h5⟩ := for_inv (enc := natD) (p := pName 4) (body := B_is_looks_1) (xs := ds) (δ := [.val (bookD b), .val (looksD ds as), .val (natsD ds), .val (pairsD as), .no])
    (fun pr δ => ∃ x4, δ = [.val (bookD b), .val (looksD ds as), .val (natsD ds), .val (pairsD as), x4]) ⟨_, rfl⟩ (by
      rintro pr d po δ e ⟨x4, rfl⟩
      have hd := hl.dm d (by rw [e]; exact List.mem_append_right _ List.mem_cons_self)
      refine ⟨_, _, rfl, ?_, .val (natD d), rfl⟩
      simp only [B_is_looks_1, sSeq_ap, sIf_ap, bOf_ap, bAnd_ap, bOr_ap, bNot_ap, bYes_ap, fAnd_ap, fOr_ap, fNot_ap, fIf_ap, sPat_ap, pName_ap, pTup_ap, setAll, sSkip_ap, sRet_ap, sOwn_ap, sFrz_ap, frz, frz1, sApp_ap, sIns_ap, sDo_ap, fTup_ap, fLstN_ap, fList_ap, fCall_ap, fCons_ap, fNil_ap, f1_ap, f2_ap, fVar_ap, fC_ap, sFor_ap, List.foldl_cons, List.foldl_nil, List.set_cons_succ, List.set_cons_zero, List.getElem?_cons_zero, List.getElem?_cons_succ, Option.bind_some, fin_rt, fin_nx, Bool.not_true, Bool.not_false, wipeD, nought_fr, one_fr, int_0, int_1, int_2, int_3, int_4, int_8, int_12, len_list, len_tup, len_map, isi_list, isi_tup, isi_str, lt_nn, le_nn, gt_nn, ge_nn, eq_nn, ne_nn, add_nn, whole_n, List.length_map, decide_true, decide_false, leng0, leng1, leng2, leng3, leng4, if_true, if_false, eq_self, Nat.reduceEqDiff, Nat.reduceLT, Nat.reduceLeDiff, ix_book h1, len_row, h3, decide_eq_false (show ¬ d < 0 by omega), decide_eq_false (show ¬ m < d by omega)])
  have e1 : dList (fVar 2) [.val (bookD b), .val (looksD ds as), .val (natsD ds), .val (pairsD as), .no] = some (ds.map natD) := rfl
  have e2 : isiD "tuple" (looksD ds as) = some (.bool true) := rfl
  have e3 : lenD [looksD ds as] = some (natD 2) := rfl
  have e4 : isiD "list" (natsD ds) = some (.bool true) := rfl
  have e5 : lenD [natsD ds] = some (natD b.length) := by rw [← hl.dn]; exact len_map _ _
  have e6 : ∀ δ, pTup [2, 3] (looksD ds as) δ = setAll [2, 3] [natsD ds, pairsD as] δ := fun _ => rfl
  rw [r_is_looks]
  simp only [B_is_looks, sSeq_ap, sIf_ap, bOf_ap, bAnd_ap, bOr_ap, bNot_ap, bYes_ap, fAnd_ap, fOr_ap, fNot_ap, fIf_ap, sPat_ap, pName_ap, pTup_ap, setAll, sSkip_ap, sRet_ap, sOwn_ap, sFrz_ap, frz, frz1, sApp_ap, sIns_ap, sDo_ap, fTup_ap, fLstN_ap, fList_ap, fCall_ap, fCons_ap, fNil_ap, f1_ap, f2_ap, fVar_ap, fC_ap, sFor_ap, List.foldl_cons, List.foldl_nil, List.set_cons_succ, List.set_cons_zero, List.getElem?_cons_zero, List.getElem?_cons_succ, Option.bind_some, fin_rt, fin_nx, Bool.not_true, Bool.not_false, wipeD, nought_fr, one_fr, int_0, int_1, int_2, int_3, int_4, int_8, int_12, len_list, len_tup, len_map, isi_list, isi_tup, isi_str, lt_nn, le_nn, gt_nn, ge_nn, eq_nn, ne_nn, add_nn, whole_n, List.length_map, decide_true, decide_false, leng0, leng1, leng2, leng3, leng4, if_true, if_false, eq_self, Nat.reduceEqDiff, Nat.reduceLT, Nat.reduceLeDiff, e1, e2, e3, e4, e5, e6, len_book, h4, h5, ix_book h1, len_row, h3, f_asked hl.an hl.ar]
theorem f_look_at_looks {m : Nat} {b : List (List Rat)} {ds : List Nat} {as : List (Nat × Nat)} (h : Bok m b) (hl : Lok b.length m ds as) : F_look_at_looks [bookD b, looksD ds as] = some .none := by
  rw [r_look_at_looks]
  simp only [B_look_at_looks, sSeq_ap, sIf_ap, bOf_ap, bAnd_ap, bOr_ap, bNot_ap, bYes_ap, fAnd_ap, fOr_ap, fNot_ap, fIf_ap, sPat_ap, pName_ap, pTup_ap, setAll, sSkip_ap, sRet_ap, sOwn_ap, sFrz_ap, frz, frz1, sApp_ap, sIns_ap, sDo_ap, fTup_ap, fLstN_ap, fList_ap, fCall_ap, fCons_ap, fNil_ap, f1_ap, f2_ap, fVar_ap, fC_ap, sFor_ap, List.foldl_cons, List.foldl_nil, List.set_cons_succ, List.set_cons_zero, List.getElem?_cons_zero, List.getElem?_cons_succ, Option.bind_some, fin_rt, fin_nx, Bool.not_true, Bool.not_false, wipeD, nought_fr, one_fr, int_0, int_1, int_2, int_3, int_4, int_8, int_12, len_list, len_tup, len_map, isi_list, isi_tup, isi_str, lt_nn, le_nn, gt_nn, ge_nn, eq_nn, ne_nn, add_nn, whole_n, List.length_map, decide_true, decide_false, leng0, leng1, leng2, leng3, leng4, if_true, if_false, eq_self, Nat.reduceEqDiff, Nat.reduceLT, Nat.reduceLeDiff, f_is_looks h hl]
/-! ### what is read -/
def readR (r : List Rat) (d : Nat) : List Nat := (orderR r).take d
def linesD (b : List (List Rat)) (ds : List Nat) : PyData := .list ((b.zip ds).map fun p => natsD (readR p.1 p.2))
theorem f_read {m : Nat} {b : List (List Rat)} {ds : List Nat} (h : Bok m b) : F_read_lines [bookD b, natsD ds] = some (linesD b ds) := by
  have c : fComp (dZip (fVar 0) (fVar 1)) (pTup [2, 3]) bYes (f2 toD (fCall F_order_of (fCons (fVar 2) fNil)) (fVar 3)) [2, 3] [.val (bookD b), .val (natsD ds), .no, .no] = some ((b.zip ds).map fun p => natsD (readR p.1 p.2)) :=
    comp_map (enc := fun p : List Rat × Nat => PyData.tuple [rowD p.1, natD p.2]) _ (b.zip ds) (by rw [← zipD_map]; rfl) (by have := h.n2; rw [List.length_zip]; omega) fun x hx => ⟨_, rfl, by
      have hm := (List.of_mem_zip hx).1
      have q := f_order (h.wo _ hm) (by rw [h.row _ hm]; exact h.m2)
      have q2 : toD (natsD (orderR x.1)) (natD x.2) = some (natsD (readR x.1 x.2)) := to_map _ _ _
      simp only [sSeq_ap, sIf_ap, bOf_ap, bAnd_ap, bOr_ap, bNot_ap, bYes_ap, fAnd_ap, fOr_ap, fNot_ap, fIf_ap, sPat_ap, pName_ap, pTup_ap, setAll, sSkip_ap, sRet_ap, sOwn_ap, sFrz_ap, frz, frz1, sApp_ap, sIns_ap, sDo_ap, fTup_ap, fLstN_ap, fList_ap, fCall_ap, fCons_ap, fNil_ap, f1_ap, f2_ap, fVar_ap, fC_ap, sFor_ap, List.foldl_cons, List.foldl_nil, List.set_cons_succ, List.set_cons_zero, List.getElem?_cons_zero, List.getElem?_cons_succ, Option.bind_some, fin_rt, fin_nx, Bool.not_true, Bool.not_false, wipeD, nought_fr, one_fr, int_0, int_1, int_2, int_3, int_4, int_8, int_12, len_list, len_tup, len_map, isi_list, isi_tup, isi_str, lt_nn, le_nn, gt_nn, ge_nn, eq_nn, ne_nn, add_nn, whole_n, List.length_map, decide_true, decide_false, leng0, leng1, leng2, leng3, leng4, if_true, if_false, eq_self, Nat.reduceEqDiff, Nat.reduceLT, Nat.reduceLeDiff, q, q2]⟩
  rw [r_read_lines]
  simp only [B_read_lines, sSeq_ap, sIf_ap, bOf_ap, bAnd_ap, bOr_ap, bNot_ap, bYes_ap, fAnd_ap, fOr_ap, fNot_ap, fIf_ap, sPat_ap, pName_ap, pTup_ap, setAll, sSkip_ap, sRet_ap, sOwn_ap, sFrz_ap, frz, frz1, sApp_ap, sIns_ap, sDo_ap, fTup_ap, fLstN_ap, fList_ap, fCall_ap, fCons_ap, fNil_ap, f1_ap, f2_ap, fVar_ap, fC_ap, sFor_ap, List.foldl_cons, List.foldl_nil, List.set_cons_succ, List.set_cons_zero, List.getElem?_cons_zero, List.getElem?_cons_succ, Option.bind_some, fin_rt, fin_nx, Bool.not_true, Bool.not_false, wipeD, nought_fr, one_fr, int_0, int_1, int_2, int_3, int_4, int_8, int_12, len_list, len_tup, len_map, isi_list, isi_tup, isi_str, lt_nn, le_nn, gt_nn, ge_nn, eq_nn, ne_nn, add_nn, whole_n, List.length_map, decide_true, decide_false, leng0, leng1, leng2, leng3, leng4, if_true, if_false, eq_self, Nat.reduceEqDiff, Nat.reduceLT, Nat.reduceLeDiff, c]
  rfl
/-- a loop that appends something for each -/
theorem loop_app {α : Type} {enc : α → PyData} {p : FP} {body : FS} (g : α → PyData) (xs : List α) (δ : DEnv) (st : List PyData → DEnv → Prop) (h0 : st [] δ)
    (hs : ∀ (acc : List PyData) (x : α) (δ : DEnv), acc.length ≤ xs.length → x ∈ xs → st acc δ → ∃ δ1 δ2, p (enc x) δ = some δ1 ∧ body δ1 = some (.nx δ2) ∧ st (acc ++ [g x]) δ2) :
    ∃ δ', forD p body (xs.map enc) δ = some (.nx δ') ∧ st (xs.map g) δ' :=
  for_inv (fun pr δ => st (pr.map g) δ) h0 fun pr x po δ e i => by
    have hl : (pr.map g).length ≤ xs.length := by rw [List.length_map, e, List.length_append]; omega
    obtain ⟨δ1, δ2, q1, q2, q3⟩ := hs _ x δ hl (by rw [e]; exact List.mem_append_right _ List.mem_cons_self) i
    refine ⟨δ1, δ2, q1, q2, ?_⟩
    rw [List.map_append, List.map_cons, List.map_nil]
    exact q3
def optD : Option Rat → PyData
  | some r => frR r
  | none => .none
def seeV (lines : List Nat) (as : List (Nat × Nat)) (k : Nat) (p : Rat × Nat) : Option Rat := if p.2 ∈ lines ∨ (k, p.2) ∈ as then some p.1 else none
def seeRow (as : List (Nat × Nat)) (q : (List Rat × Nat) × Nat) : List (Option Rat) := q.1.1.zipIdx.map (seeV (readR q.1.1 q.1.2) as q.2)
def seenR (b : List (List Rat)) (ds : List Nat) (as : List (Nat × Nat)) : List (List (Option Rat)) := (b.zip ds).zipIdx.map (seeRow as)
def orowD (r : List (Option Rat)) : PyData := .list (r.map optD)
def seenD (s : List (List (Option Rat))) : PyData := .list (s.map orowD)
theorem see_step1 {a0 a1 a2 a4 : DV} {as : List (Nat × Nat)} {k : Nat} {ls : List Nat} {acc : List PyData} {p : Rat × Nat} (hl : acc.length ≤ 1000) :
    B_seen_of_1 [a0, a1, a2, .val (pairsD as), a4, .val (natD k), .val (natsD ls), .own acc, .val (natD p.2), .val (frR p.1)] =
      some (.nx [a0, a1, a2, .val (pairsD as), a4, .val (natD k), .val (natsD ls), .own (acc ++ [optD (seeV ls as k p)]), .val (natD p.2), .val (frR p.1)]) := by
  have e1 : inD (natD p.2) (natsD ls) = some (.bool (decide (p.2 ∈ ls))) := in_n _ _
  have e2 : inD (.tuple [natD k, natD p.2]) (pairsD as) = some (.bool (decide ((k, p.2) ∈ as))) := in_p (k, p.2) as
  unfold seeV
  by_cases q1 : p.2 ∈ ls
  · have e3 : decide (p.2 ∈ ls) = true := decide_eq_true q1
    rw [if_pos (.inl q1)]
    simp only [B_seen_of_1, sSeq_ap, sIf_ap, bOf_ap, bAnd_ap, bOr_ap, bNot_ap, bYes_ap, fAnd_ap, fOr_ap, fNot_ap, fIf_ap, sPat_ap, pName_ap, pTup_ap, setAll, sSkip_ap, sRet_ap, sOwn_ap, sFrz_ap, frz, frz1, sApp_ap, sIns_ap, sDo_ap, fTup_ap, fLstN_ap, fList_ap, fCall_ap, fCons_ap, fNil_ap, f1_ap, f2_ap, fVar_ap, fC_ap, sFor_ap, List.foldl_cons, List.foldl_nil, List.set_cons_succ, List.set_cons_zero, List.getElem?_cons_zero, List.getElem?_cons_succ, Option.bind_some, fin_rt, fin_nx, Bool.not_true, Bool.not_false, wipeD, nought_fr, one_fr, int_0, int_1, int_2, int_3, int_4, int_8, int_12, len_list, len_tup, len_map, isi_list, isi_tup, isi_str, lt_nn, le_nn, gt_nn, ge_nn, eq_nn, ne_nn, add_nn, whole_n, List.length_map, decide_true, decide_false, leng0, leng1, leng2, leng3, leng4, if_true, if_false, eq_self, Nat.reduceEqDiff, Nat.reduceLT, Nat.reduceLeDiff, e1, e3, app_eq _ _ _ hl]
    rfl
  · have e3 : decide (p.2 ∈ ls) = false := decide_eq_false q1
    by_cases q2 : (k, p.2) ∈ as
    · have e4 : decide ((k, p.2) ∈ as) = true := decide_eq_true q2
      rw [if_pos (.inr q2)]
      simp only [B_seen_of_1, sSeq_ap, sIf_ap, bOf_ap, bAnd_ap, bOr_ap, bNot_ap, bYes_ap, fAnd_ap, fOr_ap, fNot_ap, fIf_ap, sPat_ap, pName_ap, pTup_ap, setAll, sSkip_ap, sRet_ap, sOwn_ap, sFrz_ap, frz, frz1, sApp_ap, sIns_ap, sDo_ap, fTup_ap, fLstN_ap, fList_ap, fCall_ap, fCons_ap, fNil_ap, f1_ap, f2_ap, fVar_ap, fC_ap, sFor_ap, List.foldl_cons, List.foldl_nil, List.set_cons_succ, List.set_cons_zero, List.getElem?_cons_zero, List.getElem?_cons_succ, Option.bind_some, fin_rt, fin_nx, Bool.not_true, Bool.not_false, wipeD, nought_fr, one_fr, int_0, int_1, int_2, int_3, int_4, int_8, int_12, len_list, len_tup, len_map, isi_list, isi_tup, isi_str, lt_nn, le_nn, gt_nn, ge_nn, eq_nn, ne_nn, add_nn, whole_n, List.length_map, decide_true, decide_false, leng0, leng1, leng2, leng3, leng4, if_true, if_false, eq_self, Nat.reduceEqDiff, Nat.reduceLT, Nat.reduceLeDiff, e1, e2, e3, e4, app_eq _ _ _ hl]
      rfl
    · have e4 : decide ((k, p.2) ∈ as) = false := decide_eq_false q2
      rw [if_neg (fun z => z.elim q1 q2)]
      simp only [B_seen_of_1, sSeq_ap, sIf_ap, bOf_ap, bAnd_ap, bOr_ap, bNot_ap, bYes_ap, fAnd_ap, fOr_ap, fNot_ap, fIf_ap, sPat_ap, pName_ap, pTup_ap, setAll, sSkip_ap, sRet_ap, sOwn_ap, sFrz_ap, frz, frz1, sApp_ap, sIns_ap, sDo_ap, fTup_ap, fLstN_ap, fList_ap, fCall_ap, fCons_ap, fNil_ap, f1_ap, f2_ap, fVar_ap, fC_ap, sFor_ap, List.foldl_cons, List.foldl_nil, List.set_cons_succ, List.set_cons_zero, List.getElem?_cons_zero, List.getElem?_cons_succ, Option.bind_some, fin_rt, fin_nx, Bool.not_true, Bool.not_false, wipeD, nought_fr, one_fr, int_0, int_1, int_2, int_3, int_4, int_8, int_12, len_list, len_tup, len_map, isi_list, isi_tup, isi_str, lt_nn, le_nn, gt_nn, ge_nn, eq_nn, ne_nn, add_nn, whole_n, List.length_map, decide_true, decide_false, leng0, leng1, leng2, leng3, leng4, if_true, if_false, eq_self, Nat.reduceEqDiff, Nat.reduceLT, Nat.reduceLeDiff, e1, e2, e3, e4, app_eq _ _ _ hl]
      rfl
theorem see_step2 {b : List (List Rat)} {a1 a2 x7 x8 x9 : DV} {as : List (Nat × Nat)} {k : Nat} {r : List Rat} {d : Nat} {acc : List PyData} (hk : b[k]? = some r) (hr : r.length ≤ 12) (hl : acc.length ≤ 1000) :
    ∃ y7 y8 y9, B_seen_of_2 [.val (bookD b), a1, a2, .val (pairsD as), .own acc, .val (natD k), .val (natsD (readR r d)), x7, x8, x9] =
      some (.nx [.val (bookD b), a1, a2, .val (pairsD as), .own (acc ++ [orowD (seeRow as ((r, d), k))]), .val (natD k), .val (natsD (readR r d)), y7, y8, y9]) := by
  obtain ⟨δ', h1, y8, y9, h2⟩ := loop_app (enc := fun p : Rat × Nat => PyData.tuple [.int (p.2 : Int), frR p.1]) (p := pTup [8, 9]) (body := B_seen_of_1) (fun p => optD (seeV (readR r d) as k p)) r.zipIdx
    [.val (bookD b), a1, a2, .val (pairsD as), .own acc, .val (natD k), .val (natsD (readR r d)), .own [], x8, x9]
    (fun row δ => ∃ y8 y9, δ = [.val (bookD b), a1, a2, .val (pairsD as), .own acc, .val (natD k), .val (natsD (readR r d)), .own row, y8, y9]) ⟨_, _, rfl⟩ (by
      rintro row p δ hrl hp ⟨y8, y9, rfl⟩
      rw [List.length_zipIdx] at hrl
      exact ⟨_, _, rfl, see_step1 (by omega), _, _, rfl⟩)
  have e1 : dEnum (f2 ixD (fVar 0) (fVar 5)) [.val (bookD b), a1, a2, .val (pairsD as), .own acc, .val (natD k), .val (natsD (readR r d)), .own [], x8, x9] = some (r.zipIdx.map fun p : Rat × Nat => PyData.tuple [.int (p.2 : Int), frR p.1]) := by
    rw [← enumD_map, dEnum_ap]
    simp only [sSeq_ap, sIf_ap, bOf_ap, bAnd_ap, bOr_ap, bNot_ap, bYes_ap, fAnd_ap, fOr_ap, fNot_ap, fIf_ap, sPat_ap, pName_ap, pTup_ap, setAll, sSkip_ap, sRet_ap, sOwn_ap, sFrz_ap, frz, frz1, sApp_ap, sIns_ap, sDo_ap, fTup_ap, fLstN_ap, fList_ap, fCall_ap, fCons_ap, fNil_ap, f1_ap, f2_ap, fVar_ap, fC_ap, sFor_ap, List.foldl_cons, List.foldl_nil, List.set_cons_succ, List.set_cons_zero, List.getElem?_cons_zero, List.getElem?_cons_succ, Option.bind_some, fin_rt, fin_nx, Bool.not_true, Bool.not_false, wipeD, nought_fr, one_fr, int_0, int_1, int_2, int_3, int_4, int_8, int_12, len_list, len_tup, len_map, isi_list, isi_tup, isi_str, lt_nn, le_nn, gt_nn, ge_nn, eq_nn, ne_nn, add_nn, whole_n, List.length_map, decide_true, decide_false, leng0, leng1, leng2, leng3, leng4, if_true, if_false, eq_self, Nat.reduceEqDiff, Nat.reduceLT, Nat.reduceLeDiff, ix_book hk]
    rfl
  refine ⟨.val (orowD (seeRow as ((r, d), k))), y8, y9, ?_⟩
  simp only [B_seen_of_2, sSeq_ap, sIf_ap, bOf_ap, bAnd_ap, bOr_ap, bNot_ap, bYes_ap, fAnd_ap, fOr_ap, fNot_ap, fIf_ap, sPat_ap, pName_ap, pTup_ap, setAll, sSkip_ap, sRet_ap, sOwn_ap, sFrz_ap, frz, frz1, sApp_ap, sIns_ap, sDo_ap, fTup_ap, fLstN_ap, fList_ap, fCall_ap, fCons_ap, fNil_ap, f1_ap, f2_ap, fVar_ap, fC_ap, sFor_ap, List.foldl_cons, List.foldl_nil, List.set_cons_succ, List.set_cons_zero, List.getElem?_cons_zero, List.getElem?_cons_succ, Option.bind_some, fin_rt, fin_nx, Bool.not_true, Bool.not_false, wipeD, nought_fr, one_fr, int_0, int_1, int_2, int_3, int_4, int_8, int_12, len_list, len_tup, len_map, isi_list, isi_tup, isi_str, lt_nn, le_nn, gt_nn, ge_nn, eq_nn, ne_nn, add_nn, whole_n, List.length_map, decide_true, decide_false, leng0, leng1, leng2, leng3, leng4, if_true, if_false, eq_self, Nat.reduceEqDiff, Nat.reduceLT, Nat.reduceLeDiff, e1, h1, h2, app_eq _ _ _ hl]
  have e2 : PyData.list (r.zipIdx.map fun p => optD (seeV (readR r d) as k p)) = orowD (seeRow as ((r, d), k)) := by
    unfold orowD seeRow
    rw [List.map_map]
    rfl
  rw [e2]
theorem zip_len {b : List (List Rat)} {ds : List Nat} (h : ds.length = b.length) : (b.zip ds).length = b.length := by rw [List.length_zip]; omega
theorem f_seen_of {m : Nat} {b : List (List Rat)} {ds : List Nat} {as : List (Nat × Nat)} (h : Bok m b) (hd : ds.length = b.length) : F_seen_of [bookD b, looksD ds as] = some (seenD (seenR b ds as)) := by
  have n2 := h.n2
  obtain ⟨δ', h1, x5, x6, x7, x8, x9, h2⟩ := loop_app (enc := fun q : (List Rat × Nat) × Nat => PyData.tuple [.int (q.2 : Int), natsD (readR q.1.1 q.1.2)]) (p := pTup [5, 6]) (body := B_seen_of_2) (fun q => orowD (seeRow as q)) (b.zip ds).zipIdx
    [.val (bookD b), .val (looksD ds as), .val (natsD ds), .val (pairsD as), .own [], .no, .no, .no, .no, .no]
    (fun acc δ => ∃ x5 x6 x7 x8 x9, δ = [.val (bookD b), .val (looksD ds as), .val (natsD ds), .val (pairsD as), .own acc, x5, x6, x7, x8, x9]) ⟨_, _, _, _, _, rfl⟩ (by
      rintro acc ⟨⟨r, d⟩, k⟩ δ hal hq ⟨x5, x6, x7, x8, x9, rfl⟩
      have hz := List.mk_mem_zipIdx_iff_getElem?.mp hq
      have hk : b[k]? = some r := by
        rw [List.getElem?_zip_eq_some] at hz
        exact hz.1
      rw [List.length_zipIdx, zip_len hd] at hal
      obtain ⟨y7, y8, y9, hb⟩ := see_step2 (a1 := .val (looksD ds as)) (a2 := .val (natsD ds)) (x7 := x7) (x8 := x8) (x9 := x9) (as := as) (d := d) (acc := acc) hk (by rw [h.row r (List.mem_of_getElem? hk)]; exact h.m2) (by omega)
      exact ⟨_, _, rfl, hb, _, _, _, _, _, rfl⟩)
  have e1 : dEnum (fCall F_read_lines (fCons (fVar 0) (fCons (fVar 2) fNil))) [.val (bookD b), .val (looksD ds as), .val (natsD ds), .val (pairsD as), .own [], .no, .no, .no, .no, .no] =
      some ((b.zip ds).zipIdx.map fun q : (List Rat × Nat) × Nat => PyData.tuple [.int (q.2 : Int), natsD (readR q.1.1 q.1.2)]) := by
    rw [← enumD_map (fun p : List Rat × Nat => natsD (readR p.1 p.2)), dEnum_ap]
    simp only [sSeq_ap, sIf_ap, bOf_ap, bAnd_ap, bOr_ap, bNot_ap, bYes_ap, fAnd_ap, fOr_ap, fNot_ap, fIf_ap, sPat_ap, pName_ap, pTup_ap, setAll, sSkip_ap, sRet_ap, sOwn_ap, sFrz_ap, frz, frz1, sApp_ap, sIns_ap, sDo_ap, fTup_ap, fLstN_ap, fList_ap, fCall_ap, fCons_ap, fNil_ap, f1_ap, f2_ap, fVar_ap, fC_ap, sFor_ap, List.foldl_cons, List.foldl_nil, List.set_cons_succ, List.set_cons_zero, List.getElem?_cons_zero, List.getElem?_cons_succ, Option.bind_some, fin_rt, fin_nx, Bool.not_true, Bool.not_false, wipeD, nought_fr, one_fr, int_0, int_1, int_2, int_3, int_4, int_8, int_12, len_list, len_tup, len_map, isi_list, isi_tup, isi_str, lt_nn, le_nn, gt_nn, ge_nn, eq_nn, ne_nn, add_nn, whole_n, List.length_map, decide_true, decide_false, leng0, leng1, leng2, leng3, leng4, if_true, if_false, eq_self, Nat.reduceEqDiff, Nat.reduceLT, Nat.reduceLeDiff, f_read h]
    rfl
  have e6 : ∀ δ, pTup [2, 3] (looksD ds as) δ = setAll [2, 3] [natsD ds, pairsD as] δ := fun _ => rfl
  rw [r_seen_of]
  simp only [B_seen_of, sSeq_ap, sIf_ap, bOf_ap, bAnd_ap, bOr_ap, bNot_ap, bYes_ap, fAnd_ap, fOr_ap, fNot_ap, fIf_ap, sPat_ap, pName_ap, pTup_ap, setAll, sSkip_ap, sRet_ap, sOwn_ap, sFrz_ap, frz, frz1, sApp_ap, sIns_ap, sDo_ap, fTup_ap, fLstN_ap, fList_ap, fCall_ap, fCons_ap, fNil_ap, f1_ap, f2_ap, fVar_ap, fC_ap, sFor_ap, List.foldl_cons, List.foldl_nil, List.set_cons_succ, List.set_cons_zero, List.getElem?_cons_zero, List.getElem?_cons_succ, Option.bind_some, fin_rt, fin_nx, Bool.not_true, Bool.not_false, wipeD, nought_fr, one_fr, int_0, int_1, int_2, int_3, int_4, int_8, int_12, len_list, len_tup, len_map, isi_list, isi_tup, isi_str, lt_nn, le_nn, gt_nn, ge_nn, eq_nn, ne_nn, add_nn, whole_n, List.length_map, decide_true, decide_false, leng0, leng1, leng2, leng3, leng4, if_true, if_false, eq_self, Nat.reduceEqDiff, Nat.reduceLT, Nat.reduceLeDiff, e6, e1, h1, h2]
  have e2 : PyData.list ((b.zip ds).zipIdx.map fun q => orowD (seeRow as q)) = seenD (seenR b ds as) := by
    unfold seenD seenR
    rw [List.map_map]
    rfl
  rw [e2]
theorem f_seen_worths {m : Nat} {b : List (List Rat)} {ds : List Nat} {as : List (Nat × Nat)} (h : Bok m b) (hl : Lok b.length m ds as) : F_seen_worths [bookD b, looksD ds as] = some (seenD (seenR b ds as)) := by
  rw [r_seen_worths]
  simp only [B_seen_worths, sSeq_ap, sIf_ap, bOf_ap, bAnd_ap, bOr_ap, bNot_ap, bYes_ap, fAnd_ap, fOr_ap, fNot_ap, fIf_ap, sPat_ap, pName_ap, pTup_ap, setAll, sSkip_ap, sRet_ap, sOwn_ap, sFrz_ap, frz, frz1, sApp_ap, sIns_ap, sDo_ap, fTup_ap, fLstN_ap, fList_ap, fCall_ap, fCons_ap, fNil_ap, f1_ap, f2_ap, fVar_ap, fC_ap, sFor_ap, List.foldl_cons, List.foldl_nil, List.set_cons_succ, List.set_cons_zero, List.getElem?_cons_zero, List.getElem?_cons_succ, Option.bind_some, fin_rt, fin_nx, Bool.not_true, Bool.not_false, wipeD, nought_fr, one_fr, int_0, int_1, int_2, int_3, int_4, int_8, int_12, len_list, len_tup, len_map, isi_list, isi_tup, isi_str, lt_nn, le_nn, gt_nn, ge_nn, eq_nn, ne_nn, add_nn, whole_n, List.length_map, decide_true, decide_false, leng0, leng1, leng2, leng3, leng4, if_true, if_false, eq_self, Nat.reduceEqDiff, Nat.reduceLT, Nat.reduceLeDiff, f_look_at_book h, f_look_at_looks h hl, f_seen_of h hl.dn]
/-! ### last worths -/
def lastOne (p : List Rat × Nat) : Rat := match (readR p.1 p.2).getLast? with
  | none => 1
  | some i => W p.1 i
def lastR (b : List (List Rat)) (ds : List Nat) : List Rat := (b.zip ds).map lastOne
theorem read_lt {r : List Rat} {d i : Nat} (h : i ∈ readR r d) : i < r.length := order_mem.mp (List.mem_of_mem_take h)
theorem neg_1 : negD (natD 1) = some (.int (-1)) := rfl
theorem ix_last {ls : List Nat} {i : Nat} (h : ls.getLast? = some i) : ixD (natsD ls) (.int (-1)) = some (natD i) := by
  have hne : ls.map natD ≠ [] := by
    intro z
    rw [List.map_eq_nil_iff.mp z] at h
    cases h
  show L2.atI (ls.map natD) (-1) = _
  rw [atI_last' _ hne, List.getLast?_map, h]
  rfl
theorem last_step {a0 a1 : DV} {r : List Rat} {d : Nat} {acc : List PyData} (hl : acc.length ≤ 1000) : B_last_of_1 [a0, a1, .own acc, .val (rowD r), .val (natsD (readR r d))] = some (.nx [a0, a1, .own (acc ++ [frR (lastOne (r, d))]), .val (rowD r), .val (natsD (readR r d))]) := by
  have e1 : lenD [natsD (readR r d)] = some (natD (readR r d).length) := len_map _ _
  unfold lastOne
  cases q : (readR r d).getLast? with
  | none =>
    have e2 : (readR r d).length = 0 := by rw [List.getLast?_eq_none_iff.mp q]; rfl
    simp only [B_last_of_1, sSeq_ap, sIf_ap, bOf_ap, bAnd_ap, bOr_ap, bNot_ap, bYes_ap, fAnd_ap, fOr_ap, fNot_ap, fIf_ap, sPat_ap, pName_ap, pTup_ap, setAll, sSkip_ap, sRet_ap, sOwn_ap, sFrz_ap, frz, frz1, sApp_ap, sIns_ap, sDo_ap, fTup_ap, fLstN_ap, fList_ap, fCall_ap, fCons_ap, fNil_ap, f1_ap, f2_ap, fVar_ap, fC_ap, sFor_ap, List.foldl_cons, List.foldl_nil, List.set_cons_succ, List.set_cons_zero, List.getElem?_cons_zero, List.getElem?_cons_succ, Option.bind_some, fin_rt, fin_nx, Bool.not_true, Bool.not_false, wipeD, nought_fr, one_fr, int_0, int_1, int_2, int_3, int_4, int_8, int_12, len_list, len_tup, len_map, isi_list, isi_tup, isi_str, lt_nn, le_nn, gt_nn, ge_nn, eq_nn, ne_nn, add_nn, whole_n, List.length_map, decide_true, decide_false, leng0, leng1, leng2, leng3, leng4, if_true, if_false, eq_self, Nat.reduceEqDiff, Nat.reduceLT, Nat.reduceLeDiff, e1, e2, app_eq _ _ _ hl]
  | some i =>
    have e2 : decide ((readR r d).length = 0) = false := decide_eq_false fun z => by
      rw [List.length_eq_zero_iff.mp z] at q
      cases q
    simp only [B_last_of_1, sSeq_ap, sIf_ap, bOf_ap, bAnd_ap, bOr_ap, bNot_ap, bYes_ap, fAnd_ap, fOr_ap, fNot_ap, fIf_ap, sPat_ap, pName_ap, pTup_ap, setAll, sSkip_ap, sRet_ap, sOwn_ap, sFrz_ap, frz, frz1, sApp_ap, sIns_ap, sDo_ap, fTup_ap, fLstN_ap, fList_ap, fCall_ap, fCons_ap, fNil_ap, f1_ap, f2_ap, fVar_ap, fC_ap, sFor_ap, List.foldl_cons, List.foldl_nil, List.set_cons_succ, List.set_cons_zero, List.getElem?_cons_zero, List.getElem?_cons_succ, Option.bind_some, fin_rt, fin_nx, Bool.not_true, Bool.not_false, wipeD, nought_fr, one_fr, int_0, int_1, int_2, int_3, int_4, int_8, int_12, len_list, len_tup, len_map, isi_list, isi_tup, isi_str, lt_nn, le_nn, gt_nn, ge_nn, eq_nn, ne_nn, add_nn, whole_n, List.length_map, decide_true, decide_false, leng0, leng1, leng2, leng3, leng4, if_true, if_false, eq_self, Nat.reduceEqDiff, Nat.reduceLT, Nat.reduceLeDiff, e1, e2, neg_1, ix_last q, ix_row (at_W (read_lt (List.mem_of_getLast? q))), app_eq _ _ _ hl]
theorem zipD_zip {α β : Type} (f : α → PyData) (g : α × β → PyData) : ∀ (xs : List α) (ys : List β), zipD (xs.map f) ((xs.zip ys).map g) = (xs.zip ys).map fun p => PyData.tuple [f p.1, g p]
  | [], _ => rfl
  | _ :: _, [] => rfl
  | x :: r, y :: s => by
    show PyData.tuple [f x, g (x, y)] :: zipD (r.map f) ((r.zip s).map g) = _
    rw [zipD_zip f g r s]
    rfl
theorem f_last {m : Nat} {b : List (List Rat)} {ds : List Nat} (h : Bok m b) (hd : ds.length = b.length) : F_last_of [bookD b, natsD ds] = some (rowD (lastR b ds)) := by
  have n2 := h.n2
  obtain ⟨δ', h1, x3, x4, h2⟩ := loop_app (enc := fun p : List Rat × Nat => PyData.tuple [rowD p.1, natsD (readR p.1 p.2)]) (p := pTup [3, 4]) (body := B_last_of_1) (fun p => frR (lastOne p)) (b.zip ds)
    [.val (bookD b), .val (natsD ds), .own [], .no, .no]
    (fun acc δ => ∃ x3 x4, δ = [.val (bookD b), .val (natsD ds), .own acc, x3, x4]) ⟨_, _, rfl⟩ (by
      rintro acc ⟨r, d⟩ δ hal hq ⟨x3, x4, rfl⟩
      rw [zip_len hd] at hal
      exact ⟨_, _, rfl, last_step (by omega), _, _, rfl⟩)
  have e1 : dZip (fVar 0) (fCall F_read_lines (fCons (fVar 0) (fCons (fVar 1) fNil))) [.val (bookD b), .val (natsD ds), .own [], .no, .no] = some ((b.zip ds).map fun p : List Rat × Nat => PyData.tuple [rowD p.1, natsD (readR p.1 p.2)]) := by
    rw [← zipD_zip rowD (fun p : List Rat × Nat => natsD (readR p.1 p.2)), dZip_ap]
    simp only [sSeq_ap, sIf_ap, bOf_ap, bAnd_ap, bOr_ap, bNot_ap, bYes_ap, fAnd_ap, fOr_ap, fNot_ap, fIf_ap, sPat_ap, pName_ap, pTup_ap, setAll, sSkip_ap, sRet_ap, sOwn_ap, sFrz_ap, frz, frz1, sApp_ap, sIns_ap, sDo_ap, fTup_ap, fLstN_ap, fList_ap, fCall_ap, fCons_ap, fNil_ap, f1_ap, f2_ap, fVar_ap, fC_ap, sFor_ap, List.foldl_cons, List.foldl_nil, List.set_cons_succ, List.set_cons_zero, List.getElem?_cons_zero, List.getElem?_cons_succ, Option.bind_some, fin_rt, fin_nx, Bool.not_true, Bool.not_false, wipeD, nought_fr, one_fr, int_0, int_1, int_2, int_3, int_4, int_8, int_12, len_list, len_tup, len_map, isi_list, isi_tup, isi_str, lt_nn, le_nn, gt_nn, ge_nn, eq_nn, ne_nn, add_nn, whole_n, List.length_map, decide_true, decide_false, leng0, leng1, leng2, leng3, leng4, if_true, if_false, eq_self, Nat.reduceEqDiff, Nat.reduceLT, Nat.reduceLeDiff, f_read h]
    rfl
  rw [r_last_of]
  simp only [B_last_of, sSeq_ap, sIf_ap, bOf_ap, bAnd_ap, bOr_ap, bNot_ap, bYes_ap, fAnd_ap, fOr_ap, fNot_ap, fIf_ap, sPat_ap, pName_ap, pTup_ap, setAll, sSkip_ap, sRet_ap, sOwn_ap, sFrz_ap, frz, frz1, sApp_ap, sIns_ap, sDo_ap, fTup_ap, fLstN_ap, fList_ap, fCall_ap, fCons_ap, fNil_ap, f1_ap, f2_ap, fVar_ap, fC_ap, sFor_ap, List.foldl_cons, List.foldl_nil, List.set_cons_succ, List.set_cons_zero, List.getElem?_cons_zero, List.getElem?_cons_succ, Option.bind_some, fin_rt, fin_nx, Bool.not_true, Bool.not_false, wipeD, nought_fr, one_fr, int_0, int_1, int_2, int_3, int_4, int_8, int_12, len_list, len_tup, len_map, isi_list, isi_tup, isi_str, lt_nn, le_nn, gt_nn, ge_nn, eq_nn, ne_nn, add_nn, whole_n, List.length_map, decide_true, decide_false, leng0, leng1, leng2, leng3, leng4, if_true, if_false, eq_self, Nat.reduceEqDiff, Nat.reduceLT, Nat.reduceLeDiff, e1, h1, h2]
  unfold lastR rowD
  rw [List.map_map]
  rfl
/-! ### bounds -/
def fillV (p : Option Rat × Rat) : Rat := p.1.getD p.2
def fillR (row : List (Option Rat)) (others : List Rat) : List Rat := (row.zip others).map fillV
theorem f_filled {row : List (Option Rat)} {others : List Rat} (hl : row.length ≤ 1000) : F_filled [orowD row, rowD others] = some (rowD (fillR row others)) := by
  have c : fComp (dZip (fVar 0) (fVar 1)) (pTup [2, 3]) bYes (fIf (bOf (f1 isNoneD (fVar 2))) (fVar 3) (fVar 2)) [2, 3] [.val (orowD row), .val (rowD others), .no, .no] = some ((row.zip others).map fun p => frR (fillV p)) :=
    comp_map (enc := fun p : Option Rat × Rat => PyData.tuple [optD p.1, frR p.2]) _ (row.zip others) (by rw [← zipD_map]; rfl) (by rw [List.length_zip]; omega) fun x hx => ⟨_, rfl, by
      obtain ⟨o, w⟩ := x
      cases o with
      | none => have e : isNoneD (optD none) = some (.bool true) := rfl
                simp only [sSeq_ap, sIf_ap, bOf_ap, bAnd_ap, bOr_ap, bNot_ap, bYes_ap, fAnd_ap, fOr_ap, fNot_ap, fIf_ap, sPat_ap, pName_ap, pTup_ap, setAll, sSkip_ap, sRet_ap, sOwn_ap, sFrz_ap, frz, frz1, sApp_ap, sIns_ap, sDo_ap, fTup_ap, fLstN_ap, fList_ap, fCall_ap, fCons_ap, fNil_ap, f1_ap, f2_ap, fVar_ap, fC_ap, sFor_ap, List.foldl_cons, List.foldl_nil, List.set_cons_succ, List.set_cons_zero, List.getElem?_cons_zero, List.getElem?_cons_succ, Option.bind_some, fin_rt, fin_nx, Bool.not_true, Bool.not_false, wipeD, nought_fr, one_fr, int_0, int_1, int_2, int_3, int_4, int_8, int_12, len_list, len_tup, len_map, isi_list, isi_tup, isi_str, lt_nn, le_nn, gt_nn, ge_nn, eq_nn, ne_nn, add_nn, whole_n, List.length_map, decide_true, decide_false, leng0, leng1, leng2, leng3, leng4, if_true, if_false, eq_self, Nat.reduceEqDiff, Nat.reduceLT, Nat.reduceLeDiff, e]; rfl
      | some v => have e : isNoneD (optD (some v)) = some (.bool false) := rfl
                  simp only [sSeq_ap, sIf_ap, bOf_ap, bAnd_ap, bOr_ap, bNot_ap, bYes_ap, fAnd_ap, fOr_ap, fNot_ap, fIf_ap, sPat_ap, pName_ap, pTup_ap, setAll, sSkip_ap, sRet_ap, sOwn_ap, sFrz_ap, frz, frz1, sApp_ap, sIns_ap, sDo_ap, fTup_ap, fLstN_ap, fList_ap, fCall_ap, fCons_ap, fNil_ap, f1_ap, f2_ap, fVar_ap, fC_ap, sFor_ap, List.foldl_cons, List.foldl_nil, List.set_cons_succ, List.set_cons_zero, List.getElem?_cons_zero, List.getElem?_cons_succ, Option.bind_some, fin_rt, fin_nx, Bool.not_true, Bool.not_false, wipeD, nought_fr, one_fr, int_0, int_1, int_2, int_3, int_4, int_8, int_12, len_list, len_tup, len_map, isi_list, isi_tup, isi_str, lt_nn, le_nn, gt_nn, ge_nn, eq_nn, ne_nn, add_nn, whole_n, List.length_map, decide_true, decide_false, leng0, leng1, leng2, leng3, leng4, if_true, if_false, eq_self, Nat.reduceEqDiff, Nat.reduceLT, Nat.reduceLeDiff, e]; rfl⟩
  rw [r_filled]
  simp only [B_filled, sSeq_ap, sIf_ap, bOf_ap, bAnd_ap, bOr_ap, bNot_ap, bYes_ap, fAnd_ap, fOr_ap, fNot_ap, fIf_ap, sPat_ap, pName_ap, pTup_ap, setAll, sSkip_ap, sRet_ap, sOwn_ap, sFrz_ap, frz, frz1, sApp_ap, sIns_ap, sDo_ap, fTup_ap, fLstN_ap, fList_ap, fCall_ap, fCons_ap, fNil_ap, f1_ap, f2_ap, fVar_ap, fC_ap, sFor_ap, List.foldl_cons, List.foldl_nil, List.set_cons_succ, List.set_cons_zero, List.getElem?_cons_zero, List.getElem?_cons_succ, Option.bind_some, fin_rt, fin_nx, Bool.not_true, Bool.not_false, wipeD, nought_fr, one_fr, int_0, int_1, int_2, int_3, int_4, int_8, int_12, len_list, len_tup, len_map, isi_list, isi_tup, isi_str, lt_nn, le_nn, gt_nn, ge_nn, eq_nn, ne_nn, add_nn, whole_n, List.length_map, decide_true, decide_false, leng0, leng1, leng2, leng3, leng4, if_true, if_false, eq_self, Nat.reduceEqDiff, Nat.reduceLT, Nat.reduceLeDiff, c]
  unfold fillR rowD
  rw [List.map_map]
  rfl
def bndD (p : Rat × Rat) : PyData := .tuple [frR p.1, frR p.2]
def bndsD (bs : List (Rat × Rat)) : PyData := .list (bs.map bndD)
def colR (seen : List (List (Option Rat))) (t : Nat) : List (Option Rat) := seen.map fun ws => ws.getD t none
def lowR (r : Rule) (seen : List (List (Option Rat))) (t : Nat) : Rat := worthR r (fillR (colR seen t) (seen.map fun _ => 0))
def highR (r : Rule) (seen : List (List (Option Rat))) (last : List Rat) (t : Nat) : Rat := worthR r (fillR (colR seen t) last)
def bndR (r : Rule) (seen : List (List (Option Rat))) (last : List Rat) (m : Nat) : List (Rat × Rat) := (List.range m).map fun t => (lowR r seen t, highR r seen last t)
/-- seen worths of n lists of m things, and last worths -/
structure Sok (n m : Nat) (seen : List (List (Option Rat))) (last : List Rat) : Prop where
  n1 : 1 ≤ n
  n4 : n ≤ 4
  m1 : m ≤ 12
  sn : seen.length = n
  sm : ∀ ws ∈ seen, ws.length = m
  sw : ∀ ws ∈ seen, ∀ w, some w ∈ ws → Wo w
  ln : last.length = n
  lw : ∀ w ∈ last, Wo w
theorem wo0 : Wo 0 := ⟨by decide, by decide, by decide, by decide⟩
theorem wo1 : Wo 1 := ⟨by decide, by decide, by decide, by decide⟩
theorem Sok.col {n m : Nat} {seen : List (List (Option Rat))} {last : List Rat} (h : Sok n m seen last) {t : Nat} {o : Option Rat} (ho : o ∈ colR seen t) : ∀ w, o = some w → Wo w := fun w e => by
  obtain ⟨ws, h1, h2⟩ := List.mem_map.mp ho
  refine h.sw ws h1 w ?_
  rw [e, List.getD_eq_getElem?_getD] at h2
  cases q : ws[t]? with
  | none =>
    rw [q] at h2
    cases h2
  | some z =>
    rw [q] at h2
    have := List.mem_of_getElem? q
    rw [show z = some w from h2] at this
    exact this
theorem Sok.fill {n m : Nat} {seen : List (List (Option Rat))} {last others : List Rat} (h : Sok n m seen last) {t : Nat} (ho : others.length = n) (hw : ∀ w ∈ others, Wo w) : (fillR (colR seen t) others).length = n ∧ ∀ x ∈ fillR (colR seen t) others, Wo x := by
  refine ⟨?_, fun x hx => ?_⟩
  · unfold fillR colR
    rw [List.length_map, List.length_zip, List.length_map, h.sn, ho]
    omega
  · obtain ⟨⟨o, w⟩, h1, rfl⟩ := List.mem_map.mp hx
    have h2 := List.of_mem_zip h1
    cases o with
    | none => exact hw w h2.2
    | some v => exact h.col h2.1 v rfl
theorem bounds_step {n m : Nat} {seen : List (List (Option Rat))} {last : List Rat} {r : Rule} (h : Sok n m seen last) (hr : Rok n r) {t : Nat} (ht : t < m) {acc : List PyData} (hl : acc.length ≤ 1000) (x5 x6 x7 : DV) :
    ∃ y5 y6, B_bounds_by_1 [.val (ruleD r), .val (seenD seen), .val (rowD last), .own acc, .val (natD t), x5, x6, x7] =
      some (.nx [.val (ruleD r), .val (seenD seen), .val (rowD last), .own (acc ++ [bndD (lowR r seen t, highR r seen last t)]), .val (natD t), y5, y6, x7]) ∧ Bo (lowR r seen t) ∧ Bo (highR r seen last t) := by
  have n1 := h.n1
  have n4 := h.n4
  have ix : ∀ ws ∈ seen, ixD (orowD ws) (natD t) = some (optD (ws.getD t none)) := fun ws hws => by
    have q : ws[t]? = some (ws.getD t none) := by
      rw [List.getD_eq_getElem?_getD, List.getElem?_eq_getElem (by rw [h.sm ws hws]; exact ht)]
      rfl
    exact ix_map q
  have c1 : fComp (dVar 1) (pName 7) bYes (f2 ixD (fVar 7) (fVar 4)) [7] [.val (ruleD r), .val (seenD seen), .val (rowD last), .own acc, .val (natD t), x5, x6, x7] = some (seen.map fun ws => optD (ws.getD t none)) :=
    comp_map (enc := orowD) _ seen rfl (by rw [h.sn]; omega) fun ws hws => ⟨_, rfl, by simp only [sSeq_ap, sIf_ap, bOf_ap, bAnd_ap, bOr_ap, bNot_ap, bYes_ap, fAnd_ap, fOr_ap, fNot_ap, fIf_ap, sPat_ap, pName_ap, pTup_ap, setAll, sSkip_ap, sRet_ap, sOwn_ap, sFrz_ap, frz, frz1, sApp_ap, sIns_ap, sDo_ap, fTup_ap, fLstN_ap, fList_ap, fCall_ap, fCons_ap, fNil_ap, f1_ap, f2_ap, fVar_ap, fC_ap, sFor_ap, List.foldl_cons, List.foldl_nil, List.set_cons_succ, List.set_cons_zero, List.getElem?_cons_zero, List.getElem?_cons_succ, Option.bind_some, fin_rt, fin_nx, Bool.not_true, Bool.not_false, wipeD, nought_fr, one_fr, int_0, int_1, int_2, int_3, int_4, int_8, int_12, len_list, len_tup, len_map, isi_list, isi_tup, isi_str, lt_nn, le_nn, gt_nn, ge_nn, eq_nn, ne_nn, add_nn, whole_n, List.length_map, decide_true, decide_false, leng0, leng1, leng2, leng3, leng4, if_true, if_false, eq_self, Nat.reduceEqDiff, Nat.reduceLT, Nat.reduceLeDiff, ix ws hws]⟩
  have e1 : PyData.list (seen.map fun ws => optD (ws.getD t none)) = orowD (colR seen t) := by
    unfold orowD colR
    rw [List.map_map]
    rfl
  have c2 : fComp (dVar 1) (pName 7) bYes (fC nought) [7] [.val (ruleD r), .val (seenD seen), .val (rowD last), .own acc, .val (natD t), .val (orowD (colR seen t)), x6, x7] = some (seen.map fun ws => frR 0) :=
    comp_map (enc := orowD) _ seen rfl (by rw [h.sn]; omega) fun ws hws => ⟨_, rfl, by simp only [sSeq_ap, sIf_ap, bOf_ap, bAnd_ap, bOr_ap, bNot_ap, bYes_ap, fAnd_ap, fOr_ap, fNot_ap, fIf_ap, sPat_ap, pName_ap, pTup_ap, setAll, sSkip_ap, sRet_ap, sOwn_ap, sFrz_ap, frz, frz1, sApp_ap, sIns_ap, sDo_ap, fTup_ap, fLstN_ap, fList_ap, fCall_ap, fCons_ap, fNil_ap, f1_ap, f2_ap, fVar_ap, fC_ap, sFor_ap, List.foldl_cons, List.foldl_nil, List.set_cons_succ, List.set_cons_zero, List.getElem?_cons_zero, List.getElem?_cons_succ, Option.bind_some, fin_rt, fin_nx, Bool.not_true, Bool.not_false, wipeD, nought_fr, one_fr, int_0, int_1, int_2, int_3, int_4, int_8, int_12, len_list, len_tup, len_map, isi_list, isi_tup, isi_str, lt_nn, le_nn, gt_nn, ge_nn, eq_nn, ne_nn, add_nn, whole_n, List.length_map, decide_true, decide_false, leng0, leng1, leng2, leng3, leng4, if_true, if_false, eq_self, Nat.reduceEqDiff, Nat.reduceLT, Nat.reduceLeDiff]⟩
  have e2 : PyData.list (seen.map fun _ => frR 0) = rowD (seen.map fun _ => 0) := by
    unfold rowD
    rw [List.map_map]
    rfl
  have hc : (colR seen t).length ≤ 1000 := by unfold colR; rw [List.length_map, h.sn]; omega
  obtain ⟨l1, l2⟩ := h.fill (t := t) (others := seen.map fun _ => 0) (by rw [List.length_map, h.sn]) fun w hw => by
    obtain ⟨_, _, rfl⟩ := List.mem_map.mp hw
    exact wo0
  obtain ⟨u1, u2⟩ := h.fill (t := t) h.ln h.lw
  obtain ⟨w1, w2⟩ := f_worth hr l1 n1 n4 l2
  obtain ⟨w3, w4⟩ := f_worth hr u1 n1 n4 u2
  refine ⟨.val (orowD (colR seen t)), .val (frR (lowR r seen t)), ?_, w2, w4⟩
  simp only [nought_fr] at c2
  have w1' : F_worth_by [ruleD r, rowD (fillR (colR seen t) (seen.map fun _ => 0))] = some (frR (lowR r seen t)) := w1
  have w3' : F_worth_by [ruleD r, rowD (fillR (colR seen t) last)] = some (frR (highR r seen last t)) := w3
  simp only [B_bounds_by_1, sSeq_ap, sIf_ap, bOf_ap, bAnd_ap, bOr_ap, bNot_ap, bYes_ap, fAnd_ap, fOr_ap, fNot_ap, fIf_ap, sPat_ap, pName_ap, pTup_ap, setAll, sSkip_ap, sRet_ap, sOwn_ap, sFrz_ap, frz, frz1, sApp_ap, sIns_ap, sDo_ap, fTup_ap, fLstN_ap, fList_ap, fCall_ap, fCons_ap, fNil_ap, f1_ap, f2_ap, fVar_ap, fC_ap, sFor_ap, List.foldl_cons, List.foldl_nil, List.set_cons_succ, List.set_cons_zero, List.getElem?_cons_zero, List.getElem?_cons_succ, Option.bind_some, fin_rt, fin_nx, Bool.not_true, Bool.not_false, wipeD, nought_fr, one_fr, int_0, int_1, int_2, int_3, int_4, int_8, int_12, len_list, len_tup, len_map, isi_list, isi_tup, isi_str, lt_nn, le_nn, gt_nn, ge_nn, eq_nn, ne_nn, add_nn, whole_n, List.length_map, decide_true, decide_false, leng0, leng1, leng2, leng3, leng4, if_true, if_false, eq_self, Nat.reduceEqDiff, Nat.reduceLT, Nat.reduceLeDiff, c1, e1, c2, e2, f_filled hc, w1', w3', app_eq _ _ _ hl]
  rfl
theorem f_bounds_by {n m : Nat} {seen : List (List (Option Rat))} {last : List Rat} {r : Rule} (h : Sok n m seen last) (hr : Rok n r) : F_bounds_by [ruleD r, seenD seen, rowD last] = some (bndsD (bndR r seen last m)) ∧ ∀ p ∈ bndR r seen last m, Bo p.1 ∧ Bo p.2 := by
  have m1 := h.m1
  have n1 := h.n1
  obtain ⟨δ', h1, x4, x5, x6, x7, h2⟩ := loop_app (enc := natD) (p := pName 4) (body := B_bounds_by_1) (fun t => bndD (lowR r seen t, highR r seen last t)) (List.range m)
    [.val (ruleD r), .val (seenD seen), .val (rowD last), .own [], .no, .no, .no, .no]
    (fun acc δ => ∃ x4 x5 x6 x7, δ = [.val (ruleD r), .val (seenD seen), .val (rowD last), .own acc, x4, x5, x6, x7]) ⟨_, _, _, _, rfl⟩ (by
      rintro acc t δ hal ht ⟨x4, x5, x6, x7, rfl⟩
      rw [List.length_range] at hal
      obtain ⟨y5, y6, hb, _, _⟩ := bounds_step h hr (List.mem_range.mp ht) (acc := acc) (by omega) x5 x6 x7
      exact ⟨_, _, rfl, hb, _, _, _, _, rfl⟩)
  have h0 : seen[0]? = some (seen[0]'(by rw [h.sn]; omega)) := List.getElem?_eq_getElem _
  have e0 : ixD (seenD seen) (natD 0) = some (orowD (seen[0]'(by rw [h.sn]; omega))) := ix_map h0
  have e2 : lenD [orowD (seen[0]'(by rw [h.sn]; omega))] = some (natD m) := by
    exact (len_map _ _).trans (by rw [h.sm _ (List.getElem_mem _)])
  have e1 := dRange_ap (fCall lenD (fCons (f2 ixD (fVar 1) (fC (natD 0))) fNil)) [.val (ruleD r), .val (seenD seen), .val (rowD last), .own [], .no, .no, .no, .no] (n := m) (by simp only [sSeq_ap, sIf_ap, bOf_ap, bAnd_ap, bOr_ap, bNot_ap, bYes_ap, fAnd_ap, fOr_ap, fNot_ap, fIf_ap, sPat_ap, pName_ap, pTup_ap, setAll, sSkip_ap, sRet_ap, sOwn_ap, sFrz_ap, frz, frz1, sApp_ap, sIns_ap, sDo_ap, fTup_ap, fLstN_ap, fList_ap, fCall_ap, fCons_ap, fNil_ap, f1_ap, f2_ap, fVar_ap, fC_ap, sFor_ap, List.foldl_cons, List.foldl_nil, List.set_cons_succ, List.set_cons_zero, List.getElem?_cons_zero, List.getElem?_cons_succ, Option.bind_some, fin_rt, fin_nx, Bool.not_true, Bool.not_false, wipeD, nought_fr, one_fr, int_0, int_1, int_2, int_3, int_4, int_8, int_12, len_list, len_tup, len_map, isi_list, isi_tup, isi_str, lt_nn, le_nn, gt_nn, ge_nn, eq_nn, ne_nn, add_nn, whole_n, List.length_map, decide_true, decide_false, leng0, leng1, leng2, leng3, leng4, if_true, if_false, eq_self, Nat.reduceEqDiff, Nat.reduceLT, Nat.reduceLeDiff, e0, e2]) (by omega)
  refine ⟨?_, fun p hp => ?_⟩
  · rw [r_bounds_by]
    simp only [B_bounds_by, sSeq_ap, sIf_ap, bOf_ap, bAnd_ap, bOr_ap, bNot_ap, bYes_ap, fAnd_ap, fOr_ap, fNot_ap, fIf_ap, sPat_ap, pName_ap, pTup_ap, setAll, sSkip_ap, sRet_ap, sOwn_ap, sFrz_ap, frz, frz1, sApp_ap, sIns_ap, sDo_ap, fTup_ap, fLstN_ap, fList_ap, fCall_ap, fCons_ap, fNil_ap, f1_ap, f2_ap, fVar_ap, fC_ap, sFor_ap, List.foldl_cons, List.foldl_nil, List.set_cons_succ, List.set_cons_zero, List.getElem?_cons_zero, List.getElem?_cons_succ, Option.bind_some, fin_rt, fin_nx, Bool.not_true, Bool.not_false, wipeD, nought_fr, one_fr, int_0, int_1, int_2, int_3, int_4, int_8, int_12, len_list, len_tup, len_map, isi_list, isi_tup, isi_str, lt_nn, le_nn, gt_nn, ge_nn, eq_nn, ne_nn, add_nn, whole_n, List.length_map, decide_true, decide_false, leng0, leng1, leng2, leng3, leng4, if_true, if_false, eq_self, Nat.reduceEqDiff, Nat.reduceLT, Nat.reduceLeDiff, e1, h1, h2]
    unfold bndsD bndR
    rw [List.map_map]
    rfl
  · obtain ⟨t, ht, rfl⟩ := List.mem_map.mp hp
    obtain ⟨_, _, _, q1, q2⟩ := bounds_step h hr (List.mem_range.mp ht) (acc := []) (by decide) .no .no .no
    exact ⟨q1, q2⟩
end DL

set_option Elab.async false
set_option linter.all false
set_option maxRecDepth 100000
set_option maxHeartbeats 4000000
set_option exponentiation.threshold 3000
/-! Eq4: bounds of a book, the turn, what is sure. -/
namespace DL
open PySem
theorem sok_of {m : Nat} {b : List (List Rat)} {ds : List Nat} (h : Bok m b) (hd : ds.length = b.length) (as : List (Nat × Nat)) : Sok b.length m (seenR b ds as) (lastR b ds) := by
  refine ⟨h.n1, h.n2, h.m2, ?_, fun ws hws => ?_, fun ws hws w hw => ?_, ?_, fun w hw => ?_⟩
  · unfold seenR
    rw [List.length_map, List.length_zipIdx, zip_len hd]
  · obtain ⟨⟨⟨r, d⟩, k⟩, hq, rfl⟩ := List.mem_map.mp hws
    unfold seeRow
    rw [List.length_map, List.length_zipIdx]
    exact h.row r (List.of_mem_zip (List.mem_of_getElem? (List.mk_mem_zipIdx_iff_getElem?.mp hq))).1
  · obtain ⟨⟨⟨r, d⟩, k⟩, hq, rfl⟩ := List.mem_map.mp hws
    obtain ⟨⟨v, i⟩, hp, e⟩ := List.mem_map.mp hw
    have hr := (List.of_mem_zip (List.mem_of_getElem? (List.mk_mem_zipIdx_iff_getElem?.mp hq))).1
    unfold seeV at e
    split at e
    · cases e
      exact h.wo r hr _ (List.mem_of_getElem? (List.mk_mem_zipIdx_iff_getElem?.mp hp))
    · cases e
  · unfold lastR
    rw [List.length_map, zip_len hd]
  · obtain ⟨⟨r, d⟩, hq, rfl⟩ := List.mem_map.mp hw
    unfold lastOne
    split
    · exact wo1
    · rename_i i hi
      exact W_wo (h.wo r (List.of_mem_zip hq).1) (read_lt (List.mem_of_getLast? hi))
/-- the bounds of a book's things behind looks -/
def bbR (b : List (List Rat)) (r : Rule) (ds : List Nat) (as : List (Nat × Nat)) (m : Nat) : List (Rat × Rat) := bndR r (seenR b ds as) (lastR b ds) m
theorem f_bounds_of {m : Nat} {b : List (List Rat)} {r : Rule} {ds : List Nat} {as : List (Nat × Nat)} (h : Bok m b) (hr : Rok b.length r) (hd : ds.length = b.length) : F_bounds_of [bookD b, ruleD r, looksD ds as] = some (bndsD (bbR b r ds as m)) := by
  have e1 : ixD (looksD ds as) (natD 0) = some (natsD ds) := ix_0 _ _
  rw [r_bounds_of]
  simp only [B_bounds_of, sSeq_ap, sIf_ap, bOf_ap, bAnd_ap, bOr_ap, bNot_ap, bYes_ap, fAnd_ap, fOr_ap, fNot_ap, fIf_ap, sPat_ap, pName_ap, pTup_ap, setAll, sSkip_ap, sRet_ap, sOwn_ap, sFrz_ap, frz, frz1, sApp_ap, sIns_ap, sDo_ap, fTup_ap, fLstN_ap, fList_ap, fCall_ap, fCons_ap, fNil_ap, f1_ap, f2_ap, fVar_ap, fC_ap, sFor_ap, List.foldl_cons, List.foldl_nil, List.set_cons_succ, List.set_cons_zero, List.getElem?_cons_zero, List.getElem?_cons_succ, Option.bind_some, fin_rt, fin_nx, Bool.not_true, Bool.not_false, wipeD, nought_fr, one_fr, int_0, int_1, int_2, int_3, int_4, int_8, int_12, len_list, len_tup, len_map, isi_list, isi_tup, isi_str, lt_nn, le_nn, gt_nn, ge_nn, eq_nn, ne_nn, add_nn, whole_n, List.length_map, decide_true, decide_false, leng0, leng1, leng2, leng3, leng4, if_true, if_false, eq_self, Nat.reduceEqDiff, Nat.reduceLT, Nat.reduceLeDiff, e1, f_seen_of h hd, f_last h hd, (f_bounds_by (sok_of h hd as) hr).1]
  rfl
theorem f_worth_bounds {m : Nat} {b : List (List Rat)} {r : Rule} {ds : List Nat} {as : List (Nat × Nat)} (h : Bok m b) (hr : Rok b.length r) (hl : Lok b.length m ds as) : F_worth_bounds [bookD b, ruleD r, looksD ds as] = some (bndsD (bbR b r ds as m)) := by
  rw [r_worth_bounds]
  simp only [B_worth_bounds, sSeq_ap, sIf_ap, bOf_ap, bAnd_ap, bOr_ap, bNot_ap, bYes_ap, fAnd_ap, fOr_ap, fNot_ap, fIf_ap, sPat_ap, pName_ap, pTup_ap, setAll, sSkip_ap, sRet_ap, sOwn_ap, sFrz_ap, frz, frz1, sApp_ap, sIns_ap, sDo_ap, fTup_ap, fLstN_ap, fList_ap, fCall_ap, fCons_ap, fNil_ap, f1_ap, f2_ap, fVar_ap, fC_ap, sFor_ap, List.foldl_cons, List.foldl_nil, List.set_cons_succ, List.set_cons_zero, List.getElem?_cons_zero, List.getElem?_cons_succ, Option.bind_some, fin_rt, fin_nx, Bool.not_true, Bool.not_false, wipeD, nought_fr, one_fr, int_0, int_1, int_2, int_3, int_4, int_8, int_12, len_list, len_tup, len_map, isi_list, isi_tup, isi_str, lt_nn, le_nn, gt_nn, ge_nn, eq_nn, ne_nn, add_nn, whole_n, List.length_map, decide_true, decide_false, leng0, leng1, leng2, leng3, leng4, if_true, if_false, eq_self, Nat.reduceEqDiff, Nat.reduceLT, Nat.reduceLeDiff, f_look_at_book h, len_book, f_look_at_rule hr h.n2, f_look_at_looks h hl, f_bounds_of h hr hl.dn]
theorem f_unread {m : Nat} {b : List (List Rat)} {ds : List Nat} {as : List (Nat × Nat)} (h : Bok m b) (hl : Lok b.length m ds as) : ∃ n, F_unread_of [bookD b, looksD ds as] = some (natD n) := by
  have e1 : ixD (looksD ds as) (natD 0) = some (natsD ds) := ix_0 _ _
  have e2 : ixD (looksD ds as) (natD 1) = some (pairsD as) := ix_1 _ _ _
  have rd : ∀ k, k < b.length → ∃ ls : List Nat, ixD (linesD b ds) (natD k) = some (natsD ls) ∧ ∀ t, notInD (natD t) (natsD ls) = some (.bool (!decide (t ∈ ls))) := fun k hk => by
    have hz : k < (b.zip ds).length := by rw [zip_len hl.dn]; exact hk
    refine ⟨readR (b.zip ds)[k].1 (b.zip ds)[k].2, ?_, fun t => notin_n _ _⟩
    exact ix_map (enc := fun p : List Rat × Nat => natsD (readR p.1 p.2)) (List.getElem?_eq_getElem hz)
  have c : ∃ xs : List (Nat × Nat), fComp (dList (f2 ixD (fVar 1) (fC (natD 1)))) (pName 3) (bOf (f2 notInD (f2 ixD (fVar 3) (fC (natD 1))) (f2 ixD (fVar 2) (f2 ixD (fVar 3) (fC (natD 0)))))) (fVar 3) [3] [.val (bookD b), .val (looksD ds as), .val (linesD b ds), .no] = some (xs.map pairD) := by
    refine ⟨_, comp_keep (enc := pairD) (fun p => match (b.zip ds)[p.1]? with
      | some q => !decide (p.2 ∈ readR q.1 q.2)
      | none => false) pairD as (by simp only [dList_ap, sSeq_ap, sIf_ap, bOf_ap, bAnd_ap, bOr_ap, bNot_ap, bYes_ap, fAnd_ap, fOr_ap, fNot_ap, fIf_ap, sPat_ap, pName_ap, pTup_ap, setAll, sSkip_ap, sRet_ap, sOwn_ap, sFrz_ap, frz, frz1, sApp_ap, sIns_ap, sDo_ap, fTup_ap, fLstN_ap, fList_ap, fCall_ap, fCons_ap, fNil_ap, f1_ap, f2_ap, fVar_ap, fC_ap, sFor_ap, List.foldl_cons, List.foldl_nil, List.set_cons_succ, List.set_cons_zero, List.getElem?_cons_zero, List.getElem?_cons_succ, Option.bind_some, fin_rt, fin_nx, Bool.not_true, Bool.not_false, wipeD, nought_fr, one_fr, int_0, int_1, int_2, int_3, int_4, int_8, int_12, len_list, len_tup, len_map, isi_list, isi_tup, isi_str, lt_nn, le_nn, gt_nn, ge_nn, eq_nn, ne_nn, add_nn, whole_n, List.length_map, decide_true, decide_false, leng0, leng1, leng2, leng3, leng4, if_true, if_false, eq_self, Nat.reduceEqDiff, Nat.reduceLT, Nat.reduceLeDiff, e2]; rfl) (by have := hl.al; omega) fun p hp => ⟨_, rfl, ?_, fun _ => by simp only [sSeq_ap, sIf_ap, bOf_ap, bAnd_ap, bOr_ap, bNot_ap, bYes_ap, fAnd_ap, fOr_ap, fNot_ap, fIf_ap, sPat_ap, pName_ap, pTup_ap, setAll, sSkip_ap, sRet_ap, sOwn_ap, sFrz_ap, frz, frz1, sApp_ap, sIns_ap, sDo_ap, fTup_ap, fLstN_ap, fList_ap, fCall_ap, fCons_ap, fNil_ap, f1_ap, f2_ap, fVar_ap, fC_ap, sFor_ap, List.foldl_cons, List.foldl_nil, List.set_cons_succ, List.set_cons_zero, List.getElem?_cons_zero, List.getElem?_cons_succ, Option.bind_some, fin_rt, fin_nx, Bool.not_true, Bool.not_false, wipeD, nought_fr, one_fr, int_0, int_1, int_2, int_3, int_4, int_8, int_12, len_list, len_tup, len_map, isi_list, isi_tup, isi_str, lt_nn, le_nn, gt_nn, ge_nn, eq_nn, ne_nn, add_nn, whole_n, List.length_map, decide_true, decide_false, leng0, leng1, leng2, leng3, leng4, if_true, if_false, eq_self, Nat.reduceEqDiff, Nat.reduceLT, Nat.reduceLeDiff]⟩⟩
    have hz : p.1 < (b.zip ds).length := by rw [zip_len hl.dn]; exact (hl.an p hp).1
    have q1 : ixD (linesD b ds) (natD p.1) = some (natsD (readR (b.zip ds)[p.1].1 (b.zip ds)[p.1].2)) := ix_map (enc := fun p : List Rat × Nat => natsD (readR p.1 p.2)) (List.getElem?_eq_getElem hz)
    have q2 : notInD (natD p.2) (natsD (readR (b.zip ds)[p.1].1 (b.zip ds)[p.1].2)) = some (.bool (!decide (p.2 ∈ readR (b.zip ds)[p.1].1 (b.zip ds)[p.1].2))) := notin_n _ _
    simp only [sSeq_ap, sIf_ap, bOf_ap, bAnd_ap, bOr_ap, bNot_ap, bYes_ap, fAnd_ap, fOr_ap, fNot_ap, fIf_ap, sPat_ap, pName_ap, pTup_ap, setAll, sSkip_ap, sRet_ap, sOwn_ap, sFrz_ap, frz, frz1, sApp_ap, sIns_ap, sDo_ap, fTup_ap, fLstN_ap, fList_ap, fCall_ap, fCons_ap, fNil_ap, f1_ap, f2_ap, fVar_ap, fC_ap, sFor_ap, List.foldl_cons, List.foldl_nil, List.set_cons_succ, List.set_cons_zero, List.getElem?_cons_zero, List.getElem?_cons_succ, Option.bind_some, fin_rt, fin_nx, Bool.not_true, Bool.not_false, wipeD, nought_fr, one_fr, int_0, int_1, int_2, int_3, int_4, int_8, int_12, len_list, len_tup, len_map, isi_list, isi_tup, isi_str, lt_nn, le_nn, gt_nn, ge_nn, eq_nn, ne_nn, add_nn, whole_n, List.length_map, decide_true, decide_false, leng0, leng1, leng2, leng3, leng4, if_true, if_false, eq_self, Nat.reduceEqDiff, Nat.reduceLT, Nat.reduceLeDiff, ix_p0, ix_p1, q1, q2, List.getElem?_eq_getElem hz]
  obtain ⟨xs, c⟩ := c
  refine ⟨xs.length, ?_⟩
  rw [r_unread_of]
  simp only [B_unread_of, sSeq_ap, sIf_ap, bOf_ap, bAnd_ap, bOr_ap, bNot_ap, bYes_ap, fAnd_ap, fOr_ap, fNot_ap, fIf_ap, sPat_ap, pName_ap, pTup_ap, setAll, sSkip_ap, sRet_ap, sOwn_ap, sFrz_ap, frz, frz1, sApp_ap, sIns_ap, sDo_ap, fTup_ap, fLstN_ap, fList_ap, fCall_ap, fCons_ap, fNil_ap, f1_ap, f2_ap, fVar_ap, fC_ap, sFor_ap, List.foldl_cons, List.foldl_nil, List.set_cons_succ, List.set_cons_zero, List.getElem?_cons_zero, List.getElem?_cons_succ, Option.bind_some, fin_rt, fin_nx, Bool.not_true, Bool.not_false, wipeD, nought_fr, one_fr, int_0, int_1, int_2, int_3, int_4, int_8, int_12, len_list, len_tup, len_map, isi_list, isi_tup, isi_str, lt_nn, le_nn, gt_nn, ge_nn, eq_nn, ne_nn, add_nn, whole_n, List.length_map, decide_true, decide_false, leng0, leng1, leng2, leng3, leng4, if_true, if_false, eq_self, Nat.reduceEqDiff, Nat.reduceLT, Nat.reduceLeDiff, e1, f_read h, c]
theorem sum_nats (ds : List Nat) : sumD [natsD ds] = some (natD ds.sum) := by
  have key : ∀ ds : List Nat, ints? (ds.map natD) = some (ds.map fun n : Nat => (n : Int)) := by
    intro ds
    induction ds with
    | nil => rfl
    | cons a r ih =>
      show (ints? (r.map natD)).bind _ = _
      rw [ih]
      rfl
  show (ints? (ds.map natD)).bind _ = _
  rw [key]
  show some (PyData.int _) = _
  unfold natD
  congr 2
  induction ds with
  | nil => rfl
  | cons a r ih => rw [List.map_cons, List.sum_cons, List.sum_cons, ih, Int.natCast_add]
theorem ints_nats (ds : List Nat) : ints? (ds.map natD) = some (ds.map fun n : Nat => (n : Int)) := by
  induction ds with
  | nil => rfl
  | cons a r ih =>
    show (ints? (r.map natD)).bind _ = _
    rw [ih]
    rfl
theorem f_count_of {m : Nat} {b : List (List Rat)} {ds : List Nat} {as : List (Nat × Nat)} (h : Bok m b) (hl : Lok b.length m ds as) : ∃ n, F_count_of [bookD b, looksD ds as] = some (.tuple [natD ds.sum, natD n]) := by
  have e1 : ixD (looksD ds as) (natD 0) = some (natsD ds) := ix_0 _ _
  obtain ⟨n, e2⟩ := f_unread h hl
  refine ⟨n, ?_⟩
  rw [r_count_of]
  simp only [B_count_of, sSeq_ap, sIf_ap, bOf_ap, bAnd_ap, bOr_ap, bNot_ap, bYes_ap, fAnd_ap, fOr_ap, fNot_ap, fIf_ap, sPat_ap, pName_ap, pTup_ap, setAll, sSkip_ap, sRet_ap, sOwn_ap, sFrz_ap, frz, frz1, sApp_ap, sIns_ap, sDo_ap, fTup_ap, fLstN_ap, fList_ap, fCall_ap, fCons_ap, fNil_ap, f1_ap, f2_ap, fVar_ap, fC_ap, sFor_ap, List.foldl_cons, List.foldl_nil, List.set_cons_succ, List.set_cons_zero, List.getElem?_cons_zero, List.getElem?_cons_succ, Option.bind_some, fin_rt, fin_nx, Bool.not_true, Bool.not_false, wipeD, nought_fr, one_fr, int_0, int_1, int_2, int_3, int_4, int_8, int_12, len_list, len_tup, len_map, isi_list, isi_tup, isi_str, lt_nn, le_nn, gt_nn, ge_nn, eq_nn, ne_nn, add_nn, whole_n, List.length_map, decide_true, decide_false, leng0, leng1, leng2, leng3, leng4, if_true, if_false, eq_self, Nat.reduceEqDiff, Nat.reduceLT, Nat.reduceLeDiff, f_look_at_book h, f_look_at_looks h hl, e1, sum_nats, e2]
/-! ### the turn -/
def lo (bs : List (Rat × Rat)) (i : Nat) : Rat := (bs.getD i (0, 0)).1
def hi (bs : List (Rat × Rat)) (i : Nat) : Rat := (bs.getD i (0, 0)).2
/-- bounds of m things -/
structure Bds (m : Nat) (bs : List (Rat × Rat)) : Prop where
  len : bs.length = m
  m2 : m ≤ 12
  bo : ∀ p ∈ bs, Bo p.1 ∧ Bo p.2
theorem Bds.get {m : Nat} {bs : List (Rat × Rat)} (h : Bds m bs) {i : Nat} (hi' : i < m) : bs[i]? = some (lo bs i, hi bs i) := by
  unfold lo hi
  rw [List.getD_eq_getElem?_getD, List.getElem?_eq_getElem (by rw [h.len]; exact hi')]
  rfl
theorem Bds.ix {m : Nat} {bs : List (Rat × Rat)} (h : Bds m bs) {i : Nat} (hi' : i < m) : ixD (bndsD bs) (natD i) = some (bndD (lo bs i, hi bs i)) := ix_map (h.get hi')
theorem Bds.lo {m : Nat} {bs : List (Rat × Rat)} (h : Bds m bs) {i : Nat} (hi' : i < m) : Bo (DL.lo bs i) := (h.bo _ (List.mem_of_getElem? (h.get hi'))).1
theorem Bds.hi {m : Nat} {bs : List (Rat × Rat)} (h : Bds m bs) {i : Nat} (hi' : i < m) : Bo (DL.hi bs i) := (h.bo _ (List.mem_of_getElem? (h.get hi'))).2
theorem bnd_0 (p : Rat × Rat) : ixD (bndD p) (natD 0) = some (frR p.1) := ix_0 _ _
theorem bnd_1 (p : Rat × Rat) : ixD (bndD p) (natD 1) = some (frR p.2) := ix_1 _ _ _
theorem len_bnds (bs : List (Rat × Rat)) : lenD [bndsD bs] = some (natD bs.length) := len_map _ _
theorem Bo.below {a b : Rat} (ha : Bo a) (hb : Bo b) : F_frac_below [frR a, frR b] = some (.bool (decide (a < b))) := f_below ha.sz hb.sz (by decide) (by decide)
def goesR (bs : List (Rat × Rat)) (o x : Nat) : Bool :=
  if lo bs o = lo bs x then (if hi bs o = hi bs x then decide (o < x) else decide (hi bs x < hi bs o)) else decide (lo bs x < lo bs o)
theorem f_goes {m : Nat} {bs : List (Rat × Rat)} (h : Bds m bs) {o x : Nat} (ho : o < m) (hx : x < m) : F_goes_ahead [bndsD bs, natD o, natD x] = some (.bool (goesR bs o x)) := by
  rw [r_goes_ahead]
  unfold goesR
  have b1 := (h.lo hx).below (h.lo ho)
  have b2 := (h.hi hx).below (h.hi ho)
  by_cases q1 : lo bs o = lo bs x
  · have d1 : (!decide (lo bs o = lo bs x)) = false := by rw [decide_eq_true q1]; rfl
    rw [if_pos q1]
    by_cases q2 : hi bs o = hi bs x
    · have d2 : (!decide (hi bs o = hi bs x)) = false := by rw [decide_eq_true q2]; rfl
      rw [if_pos q2]
      simp only [B_goes_ahead, sSeq_ap, sIf_ap, bOf_ap, bAnd_ap, bOr_ap, bNot_ap, bYes_ap, fAnd_ap, fOr_ap, fNot_ap, fIf_ap, sPat_ap, pName_ap, pTup_ap, setAll, sSkip_ap, sRet_ap, sOwn_ap, sFrz_ap, frz, frz1, sApp_ap, sIns_ap, sDo_ap, fTup_ap, fLstN_ap, fList_ap, fCall_ap, fCons_ap, fNil_ap, f1_ap, f2_ap, fVar_ap, fC_ap, sFor_ap, List.foldl_cons, List.foldl_nil, List.set_cons_succ, List.set_cons_zero, List.getElem?_cons_zero, List.getElem?_cons_succ, Option.bind_some, fin_rt, fin_nx, Bool.not_true, Bool.not_false, wipeD, nought_fr, one_fr, int_0, int_1, int_2, int_3, int_4, int_8, int_12, len_list, len_tup, len_map, isi_list, isi_tup, isi_str, lt_nn, le_nn, gt_nn, ge_nn, eq_nn, ne_nn, add_nn, whole_n, List.length_map, decide_true, decide_false, leng0, leng1, leng2, leng3, leng4, if_true, if_false, eq_self, Nat.reduceEqDiff, Nat.reduceLT, Nat.reduceLeDiff, h.ix ho, h.ix hx, bnd_0, bnd_1, ne_fr, d1, d2]
    · have d2 : (!decide (hi bs o = hi bs x)) = true := by rw [decide_eq_false q2]; rfl
      rw [if_neg q2]
      simp only [B_goes_ahead, sSeq_ap, sIf_ap, bOf_ap, bAnd_ap, bOr_ap, bNot_ap, bYes_ap, fAnd_ap, fOr_ap, fNot_ap, fIf_ap, sPat_ap, pName_ap, pTup_ap, setAll, sSkip_ap, sRet_ap, sOwn_ap, sFrz_ap, frz, frz1, sApp_ap, sIns_ap, sDo_ap, fTup_ap, fLstN_ap, fList_ap, fCall_ap, fCons_ap, fNil_ap, f1_ap, f2_ap, fVar_ap, fC_ap, sFor_ap, List.foldl_cons, List.foldl_nil, List.set_cons_succ, List.set_cons_zero, List.getElem?_cons_zero, List.getElem?_cons_succ, Option.bind_some, fin_rt, fin_nx, Bool.not_true, Bool.not_false, wipeD, nought_fr, one_fr, int_0, int_1, int_2, int_3, int_4, int_8, int_12, len_list, len_tup, len_map, isi_list, isi_tup, isi_str, lt_nn, le_nn, gt_nn, ge_nn, eq_nn, ne_nn, add_nn, whole_n, List.length_map, decide_true, decide_false, leng0, leng1, leng2, leng3, leng4, if_true, if_false, eq_self, Nat.reduceEqDiff, Nat.reduceLT, Nat.reduceLeDiff, h.ix ho, h.ix hx, bnd_0, bnd_1, ne_fr, d1, d2, b2]
  · have d1 : (!decide (lo bs o = lo bs x)) = true := by rw [decide_eq_false q1]; rfl
    rw [if_neg q1]
    simp only [B_goes_ahead, sSeq_ap, sIf_ap, bOf_ap, bAnd_ap, bOr_ap, bNot_ap, bYes_ap, fAnd_ap, fOr_ap, fNot_ap, fIf_ap, sPat_ap, pName_ap, pTup_ap, setAll, sSkip_ap, sRet_ap, sOwn_ap, sFrz_ap, frz, frz1, sApp_ap, sIns_ap, sDo_ap, fTup_ap, fLstN_ap, fList_ap, fCall_ap, fCons_ap, fNil_ap, f1_ap, f2_ap, fVar_ap, fC_ap, sFor_ap, List.foldl_cons, List.foldl_nil, List.set_cons_succ, List.set_cons_zero, List.getElem?_cons_zero, List.getElem?_cons_succ, Option.bind_some, fin_rt, fin_nx, Bool.not_true, Bool.not_false, wipeD, nought_fr, one_fr, int_0, int_1, int_2, int_3, int_4, int_8, int_12, len_list, len_tup, len_map, isi_list, isi_tup, isi_str, lt_nn, le_nn, gt_nn, ge_nn, eq_nn, ne_nn, add_nn, whole_n, List.length_map, decide_true, decide_false, leng0, leng1, leng2, leng3, leng4, if_true, if_false, eq_self, Nat.reduceEqDiff, Nat.reduceLT, Nat.reduceLeDiff, h.ix ho, h.ix hx, bnd_0, bnd_1, ne_fr, d1, b1]
def turnR (bs : List (Rat × Rat)) : List Nat := sortBy (goesR bs) (List.range bs.length)
theorem turn_mem {bs : List (Rat × Rat)} {i : Nat} : i ∈ turnR bs ↔ i < bs.length := by
  unfold turnR
  rw [(sort_perm _ _).mem_iff, List.mem_range]
theorem turn_nodup (bs : List (Rat × Rat)) : (turnR bs).Nodup := (sort_perm _ _).nodup_iff.mpr List.nodup_range
theorem turn_len (bs : List (Rat × Rat)) : (turnR bs).length = bs.length := by
  unfold turnR
  rw [sort_len, List.length_range]
theorem turn_step {m : Nat} {bs : List (Rat × Rat)} (h : Bds m bs) {acc : List Nat} (hin : ∀ o ∈ acc, o < m) (hl : acc.length ≤ 100) {x : Nat} (hx : x < m) (x3 x4 : DV) :
    B_in_turn_1 [.val (bndsD bs), .own (acc.map natD), .val (natD x), x3, x4] = some (.nx [.val (bndsD bs), .own ((insBy (goesR bs) acc x).map natD), .val (natD x), .val (natD (acc.filter fun o => goesR bs o x).length), x4]) := by
  have c : fComp (dVar 1) (pName 4) (bOf (fCall F_goes_ahead (fCons (fVar 0) (fCons (fVar 4) (fCons (fVar 2) fNil))))) (fVar 4) [4] [.val (bndsD bs), .own (acc.map natD), .val (natD x), x3, x4] =
      some ((acc.filter fun o => goesR bs o x).map natD) := comp_keep (enc := natD) _ _ _ rfl (by omega) fun o ho => ⟨_, rfl, by
        simp only [sSeq_ap, sIf_ap, bOf_ap, bAnd_ap, bOr_ap, bNot_ap, bYes_ap, fAnd_ap, fOr_ap, fNot_ap, fIf_ap, sPat_ap, pName_ap, pTup_ap, setAll, sSkip_ap, sRet_ap, sOwn_ap, sFrz_ap, frz, frz1, sApp_ap, sIns_ap, sDo_ap, fTup_ap, fLstN_ap, fList_ap, fCall_ap, fCons_ap, fNil_ap, f1_ap, f2_ap, fVar_ap, fC_ap, sFor_ap, List.foldl_cons, List.foldl_nil, List.set_cons_succ, List.set_cons_zero, List.getElem?_cons_zero, List.getElem?_cons_succ, Option.bind_some, fin_rt, fin_nx, Bool.not_true, Bool.not_false, wipeD, nought_fr, one_fr, int_0, int_1, int_2, int_3, int_4, int_8, int_12, len_list, len_tup, len_map, isi_list, isi_tup, isi_str, lt_nn, le_nn, gt_nn, ge_nn, eq_nn, ne_nn, add_nn, whole_n, List.length_map, decide_true, decide_false, leng0, leng1, leng2, leng3, leng4, if_true, if_false, eq_self, Nat.reduceEqDiff, Nat.reduceLT, Nat.reduceLeDiff, f_goes h (hin o ho) hx], fun _ => by simp only [sSeq_ap, sIf_ap, bOf_ap, bAnd_ap, bOr_ap, bNot_ap, bYes_ap, fAnd_ap, fOr_ap, fNot_ap, fIf_ap, sPat_ap, pName_ap, pTup_ap, setAll, sSkip_ap, sRet_ap, sOwn_ap, sFrz_ap, frz, frz1, sApp_ap, sIns_ap, sDo_ap, fTup_ap, fLstN_ap, fList_ap, fCall_ap, fCons_ap, fNil_ap, f1_ap, f2_ap, fVar_ap, fC_ap, sFor_ap, List.foldl_cons, List.foldl_nil, List.set_cons_succ, List.set_cons_zero, List.getElem?_cons_zero, List.getElem?_cons_succ, Option.bind_some, fin_rt, fin_nx, Bool.not_true, Bool.not_false, wipeD, nought_fr, one_fr, int_0, int_1, int_2, int_3, int_4, int_8, int_12, len_list, len_tup, len_map, isi_list, isi_tup, isi_str, lt_nn, le_nn, gt_nn, ge_nn, eq_nn, ne_nn, add_nn, whole_n, List.length_map, decide_true, decide_false, leng0, leng1, leng2, leng3, leng4, if_true, if_false, eq_self, Nat.reduceEqDiff, Nat.reduceLT, Nat.reduceLeDiff]⟩
  simp only [B_in_turn_1, sSeq_ap, sIf_ap, bOf_ap, bAnd_ap, bOr_ap, bNot_ap, bYes_ap, fAnd_ap, fOr_ap, fNot_ap, fIf_ap, sPat_ap, pName_ap, pTup_ap, setAll, sSkip_ap, sRet_ap, sOwn_ap, sFrz_ap, frz, frz1, sApp_ap, sIns_ap, sDo_ap, fTup_ap, fLstN_ap, fList_ap, fCall_ap, fCons_ap, fNil_ap, f1_ap, f2_ap, fVar_ap, fC_ap, sFor_ap, List.foldl_cons, List.foldl_nil, List.set_cons_succ, List.set_cons_zero, List.getElem?_cons_zero, List.getElem?_cons_succ, Option.bind_some, fin_rt, fin_nx, Bool.not_true, Bool.not_false, wipeD, nought_fr, one_fr, int_0, int_1, int_2, int_3, int_4, int_8, int_12, len_list, len_tup, len_map, isi_list, isi_tup, isi_str, lt_nn, le_nn, gt_nn, ge_nn, eq_nn, ne_nn, add_nn, whole_n, List.length_map, decide_true, decide_false, leng0, leng1, leng2, leng3, leng4, if_true, if_false, eq_self, Nat.reduceEqDiff, Nat.reduceLT, Nat.reduceLeDiff, c, ins_eq (le := goesR bs) _ _ (show acc.length ≤ 1000 by omega) x]
end DL

set_option Elab.async false
set_option linter.all false
set_option maxRecDepth 100000
set_option maxHeartbeats 4000000
set_option exponentiation.threshold 3000
/-! Eq5: the turn, what is sure. -/
namespace DL
open PySem
theorem run_turn {S : PyData} {ds found : List PyData} {δ' : DEnv} {x2 x3 x4 : DV} (e1 : dRange1 (fCall lenD (fCons (fVar 0) fNil)) [.val S, .own [], .no, .no, .no] = some ds) (h1 : forD (pName 2) B_in_turn_1 ds [.val S, .own [], .no, .no, .no] = some (.nx δ')) (h2 : δ' = [.val S, .own found, x2, x3, x4]) :
    F_in_turn [S] = some (.list found) := by
  rw [r_in_turn]
  simp only [B_in_turn, sSeq_ap, sIf_ap, bOf_ap, bAnd_ap, bOr_ap, bNot_ap, bYes_ap, fAnd_ap, fOr_ap, fNot_ap, fIf_ap, sPat_ap, pName_ap, pTup_ap, setAll, sSkip_ap, sRet_ap, sOwn_ap, sFrz_ap, frz, frz1, sApp_ap, sIns_ap, sDo_ap, fTup_ap, fLstN_ap, fList_ap, fCall_ap, fCons_ap, fNil_ap, f1_ap, f2_ap, fVar_ap, fC_ap, sFor_ap, List.foldl_cons, List.foldl_nil, List.set_cons_succ, List.set_cons_zero, List.getElem?_cons_zero, List.getElem?_cons_succ, Option.bind_some, fin_rt, fin_nx, Bool.not_true, Bool.not_false, wipeD, nought_fr, one_fr, int_0, int_1, int_2, int_3, int_4, int_8, int_12, len_list, len_tup, len_map, isi_list, isi_tup, isi_str, lt_nn, le_nn, gt_nn, ge_nn, eq_nn, ne_nn, add_nn, whole_n, List.length_map, decide_true, decide_false, leng0, leng1, leng2, leng3, leng4, if_true, if_false, eq_self, Nat.reduceEqDiff, Nat.reduceLT, Nat.reduceLeDiff, e1, h1, h2]
theorem f_turn {m : Nat} {bs : List (Rat × Rat)} (h : Bds m bs) : F_in_turn [bndsD bs] = some (natsD (turnR bs)) := by
  have m2 := h.m2
  obtain ⟨δ', h1, x2, x3, x4, h2⟩ := loop_sort (enc := natD) (encB := natD) (p := pName 2) (body := B_in_turn_1) (le := goesR bs) id (List.range m) [.val (bndsD bs), .own [], .no, .no, .no]
    (fun acc δ => ∃ x2 x3 x4, δ = [.val (bndsD bs), .own (acc.map natD), x2, x3, x4]) ⟨_, _, _, rfl⟩ (by
      rintro acc w δ ha hal hw ⟨x2, x3, x4, rfl⟩
      rw [List.length_range] at hal
      exact ⟨_, _, rfl, turn_step h (acc := acc) (fun o ho => by
        obtain ⟨y, q1, e⟩ := ha o ho
        rw [e]
        exact List.mem_range.mp q1) (by omega) (List.mem_range.mp hw) x3 x4, _, _, _, rfl⟩)
  rw [List.map_id] at h2
  have e1 := dRange_ap (fCall lenD (fCons (fVar 0) fNil)) [.val (bndsD bs), .own [], .no, .no, .no] (n := m) (by simp only [sSeq_ap, sIf_ap, bOf_ap, bAnd_ap, bOr_ap, bNot_ap, bYes_ap, fAnd_ap, fOr_ap, fNot_ap, fIf_ap, sPat_ap, pName_ap, pTup_ap, setAll, sSkip_ap, sRet_ap, sOwn_ap, sFrz_ap, frz, frz1, sApp_ap, sIns_ap, sDo_ap, fTup_ap, fLstN_ap, fList_ap, fCall_ap, fCons_ap, fNil_ap, f1_ap, f2_ap, fVar_ap, fC_ap, sFor_ap, List.foldl_cons, List.foldl_nil, List.set_cons_succ, List.set_cons_zero, List.getElem?_cons_zero, List.getElem?_cons_succ, Option.bind_some, fin_rt, fin_nx, Bool.not_true, Bool.not_false, wipeD, nought_fr, one_fr, int_0, int_1, int_2, int_3, int_4, int_8, int_12, len_list, len_tup, len_map, isi_list, isi_tup, isi_str, lt_nn, le_nn, gt_nn, ge_nn, eq_nn, ne_nn, add_nn, whole_n, List.length_map, decide_true, decide_false, leng0, leng1, leng2, leng3, leng4, if_true, if_false, eq_self, Nat.reduceEqDiff, Nat.reduceLT, Nat.reduceLeDiff, len_bnds, h.len]) (by omega)
  rw [run_turn e1 h1 h2]
  unfold turnR natsD
  rw [h.len]
/-! ### what is sure -/
theorem for_all {α : Type} {enc : α → PyData} {p : FP} {body : FS} (I : DEnv → Prop) (d : PyData) (ok : α → Bool) : ∀ (xs : List α) (δ : DEnv), I δ →
    (∀ x δ, x ∈ xs → I δ → ∃ δ1, p (enc x) δ = some δ1 ∧ (ok x = true → ∃ δ2, body δ1 = some (.nx δ2) ∧ I δ2) ∧ (ok x = false → body δ1 = some (.rt d))) →
    (xs.all ok = true → ∃ δ', forD p body (xs.map enc) δ = some (.nx δ') ∧ I δ') ∧ (xs.all ok = false → forD p body (xs.map enc) δ = some (.rt d))
  | [], δ, h, _ => ⟨fun _ => ⟨δ, rfl, h⟩, fun z => by cases z⟩
  | x :: r, δ, h, hs => by
    obtain ⟨δ1, h1, h2, h3⟩ := hs x δ List.mem_cons_self h
    rw [List.all_cons]
    cases q : ok x with
    | false =>
      refine ⟨fun z => (by cases z), fun _ => ?_⟩
      show (p (enc x) δ).bind _ = _
      rw [h1]
      show (body δ1).bind _ = _
      rw [h3 q]
      rfl
    | true =>
      obtain ⟨δ2, h4, h5⟩ := h2 q
      have e : forD p body ((x :: r).map enc) δ = forD p body (r.map enc) δ2 := by
        show (p (enc x) δ).bind _ = _
        rw [h1]
        show (body δ1).bind _ = _
        rw [h4]
        rfl
      rw [e, Bool.true_and]
      exact for_all I d ok r δ2 h5 fun y δ hy i => hs y δ (List.mem_cons_of_mem _ hy) i
def sureP (bs : List (Rat × Rat)) (T : List Nat) (t o : Nat) : Bool := decide (o ∈ T) || !decide (lo bs t < hi bs o)
def sureR (bs : List (Rat × Rat)) (T : List Nat) : Bool := T.all fun t => (List.range bs.length).all fun o => sureP bs T t o
theorem sure_step1 {m : Nat} {bs : List (Rat × Rat)} (h : Bds m bs) {T : List Nat} {t o : Nat} (ht : t < m) (ho : o < m) :
    (sureP bs T t o = true → B_are_sure_1 [.val (bndsD bs), .val (natsD T), .val (natD t), .val (natD o)] = some (.nx [.val (bndsD bs), .val (natsD T), .val (natD t), .val (natD o)])) ∧
    (sureP bs T t o = false → B_are_sure_1 [.val (bndsD bs), .val (natsD T), .val (natD t), .val (natD o)] = some (.rt (.bool false))) := by
  have b1 := (h.lo ht).below (h.hi ho)
  have e1 : notInD (natD o) (natsD T) = some (.bool (!decide (o ∈ T))) := notin_n _ _
  unfold sureP
  cases q1 : decide (o ∈ T) with
  | true =>
    rw [q1] at e1
    refine ⟨fun _ => ?_, fun z => by cases z⟩
    simp only [B_are_sure_1, sSeq_ap, sIf_ap, bOf_ap, bAnd_ap, bOr_ap, bNot_ap, bYes_ap, fAnd_ap, fOr_ap, fNot_ap, fIf_ap, sPat_ap, pName_ap, pTup_ap, setAll, sSkip_ap, sRet_ap, sOwn_ap, sFrz_ap, frz, frz1, sApp_ap, sIns_ap, sDo_ap, fTup_ap, fLstN_ap, fList_ap, fCall_ap, fCons_ap, fNil_ap, f1_ap, f2_ap, fVar_ap, fC_ap, sFor_ap, List.foldl_cons, List.foldl_nil, List.set_cons_succ, List.set_cons_zero, List.getElem?_cons_zero, List.getElem?_cons_succ, Option.bind_some, fin_rt, fin_nx, Bool.not_true, Bool.not_false, wipeD, nought_fr, one_fr, int_0, int_1, int_2, int_3, int_4, int_8, int_12, len_list, len_tup, len_map, isi_list, isi_tup, isi_str, lt_nn, le_nn, gt_nn, ge_nn, eq_nn, ne_nn, add_nn, whole_n, List.length_map, decide_true, decide_false, leng0, leng1, leng2, leng3, leng4, if_true, if_false, eq_self, Nat.reduceEqDiff, Nat.reduceLT, Nat.reduceLeDiff, e1]
  | false =>
    rw [q1] at e1
    cases q2 : decide (lo bs t < hi bs o) with
    | true =>
      rw [q2] at b1
      refine ⟨fun z => (by cases z), fun _ => ?_⟩
      simp only [B_are_sure_1, sSeq_ap, sIf_ap, bOf_ap, bAnd_ap, bOr_ap, bNot_ap, bYes_ap, fAnd_ap, fOr_ap, fNot_ap, fIf_ap, sPat_ap, pName_ap, pTup_ap, setAll, sSkip_ap, sRet_ap, sOwn_ap, sFrz_ap, frz, frz1, sApp_ap, sIns_ap, sDo_ap, fTup_ap, fLstN_ap, fList_ap, fCall_ap, fCons_ap, fNil_ap, f1_ap, f2_ap, fVar_ap, fC_ap, sFor_ap, List.foldl_cons, List.foldl_nil, List.set_cons_succ, List.set_cons_zero, List.getElem?_cons_zero, List.getElem?_cons_succ, Option.bind_some, fin_rt, fin_nx, Bool.not_true, Bool.not_false, wipeD, nought_fr, one_fr, int_0, int_1, int_2, int_3, int_4, int_8, int_12, len_list, len_tup, len_map, isi_list, isi_tup, isi_str, lt_nn, le_nn, gt_nn, ge_nn, eq_nn, ne_nn, add_nn, whole_n, List.length_map, decide_true, decide_false, leng0, leng1, leng2, leng3, leng4, if_true, if_false, eq_self, Nat.reduceEqDiff, Nat.reduceLT, Nat.reduceLeDiff, e1, h.ix ht, h.ix ho, bnd_0, bnd_1, b1]
    | false =>
      rw [q2] at b1
      refine ⟨fun _ => ?_, fun z => by cases z⟩
      simp only [B_are_sure_1, sSeq_ap, sIf_ap, bOf_ap, bAnd_ap, bOr_ap, bNot_ap, bYes_ap, fAnd_ap, fOr_ap, fNot_ap, fIf_ap, sPat_ap, pName_ap, pTup_ap, setAll, sSkip_ap, sRet_ap, sOwn_ap, sFrz_ap, frz, frz1, sApp_ap, sIns_ap, sDo_ap, fTup_ap, fLstN_ap, fList_ap, fCall_ap, fCons_ap, fNil_ap, f1_ap, f2_ap, fVar_ap, fC_ap, sFor_ap, List.foldl_cons, List.foldl_nil, List.set_cons_succ, List.set_cons_zero, List.getElem?_cons_zero, List.getElem?_cons_succ, Option.bind_some, fin_rt, fin_nx, Bool.not_true, Bool.not_false, wipeD, nought_fr, one_fr, int_0, int_1, int_2, int_3, int_4, int_8, int_12, len_list, len_tup, len_map, isi_list, isi_tup, isi_str, lt_nn, le_nn, gt_nn, ge_nn, eq_nn, ne_nn, add_nn, whole_n, List.length_map, decide_true, decide_false, leng0, leng1, leng2, leng3, leng4, if_true, if_false, eq_self, Nat.reduceEqDiff, Nat.reduceLT, Nat.reduceLeDiff, e1, h.ix ht, h.ix ho, bnd_0, bnd_1, b1]
theorem f_sure {m : Nat} {bs : List (Rat × Rat)} (h : Bds m bs) {T : List Nat} (hT : ∀ t ∈ T, t < m) : F_are_sure [bndsD bs, natsD T] = some (.bool (sureR bs T)) := by
  have m2 := h.m2
  obtain ⟨k1, k2⟩ := for_all (enc := natD) (p := pName 2) (body := B_are_sure_2) (fun δ => ∃ x2 x3, δ = [.val (bndsD bs), .val (natsD T), x2, x3]) (.bool false) (fun t => (List.range bs.length).all fun o => sureP bs T t o) T [.val (bndsD bs), .val (natsD T), .no, .no] ⟨_, _, rfl⟩ (by
    rintro t δ ht ⟨x2, x3, rfl⟩
    have htm := hT t ht
    have e1 := dRange_ap (fCall lenD (fCons (fVar 0) fNil)) [.val (bndsD bs), .val (natsD T), .val (natD t), x3] (n := m) (by simp only [sSeq_ap, sIf_ap, bOf_ap, bAnd_ap, bOr_ap, bNot_ap, bYes_ap, fAnd_ap, fOr_ap, fNot_ap, fIf_ap, sPat_ap, pName_ap, pTup_ap, setAll, sSkip_ap, sRet_ap, sOwn_ap, sFrz_ap, frz, frz1, sApp_ap, sIns_ap, sDo_ap, fTup_ap, fLstN_ap, fList_ap, fCall_ap, fCons_ap, fNil_ap, f1_ap, f2_ap, fVar_ap, fC_ap, sFor_ap, List.foldl_cons, List.foldl_nil, List.set_cons_succ, List.set_cons_zero, List.getElem?_cons_zero, List.getElem?_cons_succ, Option.bind_some, fin_rt, fin_nx, Bool.not_true, Bool.not_false, wipeD, nought_fr, one_fr, int_0, int_1, int_2, int_3, int_4, int_8, int_12, len_list, len_tup, len_map, isi_list, isi_tup, isi_str, lt_nn, le_nn, gt_nn, ge_nn, eq_nn, ne_nn, add_nn, whole_n, List.length_map, decide_true, decide_false, leng0, leng1, leng2, leng3, leng4, if_true, if_false, eq_self, Nat.reduceEqDiff, Nat.reduceLT, Nat.reduceLeDiff, len_bnds, h.len]) (by omega)
    obtain ⟨j1, j2⟩ := for_all (enc := natD) (p := pName 3) (body := B_are_sure_1) (fun δ => ∃ x3, δ = [.val (bndsD bs), .val (natsD T), .val (natD t), x3]) (.bool false) (fun o => sureP bs T t o) (List.range m) [.val (bndsD bs), .val (natsD T), .val (natD t), x3] ⟨_, rfl⟩ (by
      rintro o δ ho ⟨x3, rfl⟩
      obtain ⟨i1, i2⟩ := sure_step1 h (T := T) htm (List.mem_range.mp ho)
      exact ⟨_, rfl, fun q => ⟨_, i1 q, _, rfl⟩, i2⟩)
    refine ⟨_, rfl, fun q => ?_, fun q => ?_⟩
    · rw [h.len] at q
      obtain ⟨δ', h3, x3', rfl⟩ := j1 q
      have hb : B_are_sure_2 [.val (bndsD bs), .val (natsD T), .val (natD t), x3] = some (.nx [.val (bndsD bs), .val (natsD T), .val (natD t), x3']) := by
        simp only [B_are_sure_2, sSeq_ap, sIf_ap, bOf_ap, bAnd_ap, bOr_ap, bNot_ap, bYes_ap, fAnd_ap, fOr_ap, fNot_ap, fIf_ap, sPat_ap, pName_ap, pTup_ap, setAll, sSkip_ap, sRet_ap, sOwn_ap, sFrz_ap, frz, frz1, sApp_ap, sIns_ap, sDo_ap, fTup_ap, fLstN_ap, fList_ap, fCall_ap, fCons_ap, fNil_ap, f1_ap, f2_ap, fVar_ap, fC_ap, sFor_ap, List.foldl_cons, List.foldl_nil, List.set_cons_succ, List.set_cons_zero, List.getElem?_cons_zero, List.getElem?_cons_succ, Option.bind_some, fin_rt, fin_nx, Bool.not_true, Bool.not_false, wipeD, nought_fr, one_fr, int_0, int_1, int_2, int_3, int_4, int_8, int_12, len_list, len_tup, len_map, isi_list, isi_tup, isi_str, lt_nn, le_nn, gt_nn, ge_nn, eq_nn, ne_nn, add_nn, whole_n, List.length_map, decide_true, decide_false, leng0, leng1, leng2, leng3, leng4, if_true, if_false, eq_self, Nat.reduceEqDiff, Nat.reduceLT, Nat.reduceLeDiff, e1, h3]
      exact ⟨_, hb, _, _, rfl⟩
    · rw [h.len] at q
      simp only [B_are_sure_2, sSeq_ap, sIf_ap, bOf_ap, bAnd_ap, bOr_ap, bNot_ap, bYes_ap, fAnd_ap, fOr_ap, fNot_ap, fIf_ap, sPat_ap, pName_ap, pTup_ap, setAll, sSkip_ap, sRet_ap, sOwn_ap, sFrz_ap, frz, frz1, sApp_ap, sIns_ap, sDo_ap, fTup_ap, fLstN_ap, fList_ap, fCall_ap, fCons_ap, fNil_ap, f1_ap, f2_ap, fVar_ap, fC_ap, sFor_ap, List.foldl_cons, List.foldl_nil, List.set_cons_succ, List.set_cons_zero, List.getElem?_cons_zero, List.getElem?_cons_succ, Option.bind_some, fin_rt, fin_nx, Bool.not_true, Bool.not_false, wipeD, nought_fr, one_fr, int_0, int_1, int_2, int_3, int_4, int_8, int_12, len_list, len_tup, len_map, isi_list, isi_tup, isi_str, lt_nn, le_nn, gt_nn, ge_nn, eq_nn, ne_nn, add_nn, whole_n, List.length_map, decide_true, decide_false, leng0, leng1, leng2, leng3, leng4, if_true, if_false, eq_self, Nat.reduceEqDiff, Nat.reduceLT, Nat.reduceLeDiff, e1, j2 q])
  have e2 : dList (fVar 1) [.val (bndsD bs), .val (natsD T), .no, .no] = some (T.map natD) := rfl
  rw [r_are_sure]
  unfold sureR
  cases q : T.all fun t => (List.range bs.length).all fun o => sureP bs T t o with
  | true =>
    obtain ⟨δ', h1, x2, x3, rfl⟩ := k1 q
    simp only [B_are_sure, sSeq_ap, sIf_ap, bOf_ap, bAnd_ap, bOr_ap, bNot_ap, bYes_ap, fAnd_ap, fOr_ap, fNot_ap, fIf_ap, sPat_ap, pName_ap, pTup_ap, setAll, sSkip_ap, sRet_ap, sOwn_ap, sFrz_ap, frz, frz1, sApp_ap, sIns_ap, sDo_ap, fTup_ap, fLstN_ap, fList_ap, fCall_ap, fCons_ap, fNil_ap, f1_ap, f2_ap, fVar_ap, fC_ap, sFor_ap, List.foldl_cons, List.foldl_nil, List.set_cons_succ, List.set_cons_zero, List.getElem?_cons_zero, List.getElem?_cons_succ, Option.bind_some, fin_rt, fin_nx, Bool.not_true, Bool.not_false, wipeD, nought_fr, one_fr, int_0, int_1, int_2, int_3, int_4, int_8, int_12, len_list, len_tup, len_map, isi_list, isi_tup, isi_str, lt_nn, le_nn, gt_nn, ge_nn, eq_nn, ne_nn, add_nn, whole_n, List.length_map, decide_true, decide_false, leng0, leng1, leng2, leng3, leng4, if_true, if_false, eq_self, Nat.reduceEqDiff, Nat.reduceLT, Nat.reduceLeDiff, e2, h1]
  | false => simp only [B_are_sure, sSeq_ap, sIf_ap, bOf_ap, bAnd_ap, bOr_ap, bNot_ap, bYes_ap, fAnd_ap, fOr_ap, fNot_ap, fIf_ap, sPat_ap, pName_ap, pTup_ap, setAll, sSkip_ap, sRet_ap, sOwn_ap, sFrz_ap, frz, frz1, sApp_ap, sIns_ap, sDo_ap, fTup_ap, fLstN_ap, fList_ap, fCall_ap, fCons_ap, fNil_ap, f1_ap, f2_ap, fVar_ap, fC_ap, sFor_ap, List.foldl_cons, List.foldl_nil, List.set_cons_succ, List.set_cons_zero, List.getElem?_cons_zero, List.getElem?_cons_succ, Option.bind_some, fin_rt, fin_nx, Bool.not_true, Bool.not_false, wipeD, nought_fr, one_fr, int_0, int_1, int_2, int_3, int_4, int_8, int_12, len_list, len_tup, len_map, isi_list, isi_tup, isi_str, lt_nn, le_nn, gt_nn, ge_nn, eq_nn, ne_nn, add_nn, whole_n, List.length_map, decide_true, decide_false, leng0, leng1, leng2, leng3, leng4, if_true, if_false, eq_self, Nat.reduceEqDiff, Nat.reduceLT, Nat.reduceLeDiff, e2, k2 q]
def sortN (ns : List Nat) : List Nat := ns.mergeSort fun a b => decide (a ≤ b)
theorem f_sorted {ns : List Nat} (h : ns.length < 64) : sortedD [natsD ns] = some (natsD (sortN ns)) := by
  show (ints? (ns.map natD)).bind _ = _
  rw [ints_nats, Option.bind_some, if_pos (by rw [List.length_map]; exact h)]
  unfold natsD sortN sortI
  rw [← List.map_mergeSort (r := fun a b : Nat => decide (a ≤ b)) (fun a _ b _ => decide_eq_decide.mpr (by omega)), List.map_map]
  rfl
theorem sortN_perm (ns : List Nat) : (sortN ns).Perm ns := List.mergeSort_perm _ _
theorem sortN_le (ns : List Nat) : (sortN ns).Pairwise fun a b => a ≤ b := by
  have := List.pairwise_mergeSort (le := fun a b : Nat => decide (a ≤ b)) (fun a b c h1 h2 => by simp only [decide_eq_true_eq] at *; omega) (fun a b => by simp only [Bool.or_eq_true, decide_eq_true_eq]; omega) ns
  exact this.imp fun h => of_decide_eq_true h
theorem sortN_lt {ns : List Nat} (h : ns.Nodup) : (sortN ns).Pairwise fun a b => a < b := by
  have h1 := sortN_le ns
  have h2 : (sortN ns).Pairwise fun a b => a ≠ b := (sortN_perm ns).nodup_iff.mpr h
  exact (h1.and h2).imp fun h => by omega
/-- the first few of the turn -/
def fewR (bs : List (Rat × Rat)) (c : Nat) : List Nat := sortN ((turnR bs).take c)
theorem few_lt {bs : List (Rat × Rat)} {c t : Nat} (h : t ∈ fewR bs c) : t < bs.length := turn_mem.mp (List.mem_of_mem_take ((sortN_perm _).mem_iff.mp h))
def optT : Option (List Nat) → PyData
  | some T => natsD T
  | none => .none
def sureB (bs : List (Rat × Rat)) (c : Nat) : Option (List Nat) := if sureR bs (fewR bs c) = true then some (fewR bs c) else none
theorem run_sure_by {S c T U V : PyData} {b : Bool} (h1 : F_in_turn [S] = some T) (h2 : toD T c = some U) (h3 : sortedD [U] = some V) (h4 : F_are_sure [S, V] = some (.bool b)) : F_sure_by [S, c] = some (if b = true then V else .none) := by
  rw [r_sure_by]
  cases b <;> simp only [B_sure_by, sSeq_ap, sIf_ap, bOf_ap, bAnd_ap, bOr_ap, bNot_ap, bYes_ap, fAnd_ap, fOr_ap, fNot_ap, fIf_ap, sPat_ap, pName_ap, pTup_ap, setAll, sSkip_ap, sRet_ap, sOwn_ap, sFrz_ap, frz, frz1, sApp_ap, sIns_ap, sDo_ap, fTup_ap, fLstN_ap, fList_ap, fCall_ap, fCons_ap, fNil_ap, f1_ap, f2_ap, fVar_ap, fC_ap, sFor_ap, List.foldl_cons, List.foldl_nil, List.set_cons_succ, List.set_cons_zero, List.getElem?_cons_zero, List.getElem?_cons_succ, Option.bind_some, fin_rt, fin_nx, Bool.not_true, Bool.not_false, wipeD, nought_fr, one_fr, int_0, int_1, int_2, int_3, int_4, int_8, int_12, len_list, len_tup, len_map, isi_list, isi_tup, isi_str, lt_nn, le_nn, gt_nn, ge_nn, eq_nn, ne_nn, add_nn, whole_n, List.length_map, decide_true, decide_false, leng0, leng1, leng2, leng3, leng4, if_true, if_false, eq_self, Nat.reduceEqDiff, Nat.reduceLT, Nat.reduceLeDiff, h1, h2, h3, h4] <;> rfl
theorem f_sure_by {m c : Nat} {bs : List (Rat × Rat)} (h : Bds m bs) : F_sure_by [bndsD bs, natD c] = some (optT (sureB bs c)) := by
  have m2 := h.m2
  have e1 : toD (natsD (turnR bs)) (natD c) = some (natsD ((turnR bs).take c)) := to_map _ _ _
  have e2 : sortedD [natsD ((turnR bs).take c)] = some (natsD (fewR bs c)) := f_sorted (by rw [List.length_take, turn_len, h.len]; omega)
  have e3 := f_sure h (T := fewR bs c) fun t ht => by rw [← h.len]; exact few_lt ht
  rw [run_sure_by (f_turn h) e1 e2 e3]
  unfold sureB
  split <;> rfl
theorem bds_of {m : Nat} {b : List (List Rat)} {r : Rule} {ds : List Nat} (h : Bok m b) (hr : Rok b.length r) (hd : ds.length = b.length) (as : List (Nat × Nat)) : Bds m (bbR b r ds as m) :=
  ⟨by unfold bbR bndR; rw [List.length_map, List.length_range], h.m2, (f_bounds_by (sok_of h hd as) hr).2⟩
theorem run_sure_few {b r c l n S U x1 x2 x3 x4 : PyData} (h1 : F_look_at_book [b] = some x1) (h2 : lenD [b] = some n) (h3 : F_look_at_rule [r, n] = some x2) (h4 : F_look_at_count [b, c] = some x3) (h5 : F_look_at_looks [b, l] = some x4) (h6 : F_bounds_of [b, r, l] = some S) (h7 : F_sure_by [S, c] = some U) : F_sure_few [b, r, c, l] = some U := by
  rw [r_sure_few]
  simp only [B_sure_few, sSeq_ap, sIf_ap, bOf_ap, bAnd_ap, bOr_ap, bNot_ap, bYes_ap, fAnd_ap, fOr_ap, fNot_ap, fIf_ap, sPat_ap, pName_ap, pTup_ap, setAll, sSkip_ap, sRet_ap, sOwn_ap, sFrz_ap, frz, frz1, sApp_ap, sIns_ap, sDo_ap, fTup_ap, fLstN_ap, fList_ap, fCall_ap, fCons_ap, fNil_ap, f1_ap, f2_ap, fVar_ap, fC_ap, sFor_ap, List.foldl_cons, List.foldl_nil, List.set_cons_succ, List.set_cons_zero, List.getElem?_cons_zero, List.getElem?_cons_succ, Option.bind_some, fin_rt, fin_nx, Bool.not_true, Bool.not_false, wipeD, nought_fr, one_fr, int_0, int_1, int_2, int_3, int_4, int_8, int_12, len_list, len_tup, len_map, isi_list, isi_tup, isi_str, lt_nn, le_nn, gt_nn, ge_nn, eq_nn, ne_nn, add_nn, whole_n, List.length_map, decide_true, decide_false, leng0, leng1, leng2, leng3, leng4, if_true, if_false, eq_self, Nat.reduceEqDiff, Nat.reduceLT, Nat.reduceLeDiff, h1, h2, h3, h4, h5, h6, h7]
theorem f_sure_few {m c : Nat} {b : List (List Rat)} {r : Rule} {ds : List Nat} {as : List (Nat × Nat)} (h : Bok m b) (hr : Rok b.length r) (hl : Lok b.length m ds as) (hc : c ≤ m) : F_sure_few [bookD b, ruleD r, natD c, looksD ds as] = some (optT (sureB (bbR b r ds as m) c)) := by
  exact run_sure_few (f_look_at_book h) (len_book b) (f_look_at_rule hr h.n2) (f_look_at_count h hc) (f_look_at_looks h hl) (f_bounds_of h hr hl.dn) (f_sure_by (bds_of h hr hl.dn as))
/-! ### no other book -/
theorem neg_one_lt (n : Nat) : leD (natD n) (.int (-1)) = some (.bool false) := by
  unfold natD
  rw [le_ii, decide_eq_false (by omega)]
theorem f_are_things {m : Nat} {T : List Nat} (h1 : T.Pairwise fun a b => a < b) (h2 : ∀ t ∈ T, t < m) : F_are_things [natsD T, natD m] = some (.bool true) := by
  obtain ⟨δ', h3, x3, h4⟩ := for_inv (enc := natD) (p := pName 3) (body := B_are_things_1) (xs := T) (δ := [.val (natsD T), .val (natD m), .val (.int (-1)), .no])
    (fun pr δ => ∃ x3, δ = [.val (natsD T), .val (natD m), .val (match pr.getLast? with
      | some p => natD p
      | none => .int (-1)), x3]) ⟨_, rfl⟩ (by
      rintro pr p po δ e ⟨x3, rfl⟩
      have hp := h2 p (by rw [e]; exact List.mem_append_right _ List.mem_cons_self)
      have e3 : decide (m ≤ p) = false := decide_eq_false (by omega)
      have hb : B_are_things_1 [.val (natsD T), .val (natD m), .val (match pr.getLast? with
        | some p => natD p
        | none => .int (-1)), .val (natD p)] = some (.nx [.val (natsD T), .val (natD m), .val (natD p), .val (natD p)]) := by
        cases q : pr.getLast? with
        | none => simp only [B_are_things_1, sSeq_ap, sIf_ap, bOf_ap, bAnd_ap, bOr_ap, bNot_ap, bYes_ap, fAnd_ap, fOr_ap, fNot_ap, fIf_ap, sPat_ap, pName_ap, pTup_ap, setAll, sSkip_ap, sRet_ap, sOwn_ap, sFrz_ap, frz, frz1, sApp_ap, sIns_ap, sDo_ap, fTup_ap, fLstN_ap, fList_ap, fCall_ap, fCons_ap, fNil_ap, f1_ap, f2_ap, fVar_ap, fC_ap, sFor_ap, List.foldl_cons, List.foldl_nil, List.set_cons_succ, List.set_cons_zero, List.getElem?_cons_zero, List.getElem?_cons_succ, Option.bind_some, fin_rt, fin_nx, Bool.not_true, Bool.not_false, wipeD, nought_fr, one_fr, int_0, int_1, int_2, int_3, int_4, int_8, int_12, len_list, len_tup, len_map, isi_list, isi_tup, isi_str, lt_nn, le_nn, gt_nn, ge_nn, eq_nn, ne_nn, add_nn, whole_n, List.length_map, decide_true, decide_false, leng0, leng1, leng2, leng3, leng4, if_true, if_false, eq_self, Nat.reduceEqDiff, Nat.reduceLT, Nat.reduceLeDiff, neg_one_lt, e3]
        | some r =>
          rw [e] at h1
          have hlt := (List.pairwise_append.mp h1).2.2 r (List.mem_of_getLast? q) p List.mem_cons_self
          have e4 : decide (p ≤ r) = false := decide_eq_false (by omega)
          simp only [B_are_things_1, sSeq_ap, sIf_ap, bOf_ap, bAnd_ap, bOr_ap, bNot_ap, bYes_ap, fAnd_ap, fOr_ap, fNot_ap, fIf_ap, sPat_ap, pName_ap, pTup_ap, setAll, sSkip_ap, sRet_ap, sOwn_ap, sFrz_ap, frz, frz1, sApp_ap, sIns_ap, sDo_ap, fTup_ap, fLstN_ap, fList_ap, fCall_ap, fCons_ap, fNil_ap, f1_ap, f2_ap, fVar_ap, fC_ap, sFor_ap, List.foldl_cons, List.foldl_nil, List.set_cons_succ, List.set_cons_zero, List.getElem?_cons_zero, List.getElem?_cons_succ, Option.bind_some, fin_rt, fin_nx, Bool.not_true, Bool.not_false, wipeD, nought_fr, one_fr, int_0, int_1, int_2, int_3, int_4, int_8, int_12, len_list, len_tup, len_map, isi_list, isi_tup, isi_str, lt_nn, le_nn, gt_nn, ge_nn, eq_nn, ne_nn, add_nn, whole_n, List.length_map, decide_true, decide_false, leng0, leng1, leng2, leng3, leng4, if_true, if_false, eq_self, Nat.reduceEqDiff, Nat.reduceLT, Nat.reduceLeDiff, e3, e4]
      refine ⟨_, _, rfl, hb, .val (natD p), ?_⟩
      rw [getLast_snoc])
  have e1 : dList (fVar 0) [.val (natsD T), .val (natD m), .val (.int (-1)), .no] = some (T.map natD) := rfl
  have e2 : isiD "list" (natsD T) = some (.bool true) := rfl
  rw [r_are_things]
  simp only [B_are_things, sSeq_ap, sIf_ap, bOf_ap, bAnd_ap, bOr_ap, bNot_ap, bYes_ap, fAnd_ap, fOr_ap, fNot_ap, fIf_ap, sPat_ap, pName_ap, pTup_ap, setAll, sSkip_ap, sRet_ap, sOwn_ap, sFrz_ap, frz, frz1, sApp_ap, sIns_ap, sDo_ap, fTup_ap, fLstN_ap, fList_ap, fCall_ap, fCons_ap, fNil_ap, f1_ap, f2_ap, fVar_ap, fC_ap, sFor_ap, List.foldl_cons, List.foldl_nil, List.set_cons_succ, List.set_cons_zero, List.getElem?_cons_zero, List.getElem?_cons_succ, Option.bind_some, fin_rt, fin_nx, Bool.not_true, Bool.not_false, wipeD, nought_fr, one_fr, int_0, int_1, int_2, int_3, int_4, int_8, int_12, len_list, len_tup, len_map, isi_list, isi_tup, isi_str, lt_nn, le_nn, gt_nn, ge_nn, eq_nn, ne_nn, add_nn, whole_n, List.length_map, decide_true, decide_false, leng0, leng1, leng2, leng3, leng4, if_true, if_false, eq_self, Nat.reduceEqDiff, Nat.reduceLT, Nat.reduceLeDiff, neg_1, e1, e2, h3, h4]
theorem f_look_at_things {m : Nat} {b : List (List Rat)} (h : Bok m b) {T : List Nat} (h1 : T.Pairwise fun a b => a < b) (h2 : ∀ t ∈ T, t < m) : F_look_at_things [bookD b, natsD T] = some .none := by
  obtain ⟨r, q1, q2, q3⟩ := h.hd
  rw [r_look_at_things]
  simp only [B_look_at_things, sSeq_ap, sIf_ap, bOf_ap, bAnd_ap, bOr_ap, bNot_ap, bYes_ap, fAnd_ap, fOr_ap, fNot_ap, fIf_ap, sPat_ap, pName_ap, pTup_ap, setAll, sSkip_ap, sRet_ap, sOwn_ap, sFrz_ap, frz, frz1, sApp_ap, sIns_ap, sDo_ap, fTup_ap, fLstN_ap, fList_ap, fCall_ap, fCons_ap, fNil_ap, f1_ap, f2_ap, fVar_ap, fC_ap, sFor_ap, List.foldl_cons, List.foldl_nil, List.set_cons_succ, List.set_cons_zero, List.getElem?_cons_zero, List.getElem?_cons_succ, Option.bind_some, fin_rt, fin_nx, Bool.not_true, Bool.not_false, wipeD, nought_fr, one_fr, int_0, int_1, int_2, int_3, int_4, int_8, int_12, len_list, len_tup, len_map, isi_list, isi_tup, isi_str, lt_nn, le_nn, gt_nn, ge_nn, eq_nn, ne_nn, add_nn, whole_n, List.length_map, decide_true, decide_false, leng0, leng1, leng2, leng3, leng4, if_true, if_false, eq_self, Nat.reduceEqDiff, Nat.reduceLT, Nat.reduceLeDiff, ix_book q1, len_row, q3, f_are_things h1 h2]
theorem f_beaten {m : Nat} {bs : List (Rat × Rat)} (h : Bds m bs) {T : List Nat} (hT : ∀ t ∈ T, t < m) (hs : sureR bs T = true) : F_beaten_pair [bndsD bs, natsD T] = some .none := by
  have m2 := h.m2
  have hs' : ∀ t ∈ T, ∀ o, o < m → sureP bs T t o = true := fun t ht o ho => by
    have := List.all_eq_true.mp (List.all_eq_true.mp hs t ht) o (List.mem_range.mpr (by rw [h.len]; exact ho))
    exact this
  obtain ⟨δ', h3, x2, x3, h4⟩ := for_inv (enc := natD) (p := pName 2) (body := B_beaten_pair_2) (xs := T) (δ := [.val (bndsD bs), .val (natsD T), .no, .no])
    (fun pr δ => ∃ x2 x3, δ = [.val (bndsD bs), .val (natsD T), x2, x3]) ⟨_, _, rfl⟩ (by
      rintro pr t po δ e ⟨x2, x3, rfl⟩
      have ht : t ∈ T := by rw [e]; exact List.mem_append_right _ List.mem_cons_self
      obtain ⟨δ', h5, x3', h6⟩ := for_inv (enc := natD) (p := pName 3) (body := B_beaten_pair_1) (xs := List.range m) (δ := [.val (bndsD bs), .val (natsD T), .val (natD t), x3])
        (fun pr δ => ∃ x3, δ = [.val (bndsD bs), .val (natsD T), .val (natD t), x3]) ⟨_, rfl⟩ (by
          rintro pr o po δ e2 ⟨x3, rfl⟩
          have ho : o < m := List.mem_range.mp (by rw [e2]; exact List.mem_append_right _ List.mem_cons_self)
          have hp := hs' t ht o ho
          have b1 := (h.lo (hT t ht)).below (h.hi ho)
          have e1 : notInD (natD o) (natsD T) = some (.bool (!decide (o ∈ T))) := notin_n _ _
          have hb : B_beaten_pair_1 [.val (bndsD bs), .val (natsD T), .val (natD t), .val (natD o)] = some (.nx [.val (bndsD bs), .val (natsD T), .val (natD t), .val (natD o)]) := by
            unfold sureP at hp
            cases q1 : decide (o ∈ T) with
            | true =>
              rw [q1] at e1
              simp only [B_beaten_pair_1, sSeq_ap, sIf_ap, bOf_ap, bAnd_ap, bOr_ap, bNot_ap, bYes_ap, fAnd_ap, fOr_ap, fNot_ap, fIf_ap, sPat_ap, pName_ap, pTup_ap, setAll, sSkip_ap, sRet_ap, sOwn_ap, sFrz_ap, frz, frz1, sApp_ap, sIns_ap, sDo_ap, fTup_ap, fLstN_ap, fList_ap, fCall_ap, fCons_ap, fNil_ap, f1_ap, f2_ap, fVar_ap, fC_ap, sFor_ap, List.foldl_cons, List.foldl_nil, List.set_cons_succ, List.set_cons_zero, List.getElem?_cons_zero, List.getElem?_cons_succ, Option.bind_some, fin_rt, fin_nx, Bool.not_true, Bool.not_false, wipeD, nought_fr, one_fr, int_0, int_1, int_2, int_3, int_4, int_8, int_12, len_list, len_tup, len_map, isi_list, isi_tup, isi_str, lt_nn, le_nn, gt_nn, ge_nn, eq_nn, ne_nn, add_nn, whole_n, List.length_map, decide_true, decide_false, leng0, leng1, leng2, leng3, leng4, if_true, if_false, eq_self, Nat.reduceEqDiff, Nat.reduceLT, Nat.reduceLeDiff, e1]
            | false =>
              rw [q1] at e1 hp
              cases q2 : decide (lo bs t < hi bs o) with
              | true =>
                rw [q2] at hp
                cases hp
              | false =>
                rw [q2] at b1
                simp only [B_beaten_pair_1, sSeq_ap, sIf_ap, bOf_ap, bAnd_ap, bOr_ap, bNot_ap, bYes_ap, fAnd_ap, fOr_ap, fNot_ap, fIf_ap, sPat_ap, pName_ap, pTup_ap, setAll, sSkip_ap, sRet_ap, sOwn_ap, sFrz_ap, frz, frz1, sApp_ap, sIns_ap, sDo_ap, fTup_ap, fLstN_ap, fList_ap, fCall_ap, fCons_ap, fNil_ap, f1_ap, f2_ap, fVar_ap, fC_ap, sFor_ap, List.foldl_cons, List.foldl_nil, List.set_cons_succ, List.set_cons_zero, List.getElem?_cons_zero, List.getElem?_cons_succ, Option.bind_some, fin_rt, fin_nx, Bool.not_true, Bool.not_false, wipeD, nought_fr, one_fr, int_0, int_1, int_2, int_3, int_4, int_8, int_12, len_list, len_tup, len_map, isi_list, isi_tup, isi_str, lt_nn, le_nn, gt_nn, ge_nn, eq_nn, ne_nn, add_nn, whole_n, List.length_map, decide_true, decide_false, leng0, leng1, leng2, leng3, leng4, if_true, if_false, eq_self, Nat.reduceEqDiff, Nat.reduceLT, Nat.reduceLeDiff, e1, h.ix (hT t ht), h.ix ho, bnd_0, bnd_1, b1]
          exact ⟨_, _, rfl, hb, _, rfl⟩)
      have e1 := dRange_ap (fCall lenD (fCons (fVar 0) fNil)) [.val (bndsD bs), .val (natsD T), .val (natD t), x3] (n := m) (by simp only [sSeq_ap, sIf_ap, bOf_ap, bAnd_ap, bOr_ap, bNot_ap, bYes_ap, fAnd_ap, fOr_ap, fNot_ap, fIf_ap, sPat_ap, pName_ap, pTup_ap, setAll, sSkip_ap, sRet_ap, sOwn_ap, sFrz_ap, frz, frz1, sApp_ap, sIns_ap, sDo_ap, fTup_ap, fLstN_ap, fList_ap, fCall_ap, fCons_ap, fNil_ap, f1_ap, f2_ap, fVar_ap, fC_ap, sFor_ap, List.foldl_cons, List.foldl_nil, List.set_cons_succ, List.set_cons_zero, List.getElem?_cons_zero, List.getElem?_cons_succ, Option.bind_some, fin_rt, fin_nx, Bool.not_true, Bool.not_false, wipeD, nought_fr, one_fr, int_0, int_1, int_2, int_3, int_4, int_8, int_12, len_list, len_tup, len_map, isi_list, isi_tup, isi_str, lt_nn, le_nn, gt_nn, ge_nn, eq_nn, ne_nn, add_nn, whole_n, List.length_map, decide_true, decide_false, leng0, leng1, leng2, leng3, leng4, if_true, if_false, eq_self, Nat.reduceEqDiff, Nat.reduceLT, Nat.reduceLeDiff, len_bnds, h.len]) (by omega)
      have hb : B_beaten_pair_2 [.val (bndsD bs), .val (natsD T), .val (natD t), x3] = some (.nx [.val (bndsD bs), .val (natsD T), .val (natD t), x3']) := by
        rw [h6] at h5
        simp only [B_beaten_pair_2, sSeq_ap, sIf_ap, bOf_ap, bAnd_ap, bOr_ap, bNot_ap, bYes_ap, fAnd_ap, fOr_ap, fNot_ap, fIf_ap, sPat_ap, pName_ap, pTup_ap, setAll, sSkip_ap, sRet_ap, sOwn_ap, sFrz_ap, frz, frz1, sApp_ap, sIns_ap, sDo_ap, fTup_ap, fLstN_ap, fList_ap, fCall_ap, fCons_ap, fNil_ap, f1_ap, f2_ap, fVar_ap, fC_ap, sFor_ap, List.foldl_cons, List.foldl_nil, List.set_cons_succ, List.set_cons_zero, List.getElem?_cons_zero, List.getElem?_cons_succ, Option.bind_some, fin_rt, fin_nx, Bool.not_true, Bool.not_false, wipeD, nought_fr, one_fr, int_0, int_1, int_2, int_3, int_4, int_8, int_12, len_list, len_tup, len_map, isi_list, isi_tup, isi_str, lt_nn, le_nn, gt_nn, ge_nn, eq_nn, ne_nn, add_nn, whole_n, List.length_map, decide_true, decide_false, leng0, leng1, leng2, leng3, leng4, if_true, if_false, eq_self, Nat.reduceEqDiff, Nat.reduceLT, Nat.reduceLeDiff, e1, h5]
      exact ⟨_, _, rfl, hb, _, _, rfl⟩)
  have e2 : dList (fVar 1) [.val (bndsD bs), .val (natsD T), .no, .no] = some (T.map natD) := rfl
  rw [r_beaten_pair]
  simp only [B_beaten_pair, sSeq_ap, sIf_ap, bOf_ap, bAnd_ap, bOr_ap, bNot_ap, bYes_ap, fAnd_ap, fOr_ap, fNot_ap, fIf_ap, sPat_ap, pName_ap, pTup_ap, setAll, sSkip_ap, sRet_ap, sOwn_ap, sFrz_ap, frz, frz1, sApp_ap, sIns_ap, sDo_ap, fTup_ap, fLstN_ap, fList_ap, fCall_ap, fCons_ap, fNil_ap, f1_ap, f2_ap, fVar_ap, fC_ap, sFor_ap, List.foldl_cons, List.foldl_nil, List.set_cons_succ, List.set_cons_zero, List.getElem?_cons_zero, List.getElem?_cons_succ, Option.bind_some, fin_rt, fin_nx, Bool.not_true, Bool.not_false, wipeD, nought_fr, one_fr, int_0, int_1, int_2, int_3, int_4, int_8, int_12, len_list, len_tup, len_map, isi_list, isi_tup, isi_str, lt_nn, le_nn, gt_nn, ge_nn, eq_nn, ne_nn, add_nn, whole_n, List.length_map, decide_true, decide_false, leng0, leng1, leng2, leng3, leng4, if_true, if_false, eq_self, Nat.reduceEqDiff, Nat.reduceLT, Nat.reduceLeDiff, e2, h3]
theorem f_other {m : Nat} {b : List (List Rat)} {r : Rule} {ds : List Nat} {as : List (Nat × Nat)} {T : List Nat} (rest : FS) (h : Bok m b) (hr : Rok b.length r) (hl : Lok b.length m ds as) (h1 : T.Pairwise fun a b => a < b) (h2 : ∀ t ∈ T, t < m) (hs : sureR (bbR b r ds as m) T = true) :
    F_other_book rest [bookD b, ruleD r, natsD T, looksD ds as] = some .none := by
  have e1 : isNoneD .none = some (.bool true) := rfl
  rw [r_other_book]
  simp only [B_other_book, sSeq_ap, sIf_ap, bOf_ap, bAnd_ap, bOr_ap, bNot_ap, bYes_ap, fAnd_ap, fOr_ap, fNot_ap, fIf_ap, sPat_ap, pName_ap, pTup_ap, setAll, sSkip_ap, sRet_ap, sOwn_ap, sFrz_ap, frz, frz1, sApp_ap, sIns_ap, sDo_ap, fTup_ap, fLstN_ap, fList_ap, fCall_ap, fCons_ap, fNil_ap, f1_ap, f2_ap, fVar_ap, fC_ap, sFor_ap, List.foldl_cons, List.foldl_nil, List.set_cons_succ, List.set_cons_zero, List.getElem?_cons_zero, List.getElem?_cons_succ, Option.bind_some, fin_rt, fin_nx, Bool.not_true, Bool.not_false, wipeD, nought_fr, one_fr, int_0, int_1, int_2, int_3, int_4, int_8, int_12, len_list, len_tup, len_map, isi_list, isi_tup, isi_str, lt_nn, le_nn, gt_nn, ge_nn, eq_nn, ne_nn, add_nn, whole_n, List.length_map, decide_true, decide_false, leng0, leng1, leng2, leng3, leng4, if_true, if_false, eq_self, Nat.reduceEqDiff, Nat.reduceLT, Nat.reduceLeDiff, f_look_at_book h, len_book, f_look_at_rule hr h.n2, f_look_at_things h h1 h2, f_look_at_looks h hl, f_bounds_of h hr hl.dn, f_beaten (bds_of h hr hl.dn as) h2 hs, e1]
end DL

set_option Elab.async false
set_option linter.all false
set_option maxRecDepth 100000
set_option maxHeartbeats 4000000
set_option exponentiation.threshold 3000
/-! Eq6: the paper and its judge. -/
namespace DL
open PySem
def lnD (x : Nat × Rat) : PyData := .tuple [natD x.1, frR x.2]
def lnsD (l : List (Nat × Rat)) : PyData := .list (l.map lnD)
def triD (x : Nat × Nat × Rat) : PyData := .tuple [natD x.1, natD x.2.1, frR x.2.2]
def lineP (p : List Rat × Nat) : List (Nat × Rat) := (readR p.1 p.2).map fun i => (i, W p.1 i)
def linesP (b : List (List Rat)) (ds : List Nat) : List (List (Nat × Rat)) := (b.zip ds).map lineP
def linesPD (L : List (List (Nat × Rat))) : PyData := .list (L.map lnsD)
def askP (b : List (List Rat)) (as : List (Nat × Nat)) : List (Nat × Nat × Rat) := as.map fun p => (p.1, p.2, W (b.getD p.1 []) p.2)
def askPD (A : List (Nat × Nat × Rat)) : PyData := .list (A.map triD)
def paperD (L : List (List (Nat × Rat))) (A : List (Nat × Nat × Rat)) (T : List Nat) : PyData := .tuple [linesPD L, askPD A, natsD T]
theorem ix_lastm {α : Type} {enc : α → PyData} {xs : List α} {x : α} (h : xs.getLast? = some x) : ixD (.list (xs.map enc)) (.int (-1)) = some (enc x) := by
  have hne : xs.map enc ≠ [] := by
    intro z
    rw [List.map_eq_nil_iff.mp z] at h
    cases h
  show L2.atI (xs.map enc) (-1) = _
  rw [atI_last' _ hne, List.getLast?_map, h]
  rfl
/-! ### the paper -/
theorem read_len (r : List Rat) (d : Nat) : (readR r d).length ≤ r.length := by
  unfold readR
  rw [List.length_take, order_len]
  omega
theorem paper_step {a0 a1 a2 a3 a4 x8 x9 : DV} {r : List Rat} {d : Nat} {acc : List PyData} (hr : r.length ≤ 12) (hl : acc.length ≤ 1000) :
    B_seen_paper_1 [a0, a1, a2, a3, a4, .own acc, .val (rowD r), .val (natsD (readR r d)), x8, x9] = some (.nx [a0, a1, a2, a3, a4, .own (acc ++ [lnsD (lineP (r, d))]), .val (rowD r), .val (natsD (readR r d)), x8, x9]) := by
  have hlen := read_len r d
  have c : fComp (dVar 7) (pName 8) bYes (fTup (fCons (fVar 8) (fCons (f2 ixD (fVar 6) (fVar 8)) fNil))) [8] [a0, a1, a2, a3, a4, .own acc, .val (rowD r), .val (natsD (readR r d)), x8, x9] = some ((readR r d).map fun i => lnD (i, W r i)) :=
    comp_map (enc := natD) _ _ rfl (by omega) fun i hi => ⟨_, rfl, by
      simp only [sSeq_ap, sIf_ap, bOf_ap, bAnd_ap, bOr_ap, bNot_ap, bYes_ap, fAnd_ap, fOr_ap, fNot_ap, fIf_ap, sPat_ap, pName_ap, pTup_ap, setAll, sSkip_ap, sRet_ap, sOwn_ap, sFrz_ap, frz, frz1, sApp_ap, sIns_ap, sDo_ap, fTup_ap, fLstN_ap, fList_ap, fCall_ap, fCons_ap, fNil_ap, f1_ap, f2_ap, fVar_ap, fC_ap, sFor_ap, List.foldl_cons, List.foldl_nil, List.set_cons_succ, List.set_cons_zero, List.getElem?_cons_zero, List.getElem?_cons_succ, Option.bind_some, fin_rt, fin_nx, Bool.not_true, Bool.not_false, wipeD, nought_fr, one_fr, int_0, int_1, int_2, int_3, int_4, int_8, int_12, len_list, len_tup, len_map, isi_list, isi_tup, isi_str, lt_nn, le_nn, gt_nn, ge_nn, eq_nn, ne_nn, add_nn, whole_n, List.length_map, decide_true, decide_false, leng0, leng1, leng2, leng3, leng4, if_true, if_false, eq_self, Nat.reduceEqDiff, Nat.reduceLT, Nat.reduceLeDiff, ix_row (at_W (read_lt hi))]
      rfl⟩
  have e : PyData.list ((readR r d).map fun i => lnD (i, W r i)) = lnsD (lineP (r, d)) := by
    unfold lnsD lineP
    rw [List.map_map]
    rfl
  simp only [B_seen_paper_1, sSeq_ap, sIf_ap, bOf_ap, bAnd_ap, bOr_ap, bNot_ap, bYes_ap, fAnd_ap, fOr_ap, fNot_ap, fIf_ap, sPat_ap, pName_ap, pTup_ap, setAll, sSkip_ap, sRet_ap, sOwn_ap, sFrz_ap, frz, frz1, sApp_ap, sIns_ap, sDo_ap, fTup_ap, fLstN_ap, fList_ap, fCall_ap, fCons_ap, fNil_ap, f1_ap, f2_ap, fVar_ap, fC_ap, sFor_ap, List.foldl_cons, List.foldl_nil, List.set_cons_succ, List.set_cons_zero, List.getElem?_cons_zero, List.getElem?_cons_succ, Option.bind_some, fin_rt, fin_nx, Bool.not_true, Bool.not_false, wipeD, nought_fr, one_fr, int_0, int_1, int_2, int_3, int_4, int_8, int_12, len_list, len_tup, len_map, isi_list, isi_tup, isi_str, lt_nn, le_nn, gt_nn, ge_nn, eq_nn, ne_nn, add_nn, whole_n, List.length_map, decide_true, decide_false, leng0, leng1, leng2, leng3, leng4, if_true, if_false, eq_self, Nat.reduceEqDiff, Nat.reduceLT, Nat.reduceLeDiff, c, app_eq _ _ _ hl, e]
theorem run_paper {b r c l n S T x1 x2 x3 x4 : PyData} {zs ls as : List PyData} {δ' : DEnv} {y6 y7 y8 y9 : DV} (h1 : F_look_at_book [b] = some x1) (h2 : lenD [b] = some n) (h3 : F_look_at_rule [r, n] = some x2) (h4 : F_look_at_count [b, c] = some x3) (h5 : F_look_at_looks [b, l] = some x4)
    (h6 : F_bounds_of [b, r, l] = some S) (h7 : F_sure_by [S, c] = some T) (h8 : isNoneD T = some (.bool false)) (h9 : dZip (fVar 0) (fCall F_read_lines (fCons (fVar 0) (fCons (f2 ixD (fVar 3) (fC (natD 0))) fNil))) [.val b, .val r, .val c, .val l, .val T, .own [], .no, .no, .no, .no] = some zs)
    (h10 : forD (pTup [6, 7]) B_seen_paper_1 zs [.val b, .val r, .val c, .val l, .val T, .own [], .no, .no, .no, .no] = some (.nx δ')) (h11 : δ' = [.val b, .val r, .val c, .val l, .val T, .own ls, y6, y7, y8, y9])
    (h12 : fComp (dList (f2 ixD (fVar 3) (fC (natD 1)))) (pTup [9, 8]) bYes (fTup (fCons (fVar 9) (fCons (fVar 8) (fCons (f2 ixD (f2 ixD (fVar 0) (fVar 9)) (fVar 8)) fNil)))) [9, 8] [.val b, .val r, .val c, .val l, .val T, .val (.list ls), y6, y7, y8, y9] = some as) :
    F_seen_paper [b, r, c, l] = some (.tuple [.list ls, .list as, T]) := by
  rw [r_seen_paper]
  simp only [B_seen_paper, sSeq_ap, sIf_ap, bOf_ap, bAnd_ap, bOr_ap, bNot_ap, bYes_ap, fAnd_ap, fOr_ap, fNot_ap, fIf_ap, sPat_ap, pName_ap, pTup_ap, setAll, sSkip_ap, sRet_ap, sOwn_ap, sFrz_ap, frz, frz1, sApp_ap, sIns_ap, sDo_ap, fTup_ap, fLstN_ap, fList_ap, fCall_ap, fCons_ap, fNil_ap, f1_ap, f2_ap, fVar_ap, fC_ap, sFor_ap, List.foldl_cons, List.foldl_nil, List.set_cons_succ, List.set_cons_zero, List.getElem?_cons_zero, List.getElem?_cons_succ, Option.bind_some, fin_rt, fin_nx, Bool.not_true, Bool.not_false, wipeD, nought_fr, one_fr, int_0, int_1, int_2, int_3, int_4, int_8, int_12, len_list, len_tup, len_map, isi_list, isi_tup, isi_str, lt_nn, le_nn, gt_nn, ge_nn, eq_nn, ne_nn, add_nn, whole_n, List.length_map, decide_true, decide_false, leng0, leng1, leng2, leng3, leng4, if_true, if_false, eq_self, Nat.reduceEqDiff, Nat.reduceLT, Nat.reduceLeDiff, h1, h2, h3, h4, h5, h6, h7, h8, h9, h10, h11, h12]
theorem f_paper {m c : Nat} {b : List (List Rat)} {r : Rule} {ds : List Nat} {as : List (Nat × Nat)} {T : List Nat} (h : Bok m b) (hr : Rok b.length r) (hl : Lok b.length m ds as) (hc : c ≤ m) (hT : sureB (bbR b r ds as m) c = some T) :
    F_seen_paper [bookD b, ruleD r, natD c, looksD ds as] = some (paperD (linesP b ds) (askP b as) T) := by
  have n2 := h.n2
  have s1 := f_sure_by (c := c) (bds_of h hr hl.dn as)
  rw [hT] at s1
  obtain ⟨δ', h1, x6, x7, x8, x9, h2⟩ := loop_app (enc := fun p : List Rat × Nat => PyData.tuple [rowD p.1, natsD (readR p.1 p.2)]) (p := pTup [6, 7]) (body := B_seen_paper_1) (fun p => lnsD (lineP p)) (b.zip ds)
    [.val (bookD b), .val (ruleD r), .val (natD c), .val (looksD ds as), .val (natsD T), .own [], .no, .no, .no, .no]
    (fun acc δ => ∃ x6 x7 x8 x9, δ = [.val (bookD b), .val (ruleD r), .val (natD c), .val (looksD ds as), .val (natsD T), .own acc, x6, x7, x8, x9]) ⟨_, _, _, _, rfl⟩ (by
      rintro acc ⟨r', d⟩ δ hal hq ⟨x6, x7, x8, x9, rfl⟩
      rw [zip_len hl.dn] at hal
      exact ⟨_, _, rfl, paper_step (by rw [h.row r' (List.of_mem_zip hq).1]; exact h.m2) (by omega), _, _, _, _, rfl⟩)
  have e0 : ixD (looksD ds as) (natD 0) = some (natsD ds) := ix_0 _ _
  have e2 : ixD (looksD ds as) (natD 1) = some (pairsD as) := ix_1 _ _ _
  have e1 : dZip (fVar 0) (fCall F_read_lines (fCons (fVar 0) (fCons (f2 ixD (fVar 3) (fC (natD 0))) fNil))) [.val (bookD b), .val (ruleD r), .val (natD c), .val (looksD ds as), .val (natsD T), .own [], .no, .no, .no, .no] = some ((b.zip ds).map fun p : List Rat × Nat => PyData.tuple [rowD p.1, natsD (readR p.1 p.2)]) := by
    rw [← zipD_zip rowD (fun p : List Rat × Nat => natsD (readR p.1 p.2)), dZip_ap]
    simp only [sSeq_ap, sIf_ap, bOf_ap, bAnd_ap, bOr_ap, bNot_ap, bYes_ap, fAnd_ap, fOr_ap, fNot_ap, fIf_ap, sPat_ap, pName_ap, pTup_ap, setAll, sSkip_ap, sRet_ap, sOwn_ap, sFrz_ap, frz, frz1, sApp_ap, sIns_ap, sDo_ap, fTup_ap, fLstN_ap, fList_ap, fCall_ap, fCons_ap, fNil_ap, f1_ap, f2_ap, fVar_ap, fC_ap, sFor_ap, List.foldl_cons, List.foldl_nil, List.set_cons_succ, List.set_cons_zero, List.getElem?_cons_zero, List.getElem?_cons_succ, Option.bind_some, fin_rt, fin_nx, Bool.not_true, Bool.not_false, wipeD, nought_fr, one_fr, int_0, int_1, int_2, int_3, int_4, int_8, int_12, len_list, len_tup, len_map, isi_list, isi_tup, isi_str, lt_nn, le_nn, gt_nn, ge_nn, eq_nn, ne_nn, add_nn, whole_n, List.length_map, decide_true, decide_false, leng0, leng1, leng2, leng3, leng4, if_true, if_false, eq_self, Nat.reduceEqDiff, Nat.reduceLT, Nat.reduceLeDiff, e0, f_read h]
    rfl
  have c : fComp (dList (f2 ixD (fVar 3) (fC (natD 1)))) (pTup [9, 8]) bYes (fTup (fCons (fVar 9) (fCons (fVar 8) (fCons (f2 ixD (f2 ixD (fVar 0) (fVar 9)) (fVar 8)) fNil)))) [9, 8] [.val (bookD b), .val (ruleD r), .val (natD c), .val (looksD ds as), .val (natsD T), .val (.list ((b.zip ds).map fun p => lnsD (lineP p))), x6, x7, x8, x9] =
      some (as.map fun p => triD (p.1, p.2, W (b.getD p.1 []) p.2)) := comp_map (enc := pairD) _ as (by simp only [dList_ap, sSeq_ap, sIf_ap, bOf_ap, bAnd_ap, bOr_ap, bNot_ap, bYes_ap, fAnd_ap, fOr_ap, fNot_ap, fIf_ap, sPat_ap, pName_ap, pTup_ap, setAll, sSkip_ap, sRet_ap, sOwn_ap, sFrz_ap, frz, frz1, sApp_ap, sIns_ap, sDo_ap, fTup_ap, fLstN_ap, fList_ap, fCall_ap, fCons_ap, fNil_ap, f1_ap, f2_ap, fVar_ap, fC_ap, sFor_ap, List.foldl_cons, List.foldl_nil, List.set_cons_succ, List.set_cons_zero, List.getElem?_cons_zero, List.getElem?_cons_succ, Option.bind_some, fin_rt, fin_nx, Bool.not_true, Bool.not_false, wipeD, nought_fr, one_fr, int_0, int_1, int_2, int_3, int_4, int_8, int_12, len_list, len_tup, len_map, isi_list, isi_tup, isi_str, lt_nn, le_nn, gt_nn, ge_nn, eq_nn, ne_nn, add_nn, whole_n, List.length_map, decide_true, decide_false, leng0, leng1, leng2, leng3, leng4, if_true, if_false, eq_self, Nat.reduceEqDiff, Nat.reduceLT, Nat.reduceLeDiff, e2]; rfl) (by have := hl.al; omega) fun p hp => ⟨_, rfl, by
        obtain ⟨p1, p2⟩ := hl.an p hp
        have q1 : b[p.1]? = some (b.getD p.1 []) := by
          rw [List.getD_eq_getElem?_getD, List.getElem?_eq_getElem p1]
          rfl
        have q2 : (b.getD p.1 [])[p.2]? = some (W (b.getD p.1 []) p.2) := at_W (by rw [h.row _ (List.mem_of_getElem? q1)]; exact p2)
        simp only [sSeq_ap, sIf_ap, bOf_ap, bAnd_ap, bOr_ap, bNot_ap, bYes_ap, fAnd_ap, fOr_ap, fNot_ap, fIf_ap, sPat_ap, pName_ap, pTup_ap, setAll, sSkip_ap, sRet_ap, sOwn_ap, sFrz_ap, frz, frz1, sApp_ap, sIns_ap, sDo_ap, fTup_ap, fLstN_ap, fList_ap, fCall_ap, fCons_ap, fNil_ap, f1_ap, f2_ap, fVar_ap, fC_ap, sFor_ap, List.foldl_cons, List.foldl_nil, List.set_cons_succ, List.set_cons_zero, List.getElem?_cons_zero, List.getElem?_cons_succ, Option.bind_some, fin_rt, fin_nx, Bool.not_true, Bool.not_false, wipeD, nought_fr, one_fr, int_0, int_1, int_2, int_3, int_4, int_8, int_12, len_list, len_tup, len_map, isi_list, isi_tup, isi_str, lt_nn, le_nn, gt_nn, ge_nn, eq_nn, ne_nn, add_nn, whole_n, List.length_map, decide_true, decide_false, leng0, leng1, leng2, leng3, leng4, if_true, if_false, eq_self, Nat.reduceEqDiff, Nat.reduceLT, Nat.reduceLeDiff, ix_book q1, ix_row q2]
        rfl⟩
  rw [run_paper (f_look_at_book h) (len_book b) (f_look_at_rule hr h.n2) (f_look_at_count h hc) (f_look_at_looks h hl) (f_bounds_of h hr hl.dn) s1 rfl e1 h1 h2 c]
  unfold paperD linesPD linesP askPD askP
  rw [List.map_map, List.map_map]
  rfl
/-! ### its judge -/
theorem f_number {i m : Nat} (h : i < m) : F_is_number_below [natD i, natD m] = some (.bool true) := by
  rw [r_is_number_below]
  simp only [B_is_number_below, sSeq_ap, sIf_ap, bOf_ap, bAnd_ap, bOr_ap, bNot_ap, bYes_ap, fAnd_ap, fOr_ap, fNot_ap, fIf_ap, sPat_ap, pName_ap, pTup_ap, setAll, sSkip_ap, sRet_ap, sOwn_ap, sFrz_ap, frz, frz1, sApp_ap, sIns_ap, sDo_ap, fTup_ap, fLstN_ap, fList_ap, fCall_ap, fCons_ap, fNil_ap, f1_ap, f2_ap, fVar_ap, fC_ap, sFor_ap, List.foldl_cons, List.foldl_nil, List.set_cons_succ, List.set_cons_zero, List.getElem?_cons_zero, List.getElem?_cons_succ, Option.bind_some, fin_rt, fin_nx, Bool.not_true, Bool.not_false, wipeD, nought_fr, one_fr, int_0, int_1, int_2, int_3, int_4, int_8, int_12, len_list, len_tup, len_map, isi_list, isi_tup, isi_str, lt_nn, le_nn, gt_nn, ge_nn, eq_nn, ne_nn, add_nn, whole_n, List.length_map, decide_true, decide_false, leng0, leng1, leng2, leng3, leng4, if_true, if_false, eq_self, Nat.reduceEqDiff, Nat.reduceLT, Nat.reduceLeDiff, decide_eq_true (Nat.zero_le i), decide_eq_true h]
theorem ln_0 (x : Nat × Rat) : ixD (lnD x) (natD 0) = some (natD x.1) := ix_0 _ _
theorem ln_1 (x : Nat × Rat) : ixD (lnD x) (natD 1) = some (frR x.2) := ix_1 _ _ _
theorem f_is_line {x : Nat × Rat} {m : Nat} (h : x.1 < m) (hw : Wo x.2) : F_is_line [lnD x, natD m] = some (.bool true) := by
  have e1 : isiD "tuple" (lnD x) = some (.bool true) := rfl
  have e2 : lenD [lnD x] = some (natD 2) := rfl
  rw [r_is_line]
  simp only [B_is_line, sSeq_ap, sIf_ap, bOf_ap, bAnd_ap, bOr_ap, bNot_ap, bYes_ap, fAnd_ap, fOr_ap, fNot_ap, fIf_ap, sPat_ap, pName_ap, pTup_ap, setAll, sSkip_ap, sRet_ap, sOwn_ap, sFrz_ap, frz, frz1, sApp_ap, sIns_ap, sDo_ap, fTup_ap, fLstN_ap, fList_ap, fCall_ap, fCons_ap, fNil_ap, f1_ap, f2_ap, fVar_ap, fC_ap, sFor_ap, List.foldl_cons, List.foldl_nil, List.set_cons_succ, List.set_cons_zero, List.getElem?_cons_zero, List.getElem?_cons_succ, Option.bind_some, fin_rt, fin_nx, Bool.not_true, Bool.not_false, wipeD, nought_fr, one_fr, int_0, int_1, int_2, int_3, int_4, int_8, int_12, len_list, len_tup, len_map, isi_list, isi_tup, isi_str, lt_nn, le_nn, gt_nn, ge_nn, eq_nn, ne_nn, add_nn, whole_n, List.length_map, decide_true, decide_false, leng0, leng1, leng2, leng3, leng4, if_true, if_false, eq_self, Nat.reduceEqDiff, Nat.reduceLT, Nat.reduceLeDiff, e1, e2, ln_0, ln_1, f_number h, f_isworth hw]
/-- x stands ahead of y -/
def AhdP (x y : Nat × Rat) : Prop := y.2 < x.2 ∨ (y.2 = x.2 ∧ x.1 < y.1)
theorem f_behind {x y : Nat × Rat} (hx : Wo x.2) (hy : Wo y.2) (h : AhdP y x) : F_goes_behind [lnD x, lnD y] = some (.bool true) := by
  rw [r_goes_behind]
  have b1 := f_below hx.sz hy.sz (by decide) (by decide)
  rcases h with h | ⟨h1, h2⟩
  · have d1 : decide (x.2 = y.2) = false := decide_eq_false fun z => Rat.lt_irrefl (a := y.2) (by rw [z] at h; exact h)
    simp only [B_goes_behind, sSeq_ap, sIf_ap, bOf_ap, bAnd_ap, bOr_ap, bNot_ap, bYes_ap, fAnd_ap, fOr_ap, fNot_ap, fIf_ap, sPat_ap, pName_ap, pTup_ap, setAll, sSkip_ap, sRet_ap, sOwn_ap, sFrz_ap, frz, frz1, sApp_ap, sIns_ap, sDo_ap, fTup_ap, fLstN_ap, fList_ap, fCall_ap, fCons_ap, fNil_ap, f1_ap, f2_ap, fVar_ap, fC_ap, sFor_ap, List.foldl_cons, List.foldl_nil, List.set_cons_succ, List.set_cons_zero, List.getElem?_cons_zero, List.getElem?_cons_succ, Option.bind_some, fin_rt, fin_nx, Bool.not_true, Bool.not_false, wipeD, nought_fr, one_fr, int_0, int_1, int_2, int_3, int_4, int_8, int_12, len_list, len_tup, len_map, isi_list, isi_tup, isi_str, lt_nn, le_nn, gt_nn, ge_nn, eq_nn, ne_nn, add_nn, whole_n, List.length_map, decide_true, decide_false, leng0, leng1, leng2, leng3, leng4, if_true, if_false, eq_self, Nat.reduceEqDiff, Nat.reduceLT, Nat.reduceLeDiff, ln_0, ln_1, eq_fr, d1, b1, decide_eq_true h]
  · have d1 : decide (x.2 = y.2) = true := decide_eq_true h1
    simp only [B_goes_behind, sSeq_ap, sIf_ap, bOf_ap, bAnd_ap, bOr_ap, bNot_ap, bYes_ap, fAnd_ap, fOr_ap, fNot_ap, fIf_ap, sPat_ap, pName_ap, pTup_ap, setAll, sSkip_ap, sRet_ap, sOwn_ap, sFrz_ap, frz, frz1, sApp_ap, sIns_ap, sDo_ap, fTup_ap, fLstN_ap, fList_ap, fCall_ap, fCons_ap, fNil_ap, f1_ap, f2_ap, fVar_ap, fC_ap, sFor_ap, List.foldl_cons, List.foldl_nil, List.set_cons_succ, List.set_cons_zero, List.getElem?_cons_zero, List.getElem?_cons_succ, Option.bind_some, fin_rt, fin_nx, Bool.not_true, Bool.not_false, wipeD, nought_fr, one_fr, int_0, int_1, int_2, int_3, int_4, int_8, int_12, len_list, len_tup, len_map, isi_list, isi_tup, isi_str, lt_nn, le_nn, gt_nn, ge_nn, eq_nn, ne_nn, add_nn, whole_n, List.length_map, decide_true, decide_false, leng0, leng1, leng2, leng3, leng4, if_true, if_false, eq_self, Nat.reduceEqDiff, Nat.reduceLT, Nat.reduceLeDiff, ln_0, ln_1, eq_fr, d1, decide_eq_true h2]
/-- lines that a paper may hold -/
structure LnOk (m : Nat) (l : List (Nat × Rat)) : Prop where
  len : l.length ≤ 12
  lt : ∀ x ∈ l, x.1 < m ∧ Wo x.2
  ord : l.Pairwise AhdP
  dup : (l.map (·.1)).Nodup
  zero : ∀ x, l.getLast? = some x → x.2 = 0 → ∀ i, i < x.1 → i ∈ l.map (·.1)
theorem set_len {ns : List Nat} (h : ns.Nodup) (hl : ns.length ≤ 100) : setLenD (natsD ns) = some (natD ns.length) := by
  show (ints? (ns.map natD)).bind _ = _
  have hn : (ns.map fun n : Nat => (n : Int)).Nodup := by
    rw [List.nodup_iff_pairwise_ne, List.pairwise_map]
    exact (List.nodup_iff_pairwise_ne.mp h).imp fun h => by omega
  rw [ints_nats, Option.bind_some, if_pos ⟨hn, by rw [List.length_map]; omega⟩, List.length_map]
  rfl
theorem run_lines {S m : PyData} {n : Nat} {os ts rs : List PyData} {δ' : DEnv} {x3 : DV} (h0 : isiD "list" S = some (.bool true)) (hn : lenD [S] = some (natD n))
    (h1 : fComp (dVar 0) (pName 4) bYes (fCall F_is_line (fCons (fVar 4) (fCons (fVar 1) fNil))) [4] [.val S, .val m, .no, .no, .no, .no] = some os) (h2 : allD [.list os] = some (.bool true))
    (h3 : fComp (dVar 0) (pName 4) bYes (f2 ixD (fVar 4) (fC (natD 0))) [4] [.val S, .val m, .no, .no, .no, .no] = some ts) (h4 : setLenD (.list ts) = some (natD ts.length))
    (h5 : dRange2 (fC (natD 1)) (fCall lenD (fCons (fVar 0) fNil)) [.val S, .val m, .val (.list ts), .no, .no, .no] = some rs) (h6 : forD (pName 3) B_are_lines_1 rs [.val S, .val m, .val (.list ts), .no, .no, .no] = some (.nx δ')) (h7 : δ' = [.val S, .val m, .val (.list ts), x3, .no, .no])
    (h8 : n = 0 ∨ (0 < n ∧ ∃ x, ixD S (.int (-1)) = some (lnD x) ∧ (x.2 ≠ 0 ∨ (x.2 = 0 ∧ ∃ us, fComp (dRange1 (f2 ixD (f2 ixD (fVar 0) (f1 negD (fC (natD 1)))) (fC (natD 0)))) (pName 5) bYes (f2 inD (fVar 5) (fVar 2)) [5] [.val S, .val m, .val (.list ts), x3, .no, .no] = some us ∧ allD [.list us] = some (.bool true))))) :
    F_are_lines [S, m] = some (.bool true) := by
  rw [r_are_lines]
  rcases h8 with rfl | ⟨hpos, x, h8, hz⟩
  · simp only [B_are_lines, sSeq_ap, sIf_ap, bOf_ap, bAnd_ap, bOr_ap, bNot_ap, bYes_ap, fAnd_ap, fOr_ap, fNot_ap, fIf_ap, sPat_ap, pName_ap, pTup_ap, setAll, sSkip_ap, sRet_ap, sOwn_ap, sFrz_ap, frz, frz1, sApp_ap, sIns_ap, sDo_ap, fTup_ap, fLstN_ap, fList_ap, fCall_ap, fCons_ap, fNil_ap, f1_ap, f2_ap, fVar_ap, fC_ap, sFor_ap, List.foldl_cons, List.foldl_nil, List.set_cons_succ, List.set_cons_zero, List.getElem?_cons_zero, List.getElem?_cons_succ, Option.bind_some, fin_rt, fin_nx, Bool.not_true, Bool.not_false, wipeD, nought_fr, one_fr, int_0, int_1, int_2, int_3, int_4, int_8, int_12, len_list, len_tup, len_map, isi_list, isi_tup, isi_str, lt_nn, le_nn, gt_nn, ge_nn, eq_nn, ne_nn, add_nn, whole_n, List.length_map, decide_true, decide_false, leng0, leng1, leng2, leng3, leng4, if_true, if_false, eq_self, Nat.reduceEqDiff, Nat.reduceLT, Nat.reduceLeDiff, h0, hn, h1, h2, h3, h4, h5, h6, h7]
  · have d0 : decide (0 < n) = true := decide_eq_true hpos
    rcases hz with hz | ⟨hz, us, h9, h10⟩
    · have d1 : decide (x.2 = 0) = false := decide_eq_false hz
      simp only [B_are_lines, sSeq_ap, sIf_ap, bOf_ap, bAnd_ap, bOr_ap, bNot_ap, bYes_ap, fAnd_ap, fOr_ap, fNot_ap, fIf_ap, sPat_ap, pName_ap, pTup_ap, setAll, sSkip_ap, sRet_ap, sOwn_ap, sFrz_ap, frz, frz1, sApp_ap, sIns_ap, sDo_ap, fTup_ap, fLstN_ap, fList_ap, fCall_ap, fCons_ap, fNil_ap, f1_ap, f2_ap, fVar_ap, fC_ap, sFor_ap, List.foldl_cons, List.foldl_nil, List.set_cons_succ, List.set_cons_zero, List.getElem?_cons_zero, List.getElem?_cons_succ, Option.bind_some, fin_rt, fin_nx, Bool.not_true, Bool.not_false, wipeD, nought_fr, one_fr, int_0, int_1, int_2, int_3, int_4, int_8, int_12, len_list, len_tup, len_map, isi_list, isi_tup, isi_str, lt_nn, le_nn, gt_nn, ge_nn, eq_nn, ne_nn, add_nn, whole_n, List.length_map, decide_true, decide_false, leng0, leng1, leng2, leng3, leng4, if_true, if_false, eq_self, Nat.reduceEqDiff, Nat.reduceLT, Nat.reduceLeDiff, h0, hn, h1, h2, h3, h4, h5, h6, h7, d0, neg_1, h8, ln_1, eq_fr, d1]
    · have d1 : decide (x.2 = 0) = true := decide_eq_true hz
      simp only [B_are_lines, sSeq_ap, sIf_ap, bOf_ap, bAnd_ap, bOr_ap, bNot_ap, bYes_ap, fAnd_ap, fOr_ap, fNot_ap, fIf_ap, sPat_ap, pName_ap, pTup_ap, setAll, sSkip_ap, sRet_ap, sOwn_ap, sFrz_ap, frz, frz1, sApp_ap, sIns_ap, sDo_ap, fTup_ap, fLstN_ap, fList_ap, fCall_ap, fCons_ap, fNil_ap, f1_ap, f2_ap, fVar_ap, fC_ap, sFor_ap, List.foldl_cons, List.foldl_nil, List.set_cons_succ, List.set_cons_zero, List.getElem?_cons_zero, List.getElem?_cons_succ, Option.bind_some, fin_rt, fin_nx, Bool.not_true, Bool.not_false, wipeD, nought_fr, one_fr, int_0, int_1, int_2, int_3, int_4, int_8, int_12, len_list, len_tup, len_map, isi_list, isi_tup, isi_str, lt_nn, le_nn, gt_nn, ge_nn, eq_nn, ne_nn, add_nn, whole_n, List.length_map, decide_true, decide_false, leng0, leng1, leng2, leng3, leng4, if_true, if_false, eq_self, Nat.reduceEqDiff, Nat.reduceLT, Nat.reduceLeDiff, h0, hn, h1, h2, h3, h4, h5, h6, h7, d0, neg_1, h8, ln_1, eq_fr, d1, h9, h10]
theorem line_step {m : Nat} {l : List (Nat × Rat)} (h : LnOk m l) {k : Nat} {a1 a2 x4 x5 : DV} (hk : 1 + k < l.length) : B_are_lines_1 [.val (lnsD l), a1, a2, .val (natD (1 + k)), x4, x5] = some (.nx [.val (lnsD l), a1, a2, .val (natD (1 + k)), x4, x5]) := by
  have q1 : l[1 + k]? = some l[1 + k] := List.getElem?_eq_getElem hk
  have hk2 : k < l.length := by omega
  have q2 : l[k]? = some l[k] := List.getElem?_eq_getElem hk2
  have e1 : ixD (lnsD l) (natD (1 + k)) = some (lnD l[1 + k]) := ix_map q1
  have e2 : ixD (lnsD l) (natD k) = some (lnD l[k]) := ix_map q2
  have e3 : subD (natD (1 + k)) (natD 1) = some (natD k) := by
    rw [sub_nn (by omega)]
    congr 2
    omega
  have e4 := f_behind (h.lt _ (List.getElem_mem hk)).2 (h.lt _ (List.getElem_mem hk2)).2 (List.pairwise_iff_getElem.mp h.ord k (1 + k) hk2 hk (by omega))
  simp only [B_are_lines_1, sSeq_ap, sIf_ap, bOf_ap, bAnd_ap, bOr_ap, bNot_ap, bYes_ap, fAnd_ap, fOr_ap, fNot_ap, fIf_ap, sPat_ap, pName_ap, pTup_ap, setAll, sSkip_ap, sRet_ap, sOwn_ap, sFrz_ap, frz, frz1, sApp_ap, sIns_ap, sDo_ap, fTup_ap, fLstN_ap, fList_ap, fCall_ap, fCons_ap, fNil_ap, f1_ap, f2_ap, fVar_ap, fC_ap, sFor_ap, List.foldl_cons, List.foldl_nil, List.set_cons_succ, List.set_cons_zero, List.getElem?_cons_zero, List.getElem?_cons_succ, Option.bind_some, fin_rt, fin_nx, Bool.not_true, Bool.not_false, wipeD, nought_fr, one_fr, int_0, int_1, int_2, int_3, int_4, int_8, int_12, len_list, len_tup, len_map, isi_list, isi_tup, isi_str, lt_nn, le_nn, gt_nn, ge_nn, eq_nn, ne_nn, add_nn, whole_n, List.length_map, decide_true, decide_false, leng0, leng1, leng2, leng3, leng4, if_true, if_false, eq_self, Nat.reduceEqDiff, Nat.reduceLT, Nat.reduceLeDiff, e1, e2, e3, e4]
theorem f_lines {m : Nat} {l : List (Nat × Rat)} (h : LnOk m l) (hm : m ≤ 12) : F_are_lines [lnsD l, natD m] = some (.bool true) := by
  have hl := h.len
  have c1 : fComp (dVar 0) (pName 4) bYes (fCall F_is_line (fCons (fVar 4) (fCons (fVar 1) fNil))) [4] [.val (lnsD l), .val (natD m), .no, .no, .no, .no] = some (l.map fun _ => PyData.bool true) :=
    comp_map (enc := lnD) _ l rfl (by omega) fun x hx => ⟨_, rfl, by simp only [sSeq_ap, sIf_ap, bOf_ap, bAnd_ap, bOr_ap, bNot_ap, bYes_ap, fAnd_ap, fOr_ap, fNot_ap, fIf_ap, sPat_ap, pName_ap, pTup_ap, setAll, sSkip_ap, sRet_ap, sOwn_ap, sFrz_ap, frz, frz1, sApp_ap, sIns_ap, sDo_ap, fTup_ap, fLstN_ap, fList_ap, fCall_ap, fCons_ap, fNil_ap, f1_ap, f2_ap, fVar_ap, fC_ap, sFor_ap, List.foldl_cons, List.foldl_nil, List.set_cons_succ, List.set_cons_zero, List.getElem?_cons_zero, List.getElem?_cons_succ, Option.bind_some, fin_rt, fin_nx, Bool.not_true, Bool.not_false, wipeD, nought_fr, one_fr, int_0, int_1, int_2, int_3, int_4, int_8, int_12, len_list, len_tup, len_map, isi_list, isi_tup, isi_str, lt_nn, le_nn, gt_nn, ge_nn, eq_nn, ne_nn, add_nn, whole_n, List.length_map, decide_true, decide_false, leng0, leng1, leng2, leng3, leng4, if_true, if_false, eq_self, Nat.reduceEqDiff, Nat.reduceLT, Nat.reduceLeDiff, f_is_line (h.lt x hx).1 (h.lt x hx).2]⟩
  have c2 : fComp (dVar 0) (pName 4) bYes (f2 ixD (fVar 4) (fC (natD 0))) [4] [.val (lnsD l), .val (natD m), .no, .no, .no, .no] = some (l.map fun x => natD x.1) :=
    comp_map (enc := lnD) _ l rfl (by omega) fun x hx => ⟨_, rfl, by simp only [sSeq_ap, sIf_ap, bOf_ap, bAnd_ap, bOr_ap, bNot_ap, bYes_ap, fAnd_ap, fOr_ap, fNot_ap, fIf_ap, sPat_ap, pName_ap, pTup_ap, setAll, sSkip_ap, sRet_ap, sOwn_ap, sFrz_ap, frz, frz1, sApp_ap, sIns_ap, sDo_ap, fTup_ap, fLstN_ap, fList_ap, fCall_ap, fCons_ap, fNil_ap, f1_ap, f2_ap, fVar_ap, fC_ap, sFor_ap, List.foldl_cons, List.foldl_nil, List.set_cons_succ, List.set_cons_zero, List.getElem?_cons_zero, List.getElem?_cons_succ, Option.bind_some, fin_rt, fin_nx, Bool.not_true, Bool.not_false, wipeD, nought_fr, one_fr, int_0, int_1, int_2, int_3, int_4, int_8, int_12, len_list, len_tup, len_map, isi_list, isi_tup, isi_str, lt_nn, le_nn, gt_nn, ge_nn, eq_nn, ne_nn, add_nn, whole_n, List.length_map, decide_true, decide_false, leng0, leng1, leng2, leng3, leng4, if_true, if_false, eq_self, Nat.reduceEqDiff, Nat.reduceLT, Nat.reduceLeDiff, ln_0]⟩
  have e0 : PyData.list (l.map fun x => natD x.1) = natsD (l.map (·.1)) := by
    unfold natsD
    rw [List.map_map]
    rfl
  obtain ⟨δ', h1, x3, h2⟩ := for_inv (enc := fun k => natD (1 + k)) (p := pName 3) (body := B_are_lines_1) (xs := List.range (l.length - 1)) (δ := [.val (lnsD l), .val (natD m), .val (.list (l.map fun x => natD x.1)), .no, .no, .no])
    (fun pr δ => ∃ x3, δ = [.val (lnsD l), .val (natD m), .val (.list (l.map fun x => natD x.1)), x3, .no, .no]) ⟨_, rfl⟩ (by
      rintro pr k po δ e ⟨x3, rfl⟩
      have hk : k < l.length - 1 := List.mem_range.mp (by rw [e]; exact List.mem_append_right _ List.mem_cons_self)
      exact ⟨_, _, rfl, line_step h (by omega), _, rfl⟩)
  have hle : lenD [lnsD l] = some (natD l.length) := len_map _ _
  refine run_lines (n := l.length) rfl hle c1 (all_map l) c2 ?_ (dRange2_ap _ _ _ (m := 1) (n := l.length) rfl (by simp only [sSeq_ap, sIf_ap, bOf_ap, bAnd_ap, bOr_ap, bNot_ap, bYes_ap, fAnd_ap, fOr_ap, fNot_ap, fIf_ap, sPat_ap, pName_ap, pTup_ap, setAll, sSkip_ap, sRet_ap, sOwn_ap, sFrz_ap, frz, frz1, sApp_ap, sIns_ap, sDo_ap, fTup_ap, fLstN_ap, fList_ap, fCall_ap, fCons_ap, fNil_ap, f1_ap, f2_ap, fVar_ap, fC_ap, sFor_ap, List.foldl_cons, List.foldl_nil, List.set_cons_succ, List.set_cons_zero, List.getElem?_cons_zero, List.getElem?_cons_succ, Option.bind_some, fin_rt, fin_nx, Bool.not_true, Bool.not_false, wipeD, nought_fr, one_fr, int_0, int_1, int_2, int_3, int_4, int_8, int_12, len_list, len_tup, len_map, isi_list, isi_tup, isi_str, lt_nn, le_nn, gt_nn, ge_nn, eq_nn, ne_nn, add_nn, whole_n, List.length_map, decide_true, decide_false, leng0, leng1, leng2, leng3, leng4, if_true, if_false, eq_self, Nat.reduceEqDiff, Nat.reduceLT, Nat.reduceLeDiff, hle]) (by decide) (by omega)) h1 h2 ?_
  · rw [e0, set_len h.dup (by rw [List.length_map]; omega), List.length_map, List.length_map]
  · cases q : l.getLast? with
    | none =>
      rw [List.getLast?_eq_none_iff] at q
      exact .inl (by rw [q]; rfl)
    | some x =>
      have hx := List.mem_of_getLast? q
      refine .inr ⟨List.length_pos_of_mem hx, x, ix_lastm q, ?_⟩
      by_cases z : x.2 = 0
      · refine .inr ⟨z, (List.range x.1).map fun _ => .bool true, ?_, all_map _⟩
        have e1 : ixD (lnsD l) (.int (-1)) = some (lnD x) := ix_lastm q
        have hx1 := (h.lt x hx).1
        refine comp_map (enc := natD) _ (List.range x.1) (dRange_ap _ _ (by simp only [sSeq_ap, sIf_ap, bOf_ap, bAnd_ap, bOr_ap, bNot_ap, bYes_ap, fAnd_ap, fOr_ap, fNot_ap, fIf_ap, sPat_ap, pName_ap, pTup_ap, setAll, sSkip_ap, sRet_ap, sOwn_ap, sFrz_ap, frz, frz1, sApp_ap, sIns_ap, sDo_ap, fTup_ap, fLstN_ap, fList_ap, fCall_ap, fCons_ap, fNil_ap, f1_ap, f2_ap, fVar_ap, fC_ap, sFor_ap, List.foldl_cons, List.foldl_nil, List.set_cons_succ, List.set_cons_zero, List.getElem?_cons_zero, List.getElem?_cons_succ, Option.bind_some, fin_rt, fin_nx, Bool.not_true, Bool.not_false, wipeD, nought_fr, one_fr, int_0, int_1, int_2, int_3, int_4, int_8, int_12, len_list, len_tup, len_map, isi_list, isi_tup, isi_str, lt_nn, le_nn, gt_nn, ge_nn, eq_nn, ne_nn, add_nn, whole_n, List.length_map, decide_true, decide_false, leng0, leng1, leng2, leng3, leng4, if_true, if_false, eq_self, Nat.reduceEqDiff, Nat.reduceLT, Nat.reduceLeDiff, neg_1, e1, ln_0]) (by omega)) (by rw [List.length_range]; omega) fun i hi => ⟨_, rfl, ?_⟩
        have q2 := h.zero x q z i (List.mem_range.mp hi)
        have q3 : inD (natD i) (natsD (l.map (·.1))) = some (.bool true) := (in_n _ _).trans (by rw [decide_eq_true q2])
        simp only [sSeq_ap, sIf_ap, bOf_ap, bAnd_ap, bOr_ap, bNot_ap, bYes_ap, fAnd_ap, fOr_ap, fNot_ap, fIf_ap, sPat_ap, pName_ap, pTup_ap, setAll, sSkip_ap, sRet_ap, sOwn_ap, sFrz_ap, frz, frz1, sApp_ap, sIns_ap, sDo_ap, fTup_ap, fLstN_ap, fList_ap, fCall_ap, fCons_ap, fNil_ap, f1_ap, f2_ap, fVar_ap, fC_ap, sFor_ap, List.foldl_cons, List.foldl_nil, List.set_cons_succ, List.set_cons_zero, List.getElem?_cons_zero, List.getElem?_cons_succ, Option.bind_some, fin_rt, fin_nx, Bool.not_true, Bool.not_false, wipeD, nought_fr, one_fr, int_0, int_1, int_2, int_3, int_4, int_8, int_12, len_list, len_tup, len_map, isi_list, isi_tup, isi_str, lt_nn, le_nn, gt_nn, ge_nn, eq_nn, ne_nn, add_nn, whole_n, List.length_map, decide_true, decide_false, leng0, leng1, leng2, leng3, leng4, if_true, if_false, eq_self, Nat.reduceEqDiff, Nat.reduceLT, Nat.reduceLeDiff, e0, q3]
      · exact .inl z
theorem run_let {S t w : PyData} {ds : List PyData} (e : dList (fVar 0) [.val S, .val t, .val w, .no, .no] = some ds) (h : forD (pTup [3, 4]) B_is_let_1 ds [.val S, .val t, .val w, .no, .no] = some (.rt (.bool true)) ∨
    ∃ δ' x3 x4, forD (pTup [3, 4]) B_is_let_1 ds [.val S, .val t, .val w, .no, .no] = some (.nx δ') ∧ δ' = [.val S, .val t, .val w, x3, x4] ∧ ∃ n, lenD [S] = some (natD n) ∧ (n = 0 ∨ ∃ x, ixD S (.int (-1)) = some x ∧ F_goes_behind [.tuple [t, w], x] = some (.bool true))) :
    F_is_let [S, t, w] = some (.bool true) := by
  rw [r_is_let]
  rcases h with h | ⟨δ', x3, x4, h1, h2, n, h3, h4⟩
  · simp only [B_is_let, sSeq_ap, sIf_ap, bOf_ap, bAnd_ap, bOr_ap, bNot_ap, bYes_ap, fAnd_ap, fOr_ap, fNot_ap, fIf_ap, sPat_ap, pName_ap, pTup_ap, setAll, sSkip_ap, sRet_ap, sOwn_ap, sFrz_ap, frz, frz1, sApp_ap, sIns_ap, sDo_ap, fTup_ap, fLstN_ap, fList_ap, fCall_ap, fCons_ap, fNil_ap, f1_ap, f2_ap, fVar_ap, fC_ap, sFor_ap, List.foldl_cons, List.foldl_nil, List.set_cons_succ, List.set_cons_zero, List.getElem?_cons_zero, List.getElem?_cons_succ, Option.bind_some, fin_rt, fin_nx, Bool.not_true, Bool.not_false, wipeD, nought_fr, one_fr, int_0, int_1, int_2, int_3, int_4, int_8, int_12, len_list, len_tup, len_map, isi_list, isi_tup, isi_str, lt_nn, le_nn, gt_nn, ge_nn, eq_nn, ne_nn, add_nn, whole_n, List.length_map, decide_true, decide_false, leng0, leng1, leng2, leng3, leng4, if_true, if_false, eq_self, Nat.reduceEqDiff, Nat.reduceLT, Nat.reduceLeDiff, e, h]
  · cases d : decide (n = 0) with
    | true => simp only [B_is_let, sSeq_ap, sIf_ap, bOf_ap, bAnd_ap, bOr_ap, bNot_ap, bYes_ap, fAnd_ap, fOr_ap, fNot_ap, fIf_ap, sPat_ap, pName_ap, pTup_ap, setAll, sSkip_ap, sRet_ap, sOwn_ap, sFrz_ap, frz, frz1, sApp_ap, sIns_ap, sDo_ap, fTup_ap, fLstN_ap, fList_ap, fCall_ap, fCons_ap, fNil_ap, f1_ap, f2_ap, fVar_ap, fC_ap, sFor_ap, List.foldl_cons, List.foldl_nil, List.set_cons_succ, List.set_cons_zero, List.getElem?_cons_zero, List.getElem?_cons_succ, Option.bind_some, fin_rt, fin_nx, Bool.not_true, Bool.not_false, wipeD, nought_fr, one_fr, int_0, int_1, int_2, int_3, int_4, int_8, int_12, len_list, len_tup, len_map, isi_list, isi_tup, isi_str, lt_nn, le_nn, gt_nn, ge_nn, eq_nn, ne_nn, add_nn, whole_n, List.length_map, decide_true, decide_false, leng0, leng1, leng2, leng3, leng4, if_true, if_false, eq_self, Nat.reduceEqDiff, Nat.reduceLT, Nat.reduceLeDiff, e, h1, h2, h3, d]
    | false =>
      rcases h4 with h4 | ⟨x, h4, h5⟩
      · exact absurd h4 (of_decide_eq_false d)
      · simp only [B_is_let, sSeq_ap, sIf_ap, bOf_ap, bAnd_ap, bOr_ap, bNot_ap, bYes_ap, fAnd_ap, fOr_ap, fNot_ap, fIf_ap, sPat_ap, pName_ap, pTup_ap, setAll, sSkip_ap, sRet_ap, sOwn_ap, sFrz_ap, frz, frz1, sApp_ap, sIns_ap, sDo_ap, fTup_ap, fLstN_ap, fList_ap, fCall_ap, fCons_ap, fNil_ap, f1_ap, f2_ap, fVar_ap, fC_ap, sFor_ap, List.foldl_cons, List.foldl_nil, List.set_cons_succ, List.set_cons_zero, List.getElem?_cons_zero, List.getElem?_cons_succ, Option.bind_some, fin_rt, fin_nx, Bool.not_true, Bool.not_false, wipeD, nought_fr, one_fr, int_0, int_1, int_2, int_3, int_4, int_8, int_12, len_list, len_tup, len_map, isi_list, isi_tup, isi_str, lt_nn, le_nn, gt_nn, ge_nn, eq_nn, ne_nn, add_nn, whole_n, List.length_map, decide_true, decide_false, leng0, leng1, leng2, leng3, leng4, if_true, if_false, eq_self, Nat.reduceEqDiff, Nat.reduceLT, Nat.reduceLeDiff, e, h1, h2, h3, d, neg_1, h4, h5]
theorem f_let {l : List (Nat × Rat)} {t : Nat} {w : Rat} (hw : Wo w) (hl : ∀ x ∈ l, Wo x.2) (h1 : ∀ x ∈ l, x.1 = t → x.2 = w) (h2 : ∀ x ∈ l, x.1 ≠ t → t ∉ l.map (·.1) → AhdP x (t, w)) : F_is_let [lnsD l, natD t, frR w] = some (.bool true) := by
  obtain ⟨k1, k2⟩ := for_all (enc := lnD) (p := pTup [3, 4]) (body := B_is_let_1) (fun δ => ∃ x3 x4, δ = [.val (lnsD l), .val (natD t), .val (frR w), x3, x4]) (.bool true) (fun x => !decide (x.1 = t)) l [.val (lnsD l), .val (natD t), .val (frR w), .no, .no] ⟨_, _, rfl⟩ (by
    rintro x δ hx ⟨x3, x4, rfl⟩
    refine ⟨[.val (lnsD l), .val (natD t), .val (frR w), .val (natD x.1), .val (frR x.2)], rfl, fun q => ?_, fun q => ?_⟩
    · have d : decide (x.1 = t) = false := by
        cases z : decide (x.1 = t) with
        | false => rfl
        | true => rw [z] at q; cases q
      exact ⟨[.val (lnsD l), .val (natD t), .val (frR w), .val (natD x.1), .val (frR x.2)], by simp only [B_is_let_1, sSeq_ap, sIf_ap, bOf_ap, bAnd_ap, bOr_ap, bNot_ap, bYes_ap, fAnd_ap, fOr_ap, fNot_ap, fIf_ap, sPat_ap, pName_ap, pTup_ap, setAll, sSkip_ap, sRet_ap, sOwn_ap, sFrz_ap, frz, frz1, sApp_ap, sIns_ap, sDo_ap, fTup_ap, fLstN_ap, fList_ap, fCall_ap, fCons_ap, fNil_ap, f1_ap, f2_ap, fVar_ap, fC_ap, sFor_ap, List.foldl_cons, List.foldl_nil, List.set_cons_succ, List.set_cons_zero, List.getElem?_cons_zero, List.getElem?_cons_succ, Option.bind_some, fin_rt, fin_nx, Bool.not_true, Bool.not_false, wipeD, nought_fr, one_fr, int_0, int_1, int_2, int_3, int_4, int_8, int_12, len_list, len_tup, len_map, isi_list, isi_tup, isi_str, lt_nn, le_nn, gt_nn, ge_nn, eq_nn, ne_nn, add_nn, whole_n, List.length_map, decide_true, decide_false, leng0, leng1, leng2, leng3, leng4, if_true, if_false, eq_self, Nat.reduceEqDiff, Nat.reduceLT, Nat.reduceLeDiff, d], _, _, rfl⟩
    · have d : decide (x.1 = t) = true := by
        cases z : decide (x.1 = t) with
        | true => rfl
        | false => rw [z] at q; cases q
      have e := h1 x hx (of_decide_eq_true d)
      simp only [B_is_let_1, sSeq_ap, sIf_ap, bOf_ap, bAnd_ap, bOr_ap, bNot_ap, bYes_ap, fAnd_ap, fOr_ap, fNot_ap, fIf_ap, sPat_ap, pName_ap, pTup_ap, setAll, sSkip_ap, sRet_ap, sOwn_ap, sFrz_ap, frz, frz1, sApp_ap, sIns_ap, sDo_ap, fTup_ap, fLstN_ap, fList_ap, fCall_ap, fCons_ap, fNil_ap, f1_ap, f2_ap, fVar_ap, fC_ap, sFor_ap, List.foldl_cons, List.foldl_nil, List.set_cons_succ, List.set_cons_zero, List.getElem?_cons_zero, List.getElem?_cons_succ, Option.bind_some, fin_rt, fin_nx, Bool.not_true, Bool.not_false, wipeD, nought_fr, one_fr, int_0, int_1, int_2, int_3, int_4, int_8, int_12, len_list, len_tup, len_map, isi_list, isi_tup, isi_str, lt_nn, le_nn, gt_nn, ge_nn, eq_nn, ne_nn, add_nn, whole_n, List.length_map, decide_true, decide_false, leng0, leng1, leng2, leng3, leng4, if_true, if_false, eq_self, Nat.reduceEqDiff, Nat.reduceLT, Nat.reduceLeDiff, d, eq_fr, decide_eq_true e])
  refine run_let (ds := l.map lnD) rfl ?_
  cases q : l.all fun x => !decide (x.1 = t) with
  | false => exact .inl (k2 q)
  | true =>
    obtain ⟨δ', h3, x3, x4, h4⟩ := k1 q
    refine .inr ⟨δ', x3, x4, h3, h4, l.length, len_map _ _, ?_⟩
    have none : ∀ x ∈ l, x.1 ≠ t := fun x hx => by
      have := List.all_eq_true.mp q x hx
      simpa using this
    cases q2 : l.getLast? with
    | none =>
      rw [List.getLast?_eq_none_iff] at q2
      exact .inl (by rw [q2]; rfl)
    | some x =>
      have hx := List.mem_of_getLast? q2
      exact .inr ⟨lnD x, ix_lastm q2, f_behind (x := (t, w)) hw (hl x hx) (h2 x hx (none x hx) fun z => by
        obtain ⟨y, hy, e⟩ := List.mem_map.mp z
        exact none y hy e)⟩
end DL

set_option Elab.async false
set_option linter.all false
set_option maxRecDepth 100000
set_option maxHeartbeats 4000000
set_option exponentiation.threshold 3000
/-! Eq7: the judge. -/
namespace DL
open PySem
theorem tri_0 (x : Nat × Nat × Rat) : ixD (triD x) (natD 0) = some (natD x.1) := ix_0 _ _
theorem tri_1 (x : Nat × Nat × Rat) : ixD (triD x) (natD 1) = some (natD x.2.1) := ix_1 _ _ _
theorem tri_2 (x : Nat × Nat × Rat) : ixD (triD x) (natD 2) = some (frR x.2.2) := ix_2 _ _ _ _
theorem tri_to (x : Nat × Nat × Rat) : toD (triD x) (natD 2) = some (pairD (x.1, x.2.1)) := rfl
def lastA (A : List (Nat × Nat × Rat)) : PyData := lastQ (A.getLast?.map fun x => (x.1, x.2.1))
theorem ask_step {m : Nat} {L : List (List (Nat × Rat))} {a0 : DV} {q : Option (Nat × Nat)} {x : Nat × Nat × Rat} {l : List (Nat × Rat)} (h1 : L[x.1]? = some l) (h2 : x.2.1 < m) (hw : Wo x.2.2) (hlet : F_is_let [lnsD l, natD x.2.1, frR x.2.2] = some (.bool true)) (hq : ∀ r, q = some r → lexlt r (x.1, x.2.1)) :
    B_are_asked_1 [a0, .val (linesPD L), .val (natD m), .val (lastQ q), .val (triD x)] = some (.nx [a0, .val (linesPD L), .val (natD m), .val (pairD (x.1, x.2.1)), .val (triD x)]) := by
  have e1 : isiD "tuple" (triD x) = some (.bool true) := rfl
  have e2 : lenD [triD x] = some (natD 3) := rfl
  have e3 : lenD [linesPD L] = some (natD L.length) := len_map _ _
  have e4 : ixD (linesPD L) (natD x.1) = some (lnsD l) := ix_map h1
  have hk : x.1 < L.length := (List.getElem?_eq_some_iff.mp h1).1
  cases q with
  | none => simp only [B_are_asked_1, sSeq_ap, sIf_ap, bOf_ap, bAnd_ap, bOr_ap, bNot_ap, bYes_ap, fAnd_ap, fOr_ap, fNot_ap, fIf_ap, sPat_ap, pName_ap, pTup_ap, setAll, sSkip_ap, sRet_ap, sOwn_ap, sFrz_ap, frz, frz1, sApp_ap, sIns_ap, sDo_ap, fTup_ap, fLstN_ap, fList_ap, fCall_ap, fCons_ap, fNil_ap, f1_ap, f2_ap, fVar_ap, fC_ap, sFor_ap, List.foldl_cons, List.foldl_nil, List.set_cons_succ, List.set_cons_zero, List.getElem?_cons_zero, List.getElem?_cons_succ, Option.bind_some, fin_rt, fin_nx, Bool.not_true, Bool.not_false, wipeD, nought_fr, one_fr, int_0, int_1, int_2, int_3, int_4, int_8, int_12, len_list, len_tup, len_map, isi_list, isi_tup, isi_str, lt_nn, le_nn, gt_nn, ge_nn, eq_nn, ne_nn, add_nn, whole_n, List.length_map, decide_true, decide_false, leng0, leng1, leng2, leng3, leng4, if_true, if_false, eq_self, Nat.reduceEqDiff, Nat.reduceLT, Nat.reduceLeDiff, e1, e2, e3, e4, tri_0, tri_1, tri_2, tri_to, f_isworth hw, f_number hk, f_number h2, lastQ, nn_none, hlet]
  | some r => simp only [B_are_asked_1, sSeq_ap, sIf_ap, bOf_ap, bAnd_ap, bOr_ap, bNot_ap, bYes_ap, fAnd_ap, fOr_ap, fNot_ap, fIf_ap, sPat_ap, pName_ap, pTup_ap, setAll, sSkip_ap, sRet_ap, sOwn_ap, sFrz_ap, frz, frz1, sApp_ap, sIns_ap, sDo_ap, fTup_ap, fLstN_ap, fList_ap, fCall_ap, fCons_ap, fNil_ap, f1_ap, f2_ap, fVar_ap, fC_ap, sFor_ap, List.foldl_cons, List.foldl_nil, List.set_cons_succ, List.set_cons_zero, List.getElem?_cons_zero, List.getElem?_cons_succ, Option.bind_some, fin_rt, fin_nx, Bool.not_true, Bool.not_false, wipeD, nought_fr, one_fr, int_0, int_1, int_2, int_3, int_4, int_8, int_12, len_list, len_tup, len_map, isi_list, isi_tup, isi_str, lt_nn, le_nn, gt_nn, ge_nn, eq_nn, ne_nn, add_nn, whole_n, List.length_map, decide_true, decide_false, leng0, leng1, leng2, leng3, leng4, if_true, if_false, eq_self, Nat.reduceEqDiff, Nat.reduceLT, Nat.reduceLeDiff, e1, e2, e3, e4, tri_0, tri_1, tri_2, tri_to, f_isworth hw, f_number hk, f_number h2, lastQ, nn_pair, le_pair (hq r rfl), hlet]
/-- asked worths that a paper may hold -/
structure AkOk (m : Nat) (L : List (List (Nat × Rat))) (A : List (Nat × Nat × Rat)) : Prop where
  al : A.length ≤ 100
  ar : A.Pairwise fun x y => lexlt (x.1, x.2.1) (y.1, y.2.1)
  ok : ∀ x ∈ A, ∃ l, L[x.1]? = some l ∧ x.2.1 < m ∧ Wo x.2.2 ∧ F_is_let [lnsD l, natD x.2.1, frR x.2.2] = some (.bool true)
theorem f_are_asked {m : Nat} {L : List (List (Nat × Rat))} {A : List (Nat × Nat × Rat)} (h : AkOk m L A) : F_are_asked [askPD A, linesPD L, natD m] = some (.bool true) := by
  obtain ⟨δ', h3, x4, h4⟩ := for_inv (enc := triD) (p := pName 4) (body := B_are_asked_1) (xs := A) (δ := [.val (askPD A), .val (linesPD L), .val (natD m), .val .none, .no])
    (fun pr δ => ∃ x4, δ = [.val (askPD A), .val (linesPD L), .val (natD m), .val (lastA pr), x4]) ⟨_, rfl⟩ (by
      rintro pr x po δ e ⟨x4, rfl⟩
      obtain ⟨l, p1, p2, p3, p4⟩ := h.ok x (by rw [e]; exact List.mem_append_right _ List.mem_cons_self)
      refine ⟨_, _, rfl, ask_step (q := pr.getLast?.map fun x : Nat × Nat × Rat => (x.1, x.2.1)) p1 p2 p3 p4 fun r hr => ?_, .val (triD x), ?_⟩
      · obtain ⟨y, q1, rfl⟩ := Option.map_eq_some_iff.mp hr
        have ar := h.ar
        rw [e] at ar
        exact (List.pairwise_append.mp ar).2.2 y (List.mem_of_getLast? q1) x List.mem_cons_self
      · have : lastA (pr ++ [x]) = pairD (x.1, x.2.1) := by
          unfold lastA
          rw [getLast_snoc]
          rfl
        rw [this])
  have e1 : dList (fVar 0) [.val (askPD A), .val (linesPD L), .val (natD m), .val .none, .no] = some (A.map triD) := rfl
  have e2 : isiD "list" (askPD A) = some (.bool true) := rfl
  rw [r_are_asked]
  simp only [B_are_asked, sSeq_ap, sIf_ap, bOf_ap, bAnd_ap, bOr_ap, bNot_ap, bYes_ap, fAnd_ap, fOr_ap, fNot_ap, fIf_ap, sPat_ap, pName_ap, pTup_ap, setAll, sSkip_ap, sRet_ap, sOwn_ap, sFrz_ap, frz, frz1, sApp_ap, sIns_ap, sDo_ap, fTup_ap, fLstN_ap, fList_ap, fCall_ap, fCons_ap, fNil_ap, f1_ap, f2_ap, fVar_ap, fC_ap, sFor_ap, List.foldl_cons, List.foldl_nil, List.set_cons_succ, List.set_cons_zero, List.getElem?_cons_zero, List.getElem?_cons_succ, Option.bind_some, fin_rt, fin_nx, Bool.not_true, Bool.not_false, wipeD, nought_fr, one_fr, int_0, int_1, int_2, int_3, int_4, int_8, int_12, len_list, len_tup, len_map, isi_list, isi_tup, isi_str, lt_nn, le_nn, gt_nn, ge_nn, eq_nn, ne_nn, add_nn, whole_n, List.length_map, decide_true, decide_false, leng0, leng1, leng2, leng3, leng4, if_true, if_false, eq_self, Nat.reduceEqDiff, Nat.reduceLT, Nat.reduceLeDiff, e1, e2, h3, h4]
theorem run_is_paper {P m L A T : PyData} {n : Nat} {bs : List PyData} (h0 : isiD "tuple" P = some (.bool true)) (h1 : lenD [P] = some (natD 3)) (h2 : ∀ δ, pTup [2, 3, 4] P δ = setAll [2, 3, 4] [L, A, T] δ) (h3 : isiD "list" L = some (.bool true)) (h4 : lenD [L] = some (natD n)) (h5 : 1 ≤ n) (h6 : n ≤ 4)
    (h7 : fComp (dVar 2) (pName 5) bYes (fCall F_are_lines (fCons (fVar 5) (fCons (fVar 1) fNil))) [5] [.val P, .val m, .val L, .val A, .val T, .no] = some bs) (h8 : allD [.list bs] = some (.bool true)) (h9 : F_are_asked [A, L, m] = some (.bool true)) (h10 : F_are_things [T, m] = some (.bool true)) :
    F_is_paper [P, m] = some (.bool true) := by
  have d1 : decide (n = 0) = false := decide_eq_false (by omega)
  have d2 : decide (4 < n) = false := decide_eq_false (by omega)
  rw [r_is_paper]
  simp only [B_is_paper, sSeq_ap, sIf_ap, bOf_ap, bAnd_ap, bOr_ap, bNot_ap, bYes_ap, fAnd_ap, fOr_ap, fNot_ap, fIf_ap, sPat_ap, pName_ap, pTup_ap, setAll, sSkip_ap, sRet_ap, sOwn_ap, sFrz_ap, frz, frz1, sApp_ap, sIns_ap, sDo_ap, fTup_ap, fLstN_ap, fList_ap, fCall_ap, fCons_ap, fNil_ap, f1_ap, f2_ap, fVar_ap, fC_ap, sFor_ap, List.foldl_cons, List.foldl_nil, List.set_cons_succ, List.set_cons_zero, List.getElem?_cons_zero, List.getElem?_cons_succ, Option.bind_some, fin_rt, fin_nx, Bool.not_true, Bool.not_false, wipeD, nought_fr, one_fr, int_0, int_1, int_2, int_3, int_4, int_8, int_12, len_list, len_tup, len_map, isi_list, isi_tup, isi_str, lt_nn, le_nn, gt_nn, ge_nn, eq_nn, ne_nn, add_nn, whole_n, List.length_map, decide_true, decide_false, leng0, leng1, leng2, leng3, leng4, if_true, if_false, eq_self, Nat.reduceEqDiff, Nat.reduceLT, Nat.reduceLeDiff, h0, h1, h2, h3, h4, d1, d2, h7, h8, h9, h10]
/-- a paper -/
structure PpOk (n m : Nat) (L : List (List (Nat × Rat))) (A : List (Nat × Nat × Rat)) (T : List Nat) : Prop where
  n1 : 1 ≤ n
  n4 : n ≤ 4
  m12 : m ≤ 12
  ln : L.length = n
  lok : ∀ l ∈ L, LnOk m l
  aok : AkOk m L A
  t1 : T.Pairwise fun a b => a < b
  t2 : ∀ t ∈ T, t < m
theorem f_is_paper {n m : Nat} {L : List (List (Nat × Rat))} {A : List (Nat × Nat × Rat)} {T : List Nat} (h : PpOk n m L A T) : F_is_paper [paperD L A T, natD m] = some (.bool true) := by
  have hn := h.ln
  have h4 := h.n4
  have c : fComp (dVar 2) (pName 5) bYes (fCall F_are_lines (fCons (fVar 5) (fCons (fVar 1) fNil))) [5] [.val (paperD L A T), .val (natD m), .val (linesPD L), .val (askPD A), .val (natsD T), .no] = some (L.map fun _ => PyData.bool true) :=
    comp_map (enc := lnsD) _ L rfl (by omega) fun l hl => ⟨_, rfl, by simp only [sSeq_ap, sIf_ap, bOf_ap, bAnd_ap, bOr_ap, bNot_ap, bYes_ap, fAnd_ap, fOr_ap, fNot_ap, fIf_ap, sPat_ap, pName_ap, pTup_ap, setAll, sSkip_ap, sRet_ap, sOwn_ap, sFrz_ap, frz, frz1, sApp_ap, sIns_ap, sDo_ap, fTup_ap, fLstN_ap, fList_ap, fCall_ap, fCons_ap, fNil_ap, f1_ap, f2_ap, fVar_ap, fC_ap, sFor_ap, List.foldl_cons, List.foldl_nil, List.set_cons_succ, List.set_cons_zero, List.getElem?_cons_zero, List.getElem?_cons_succ, Option.bind_some, fin_rt, fin_nx, Bool.not_true, Bool.not_false, wipeD, nought_fr, one_fr, int_0, int_1, int_2, int_3, int_4, int_8, int_12, len_list, len_tup, len_map, isi_list, isi_tup, isi_str, lt_nn, le_nn, gt_nn, ge_nn, eq_nn, ne_nn, add_nn, whole_n, List.length_map, decide_true, decide_false, leng0, leng1, leng2, leng3, leng4, if_true, if_false, eq_self, Nat.reduceEqDiff, Nat.reduceLT, Nat.reduceLeDiff, f_lines (h.lok l hl) h.m12]⟩
  exact run_is_paper rfl rfl (fun _ => rfl) rfl (len_map _ _) (by rw [hn]; exact h.n1) (by omega) c (all_map L) (f_are_asked h.aok) (f_are_things h.t1 h.t2)
/-! ### what a paper's reader has seen -/
def putR (row : List (Option Rat)) (l : List (Nat × Rat)) : List (Option Rat) := l.foldl (fun row x => row.set x.1 (some x.2)) row
theorem putR_len : ∀ (l : List (Nat × Rat)) (row : List (Option Rat)), (putR row l).length = row.length
  | [], _ => rfl
  | x :: r, row => by
    show (putR (row.set x.1 (some x.2)) r).length = _
    rw [putR_len r, List.length_set]
theorem rowPut_eq : ∀ (l : List (Nat × Rat)) (row : List (Option Rat)), (∀ x ∈ l, x.1 < row.length) → rowPut (row.map optD) (l.map lnD) = some ((putR row l).map optD)
  | [], _, _ => rfl
  | x :: r, row, h => by
    have h1 := h x List.mem_cons_self
    show (if 0 ≤ (x.1 : Int) ∧ (x.1 : Int) < ((row.map optD).length : Nat) then rowPut ((row.map optD).set (x.1 : Int).toNat (frR x.2)) (r.map lnD) else none) = _
    rw [if_pos (by rw [List.length_map]; omega), Int.toNat_natCast]
    have e : (row.map optD).set x.1 (frR x.2) = (row.set x.1 (some x.2)).map optD := by
      rw [List.map_set]
      rfl
    rw [e]
    exact rowPut_eq r _ fun y hy => by rw [List.length_set]; exact h y (List.mem_cons_of_mem _ hy)
theorem putR_get : ∀ (l : List (Nat × Rat)) (row : List (Option Rat)) (ws : List Rat) (i : Nat), i < row.length → (∀ x ∈ l, x.2 = W ws x.1) → (putR row l)[i]? = if i ∈ l.map (·.1) then some (some (W ws i)) else row[i]?
  | [], row, ws, i, hi, _ => by
    rw [if_neg (by intro z; cases z)]
    rfl
  | x :: r, row, ws, i, hi, hw => by
    show (putR (row.set x.1 (some x.2)) r)[i]? = _
    rw [putR_get r _ ws i (by rw [List.length_set]; exact hi) fun y hy => hw y (List.mem_cons_of_mem _ hy)]
    rw [List.map_cons]
    by_cases q : i ∈ r.map (·.1)
    · rw [if_pos q, if_pos (List.mem_cons_of_mem _ q)]
    · rw [if_neg q]
      by_cases z : i = x.1
      · subst z
        rw [if_pos List.mem_cons_self, List.getElem?_set_self hi, hw x List.mem_cons_self]
      · rw [if_neg (fun y => by
          rcases List.mem_cons.mp y with y | y
          · exact z y
          · exact q y), List.getElem?_set_ne (Ne.symm z)]
theorem rowsOf_eq {m : Nat} : ∀ (L : List (List (Nat × Rat))), (∀ l ∈ L, ∀ x ∈ l, x.1 < m) → rowsOf m (L.map lnsD) = some ((L.map fun l => putR (List.replicate m none) l).map fun row => row.map optD)
  | [], _ => rfl
  | l :: r, h => by
    show (rowPut (List.replicate m .none) (l.map lnD)).bind _ = _
    have e : (List.replicate m PyData.none) = (List.replicate m (none : Option Rat)).map optD := by
      rw [List.map_replicate]
      rfl
    rw [e, rowPut_eq l _ fun x hx => by rw [List.length_replicate]; exact h l List.mem_cons_self x hx]
    show (rowsOf m (r.map lnsD)).bind _ = _
    rw [rowsOf_eq r fun l hl => h l (List.mem_cons_of_mem _ hl)]
    rfl
def putA (rows : List (List (Option Rat))) (A : List (Nat × Nat × Rat)) : List (List (Option Rat)) := A.foldl (fun rows x => rows.set x.1 ((rows.getD x.1 []).set x.2.1 (some x.2.2))) rows
theorem rowsPut_eq {m : Nat} : ∀ (A : List (Nat × Nat × Rat)) (rows : List (List (Option Rat))), (∀ row ∈ rows, row.length = m) → (∀ x ∈ A, x.1 < rows.length ∧ x.2.1 < m) → rowsPut (rows.map fun row => row.map optD) (A.map triD) = some ((putA rows A).map fun row => row.map optD)
  | [], _, _, _ => rfl
  | x :: r, rows, hm, h => by
    obtain ⟨h1, h2⟩ := h x List.mem_cons_self
    have e0 : rows[x.1]? = some (rows.getD x.1 []) := by
      rw [List.getD_eq_getElem?_getD, List.getElem?_eq_getElem h1]
      rfl
    have hlen : (rows.getD x.1 []).length = m := hm _ (List.mem_of_getElem? e0)
    have e1 : (rows.map fun row => row.map optD)[(x.1 : Int).toNat]? = some ((rows.getD x.1 []).map optD) := by
      rw [Int.toNat_natCast, List.getElem?_map, e0]
      rfl
    show (if 0 ≤ (x.1 : Int) ∧ (x.1 : Int) < ((rows.map fun row => row.map optD).length : Nat) then match (rows.map fun row => row.map optD)[(x.1 : Int).toNat]? with
      | some row => if 0 ≤ (x.2.1 : Int) ∧ (x.2.1 : Int) < (row.length : Nat) then rowsPut ((rows.map fun row => row.map optD).set (x.1 : Int).toNat (row.set (x.2.1 : Int).toNat (frR x.2.2))) (r.map triD) else none
      | none => none
    else none) = _
    rw [if_pos (by rw [List.length_map]; omega), e1]
    show (if 0 ≤ (x.2.1 : Int) ∧ (x.2.1 : Int) < (((rows.getD x.1 []).map optD).length : Nat) then _ else _) = _
    rw [if_pos (by rw [List.length_map]; omega), Int.toNat_natCast, Int.toNat_natCast]
    have e2 : ((rows.getD x.1 []).map optD).set x.2.1 (frR x.2.2) = ((rows.getD x.1 []).set x.2.1 (some x.2.2)).map optD := by
      rw [List.map_set]
      rfl
    rw [e2]
    have e3 : (rows.map fun row => row.map optD).set x.1 (((rows.getD x.1 []).set x.2.1 (some x.2.2)).map optD) = (rows.set x.1 ((rows.getD x.1 []).set x.2.1 (some x.2.2))).map fun row => row.map optD := List.map_set.symm
    rw [e3]
    exact rowsPut_eq r _ (fun row hr => by
      rcases List.mem_or_eq_of_mem_set hr with hr | rfl
      · exact hm row hr
      · rw [List.length_set]; exact hlen) fun y hy => by rw [List.length_set]; exact h y (List.mem_cons_of_mem _ hy)
/-- what stands at a place of rows -/
def at2 (rows : List (List (Option Rat))) (k i : Nat) : Option (Option Rat) := (rows[k]?).bind fun row => row[i]?
theorem putA_get {m : Nat} {b : List (List Rat)} : ∀ (A : List (Nat × Nat × Rat)) (rows : List (List (Option Rat))) (k i : Nat), (∀ row ∈ rows, row.length = m) → (∀ x ∈ A, x.1 < rows.length ∧ x.2.1 < m ∧ x.2.2 = W (b.getD x.1 []) x.2.1) → k < rows.length → i < m →
    (putA rows A).length = rows.length ∧ (∀ row ∈ putA rows A, row.length = m) ∧ at2 (putA rows A) k i = if (k, i) ∈ A.map (fun x => (x.1, x.2.1)) then some (some (W (b.getD k []) i)) else at2 rows k i
  | [], rows, k, i, hm, _, hk, hi => by
    refine ⟨rfl, hm, ?_⟩
    rw [if_neg (by intro z; cases z)]
    rfl
  | x :: r, rows, k, i, hm, h, hk, hi => by
    obtain ⟨h1, h2, h3⟩ := h x List.mem_cons_self
    have e0 : rows[x.1]? = some (rows.getD x.1 []) := by
      rw [List.getD_eq_getElem?_getD, List.getElem?_eq_getElem h1]
      rfl
    have hlen : (rows.getD x.1 []).length = m := hm _ (List.mem_of_getElem? e0)
    have hm' : ∀ row ∈ rows.set x.1 ((rows.getD x.1 []).set x.2.1 (some x.2.2)), row.length = m := fun row hr => by
      rcases List.mem_or_eq_of_mem_set hr with hr | rfl
      · exact hm row hr
      · rw [List.length_set]; exact hlen
    obtain ⟨q1, q2, q3⟩ := putA_get r (rows.set x.1 ((rows.getD x.1 []).set x.2.1 (some x.2.2))) k i hm' (fun y hy => by rw [List.length_set]; exact h y (List.mem_cons_of_mem _ hy)) (by rw [List.length_set]; exact hk) hi
    refine ⟨q1.trans List.length_set, q2, q3.trans ?_⟩
    rw [List.map_cons]
    by_cases c1 : (k, i) ∈ r.map fun x => (x.1, x.2.1)
    · rw [if_pos c1, if_pos (List.mem_cons_of_mem _ c1)]
    · rw [if_neg c1]
      by_cases c2 : (k, i) = (x.1, x.2.1)
      · rw [if_pos (by rw [c2]; exact List.mem_cons_self)]
        obtain ⟨rfl, rfl⟩ := Prod.mk.inj c2
        unfold at2
        rw [List.getElem?_set_self h1]
        show ((rows.getD x.1 []).set x.2.1 (some x.2.2))[x.2.1]? = _
        rw [List.getElem?_set_self (by rw [hlen]; exact h2), h3]
      · rw [if_neg (fun z => by
          rcases List.mem_cons.mp z with z | z
          · exact c2 z
          · exact c1 z)]
        unfold at2
        by_cases c3 : k = x.1
        · subst c3
          have c4 : x.2.1 ≠ i := fun z => c2 (by rw [z])
          rw [List.getElem?_set_self h1, e0]
          show ((rows.getD x.1 []).set x.2.1 (some x.2.2))[i]? = (rows.getD x.1 [])[i]?
          rw [List.getElem?_set_ne c4]
        · rw [List.getElem?_set_ne (Ne.symm c3)]
theorem at2_ext {m : Nat} {xs ys : List (List (Option Rat))} (hl : xs.length = ys.length) (h1 : ∀ r ∈ xs, r.length = m) (h2 : ∀ r ∈ ys, r.length = m) (h : ∀ k i, k < xs.length → i < m → at2 xs k i = at2 ys k i) : xs = ys := by
  refine List.ext_getElem hl fun k a c => ?_
  refine List.ext_getElem? fun i => ?_
  by_cases hi : i < m
  · have := h k i a hi
    unfold at2 at this
    rw [List.getElem?_eq_getElem a, List.getElem?_eq_getElem c] at this
    exact this
  · rw [List.getElem?_eq_none (by rw [h1 _ (List.getElem_mem a)]; omega), List.getElem?_eq_none (by rw [h2 _ (List.getElem_mem c)]; omega)]
theorem read_map (p : List Rat × Nat) : (lineP p).map (·.1) = readR p.1 p.2 := by
  unfold lineP
  rw [List.map_map]
  exact List.map_id _
theorem see_at {m : Nat} {b : List (List Rat)} {ds : List Nat} (h : Bok m b) (hd : ds.length = b.length) (as : List (Nat × Nat)) {k i : Nat} (hk : k < b.length) (hi : i < m) :
    at2 (seenR b ds as) k i = some (if i ∈ readR (b.getD k []) (ds.getD k 0) ∨ (k, i) ∈ as then some (W (b.getD k []) i) else none) := by
  have hz : k < (b.zip ds).length := by rw [zip_len hd]; exact hk
  have e1 : b[k]? = some (b.getD k []) := by
    rw [List.getD_eq_getElem?_getD, List.getElem?_eq_getElem hk]
    rfl
  have e2 : ds[k]? = some (ds.getD k 0) := by
    rw [List.getD_eq_getElem?_getD, List.getElem?_eq_getElem (by rw [hd]; exact hk)]
    rfl
  have e3 : (b.zip ds)[k]? = some (b.getD k [], ds.getD k 0) := List.getElem?_zip_eq_some.mpr ⟨e1, e2⟩
  have e4 : (b.zip ds).zipIdx[k]? = some ((b.getD k [], ds.getD k 0), k) := by
    rw [List.getElem?_zipIdx, e3]
    show some ((b.getD k [], ds.getD k 0), 0 + k) = _
    rw [Nat.zero_add]
  have hr : (b.getD k []).length = m := h.row _ (List.mem_of_getElem? e1)
  have e5 : (b.getD k [])[i]? = some (W (b.getD k []) i) := at_W (by rw [hr]; exact hi)
  unfold at2 seenR
  rw [List.getElem?_map, e4]
  show (seeRow as ((b.getD k [], ds.getD k 0), k))[i]? = _
  unfold seeRow
  rw [List.getElem?_map, List.getElem?_zipIdx, e5]
  show some (seeV _ _ _ (W (b.getD k []) i, 0 + i)) = _
  rw [Nat.zero_add]
  rfl
theorem f_seen_in {m : Nat} {b : List (List Rat)} {ds : List Nat} {as : List (Nat × Nat)} {T : List Nat} (h : Bok m b) (hl : Lok b.length m ds as) : F_seen_in [paperD (linesP b ds) (askP b as) T, natD m] = some (seenD (seenR b ds as)) := by
  have m2 := h.m2
  have n2 := h.n2
  have hLl : (linesP b ds).length = b.length := by unfold linesP; rw [List.length_map, zip_len hl.dn]
  have s := sok_of h hl.dn as
  have hL : ∀ l ∈ linesP b ds, ∀ x ∈ l, x.1 < m := fun l hl' x hx => by
    obtain ⟨p, hp, rfl⟩ := List.mem_map.mp hl'
    obtain ⟨i, hi, rfl⟩ := List.mem_map.mp hx
    have := read_lt hi
    rw [h.row _ (List.of_mem_zip hp).1] at this
    exact this
  have hrows : ∀ row ∈ (linesP b ds).map fun l => putR (List.replicate m none) l, row.length = m := fun row hr => by
    obtain ⟨l, _, rfl⟩ := List.mem_map.mp hr
    rw [putR_len, List.length_replicate]
  have hA : ∀ x ∈ askP b as, x.1 < ((linesP b ds).map fun l => putR (List.replicate m none) l).length ∧ x.2.1 < m ∧ x.2.2 = W (b.getD x.1 []) x.2.1 := fun x hx => by
    obtain ⟨p, hp, rfl⟩ := List.mem_map.mp hx
    obtain ⟨q1, q2⟩ := hl.an p hp
    exact ⟨by rw [List.length_map, hLl]; exact q1, q2, rfl⟩
  have out : putA ((linesP b ds).map fun l => putR (List.replicate m none) l) (askP b as) = seenR b ds as := by
    have n1 := h.n1
    have m1 := h.m1
    obtain ⟨z1, z2, _⟩ := putA_get (b := b) (askP b as) _ 0 0 hrows hA (by rw [List.length_map, hLl]; exact n1) m1
    refine at2_ext (m := m) (by rw [z1, List.length_map, hLl, s.sn]) z2 s.sm fun k i hk hi => ?_
    rw [z1, List.length_map, hLl] at hk
    obtain ⟨_, _, q⟩ := putA_get (b := b) (askP b as) _ k i hrows hA (by rw [List.length_map, hLl]; exact hk) hi
    rw [q, see_at h hl.dn as hk hi]
    have e1 : (askP b as).map (fun x => (x.1, x.2.1)) = as := by
      unfold askP
      rw [List.map_map]
      exact List.map_id _
    rw [e1]
    by_cases c1 : (k, i) ∈ as
    · rw [if_pos c1, if_pos (.inr c1)]
    · rw [if_neg c1]
      have e2 : b[k]? = some (b.getD k []) := by
        rw [List.getD_eq_getElem?_getD, List.getElem?_eq_getElem hk]
        rfl
      have e3 : ds[k]? = some (ds.getD k 0) := by
        rw [List.getD_eq_getElem?_getD, List.getElem?_eq_getElem (by rw [hl.dn]; exact hk)]
        rfl
      have e4 : (b.zip ds)[k]? = some (b.getD k [], ds.getD k 0) := List.getElem?_zip_eq_some.mpr ⟨e2, e3⟩
      unfold at2 linesP
      rw [List.getElem?_map, List.getElem?_map, e4]
      show (putR (List.replicate m none) (lineP (b.getD k [], ds.getD k 0)))[i]? = _
      rw [putR_get _ _ (b.getD k []) i (by rw [List.length_replicate]; exact hi) (fun x hx => by
        obtain ⟨j, _, rfl⟩ := List.mem_map.mp hx
        rfl), read_map]
      by_cases c2 : i ∈ readR (b.getD k []) (ds.getD k 0)
      · rw [if_pos c2, if_pos (.inl c2)]
      · rw [if_neg c2, if_neg (fun z => z.elim c2 c1), List.getElem?_replicate, if_pos hi]
  show (if 0 ≤ (m : Int) ∧ (m : Int) ≤ 100 ∧ ((linesP b ds).map lnsD).length ≤ 100 then (rowsOf (m : Int).toNat ((linesP b ds).map lnsD)).bind fun rows => (rowsPut rows ((askP b as).map triD)).bind fun out => some (PyData.list (out.map PyData.list)) else none) = _
  rw [if_pos ⟨by omega, by omega, by rw [List.length_map]; omega⟩, Int.toNat_natCast, rowsOf_eq _ hL, Option.bind_some, rowsPut_eq (m := m) _ _ hrows (fun x hx => ⟨(hA x hx).1, (hA x hx).2.1⟩), Option.bind_some, out]
  unfold seenD
  rw [List.map_map]
  rfl
/-! ### the judge lets it by -/
theorem Ahd.asymm {ws : List Rat} {a c : Nat} (h : Ahd ws a c) : ¬ Ahd ws c a := fun g => by
  rcases h with h | ⟨h1, h2⟩
  · rcases g with g | ⟨g1, _⟩
    · exact Rat.lt_irrefl (lt_of_lt_le h (Rat.le_of_lt g))
    · rw [g1] at h; exact Rat.lt_irrefl h
  · rcases g with g | ⟨_, g2⟩
    · rw [h1] at g; exact Rat.lt_irrefl g
    · omega
theorem read_closed {r : List Rat} {d i j : Nat} (hi : i ∈ readR r d) (hj : j < r.length) (h : Ahd r j i) : j ∈ readR r d := by
  have o := (order_ok r).1
  have mj := order_mem.mpr hj
  rw [← List.take_append_drop d (orderR r)] at o mj
  rcases List.mem_append.mp mj with m | m
  · exact m
  · exact absurd h ((List.pairwise_append.mp o).2.2 i hi j m).asymm
theorem read_ahead {r : List Rat} {d i j : Nat} (hi : i ∈ readR r d) (hj : j < r.length) (nj : j ∉ readR r d) : Ahd r i j := by
  have o := (order_ok r).1
  have mj := order_mem.mpr hj
  rw [← List.take_append_drop d (orderR r)] at o mj
  rcases List.mem_append.mp mj with m | m
  · exact absurd m nj
  · exact (List.pairwise_append.mp o).2.2 i hi j m
theorem line_ok {m : Nat} {r : List Rat} (hr : r.length = m) (hw : ∀ w ∈ r, Wo w) (m12 : m ≤ 12) (d : Nat) : LnOk m (lineP (r, d)) := by
  refine ⟨?_, fun x hx => ?_, ?_, ?_, fun x hx hz i hi => ?_⟩
  · unfold lineP
    rw [List.length_map]
    exact Nat.le_trans (read_len r d) (by omega)
  · obtain ⟨i, hi, rfl⟩ := List.mem_map.mp hx
    have := read_lt hi
    exact ⟨by rw [← hr]; exact this, W_wo hw this⟩
  · unfold lineP
    rw [List.pairwise_map]
    exact ((order_ok r).1.take).imp fun h => h
  · rw [read_map]
    exact (order_nodup r).sublist (List.take_sublist _ _)
  · rw [read_map]
    obtain ⟨j, hj, rfl⟩ := List.mem_map.mp (List.mem_of_getLast? hx)
    have hjl := read_lt hj
    refine read_closed hj (Nat.lt_trans hi hjl) ?_
    have h0 : 0 ≤ W r i := (W_wo hw (Nat.lt_trans hi hjl)).nn
    have hz' : W r j = 0 := hz
    rw [← hz'] at h0
    rcases Rat.le_iff_lt_or_eq.mp h0 with z | z
    · exact .inl z
    · exact .inr ⟨z, hi⟩
theorem run_judge {m r c P Ls n S B : PyData} {k j : Nat} {T : PyData} {ls : List PyData} {b : Bool} (h1 : m = natD k) (hk : 1 ≤ k ∧ k ≤ 12) (h2 : c = natD j) (hj : j ≤ k) (h3 : F_is_paper [P, m] = some (.bool true)) (h4 : ixD P (natD 0) = some Ls) (h5 : lenD [Ls] = some n) (h6 : F_is_rule [r, n] = some (.bool true)) (h7 : ixD P (natD 2) = some T) (h8 : lenD [T] = some (natD j))
    (h9 : fComp (dList (f2 ixD (fVar 3) (fC (natD 0)))) (pName 5) bYes (fIf (bOf (f2 eqD (fCall lenD (fCons (fVar 5) fNil)) (fC (natD 0)))) (fC (frR 1)) (f2 ixD (f2 ixD (fVar 5) (f1 negD (fC (natD 1)))) (fC (natD 1)))) [5] [.val m, .val r, .val c, .val P, .no, .no] = some ls)
    (h10 : F_seen_in [P, m] = some S) (h11 : F_bounds_by [r, S, .list ls] = some B) (h12 : F_are_sure [B, T] = some (.bool b)) : F_judge_paper [m, r, c, P] = some (.bool b) := by
  have d1 : decide (k < 1) = false := decide_eq_false (by omega)
  have d2 : decide (12 < k) = false := decide_eq_false (by omega)
  have d3 : decide (j < 0) = false := decide_eq_false (by omega)
  have d4 : decide (k < j) = false := decide_eq_false (by omega)
  subst h1 h2
  rw [r_judge_paper]
  simp only [B_judge_paper, sSeq_ap, sIf_ap, bOf_ap, bAnd_ap, bOr_ap, bNot_ap, bYes_ap, fAnd_ap, fOr_ap, fNot_ap, fIf_ap, sPat_ap, pName_ap, pTup_ap, setAll, sSkip_ap, sRet_ap, sOwn_ap, sFrz_ap, frz, frz1, sApp_ap, sIns_ap, sDo_ap, fTup_ap, fLstN_ap, fList_ap, fCall_ap, fCons_ap, fNil_ap, f1_ap, f2_ap, fVar_ap, fC_ap, sFor_ap, List.foldl_cons, List.foldl_nil, List.set_cons_succ, List.set_cons_zero, List.getElem?_cons_zero, List.getElem?_cons_succ, Option.bind_some, fin_rt, fin_nx, Bool.not_true, Bool.not_false, wipeD, nought_fr, one_fr, int_0, int_1, int_2, int_3, int_4, int_8, int_12, len_list, len_tup, len_map, isi_list, isi_tup, isi_str, lt_nn, le_nn, gt_nn, ge_nn, eq_nn, ne_nn, add_nn, whole_n, List.length_map, decide_true, decide_false, leng0, leng1, leng2, leng3, leng4, if_true, if_false, eq_self, Nat.reduceEqDiff, Nat.reduceLT, Nat.reduceLeDiff, d1, d2, d3, d4, h3, h4, h5, h6, h7, h8, h9, h10, h11, h12]
theorem f_judge {m c : Nat} {b : List (List Rat)} {r : Rule} {ds : List Nat} {as : List (Nat × Nat)} {T : List Nat} (h : Bok m b) (hr : Rok b.length r) (hl : Lok b.length m ds as) (hc : c ≤ m) (t0 : T.length = c) (t1 : T.Pairwise fun a b => a < b) (t2 : ∀ t ∈ T, t < m) (hs : sureR (bbR b r ds as m) T = true) :
    F_judge_paper [natD m, ruleD r, natD c, paperD (linesP b ds) (askP b as) T] = some (.bool true) := by
  have n2 := h.n2
  have hLl : (linesP b ds).length = b.length := by unfold linesP; rw [List.length_map, zip_len hl.dn]
  have hLk : ∀ k, k < b.length → (linesP b ds)[k]? = some (lineP (b.getD k [], ds.getD k 0)) := fun k hk => by
    have e2 : b[k]? = some (b.getD k []) := by
      rw [List.getD_eq_getElem?_getD, List.getElem?_eq_getElem hk]
      rfl
    have e3 : ds[k]? = some (ds.getD k 0) := by
      rw [List.getD_eq_getElem?_getD, List.getElem?_eq_getElem (by rw [hl.dn]; exact hk)]
      rfl
    have e4 : (b.zip ds)[k]? = some (b.getD k [], ds.getD k 0) := List.getElem?_zip_eq_some.mpr ⟨e2, e3⟩
    unfold linesP
    rw [List.getElem?_map, e4]
    rfl
  have ok : PpOk b.length m (linesP b ds) (askP b as) T := by
    refine ⟨h.n1, h.n2, h.m2, hLl, fun l hl' => ?_, ⟨?_, ?_, fun x hx => ?_⟩, t1, t2⟩
    · obtain ⟨⟨r', d⟩, hp, rfl⟩ := List.mem_map.mp hl'
      have hm := (List.of_mem_zip hp).1
      exact line_ok (h.row r' hm) (h.wo r' hm) h.m2 d
    · unfold askP
      rw [List.length_map]
      exact hl.al
    · unfold askP
      rw [List.pairwise_map]
      exact hl.ar.imp fun h => h
    · obtain ⟨p, hp, rfl⟩ := List.mem_map.mp hx
      obtain ⟨q1, q2⟩ := hl.an p hp
      have e2 : b[p.1]? = some (b.getD p.1 []) := by
        rw [List.getD_eq_getElem?_getD, List.getElem?_eq_getElem q1]
        rfl
      have hm := List.mem_of_getElem? e2
      have hlen := h.row _ hm
      have hw := h.wo _ hm
      refine ⟨_, hLk p.1 q1, q2, W_wo hw (by rw [hlen]; exact q2), f_let (W_wo hw (by rw [hlen]; exact q2)) (fun x hx => ?_) (fun x hx e => ?_) fun x hx ne nt => ?_⟩
      · exact ((line_ok hlen hw h.m2 _).lt x hx).2
      · obtain ⟨i, _, rfl⟩ := List.mem_map.mp hx
        show W _ i = _
        rw [show i = p.2 from e]
      · obtain ⟨i, hi, rfl⟩ := List.mem_map.mp hx
        rw [read_map] at nt
        exact read_ahead hi (by rw [hlen]; exact q2) nt
  have e0 : ixD (paperD (linesP b ds) (askP b as) T) (natD 0) = some (linesPD (linesP b ds)) := ix_0 _ _
  have e2 : ixD (paperD (linesP b ds) (askP b as) T) (natD 2) = some (natsD T) := ix_2 _ _ _ _
  have e3 : lenD [linesPD (linesP b ds)] = some (natD b.length) := by rw [← hLl]; exact len_map _ _
  have e4 : lenD [natsD T] = some (natD c) := by rw [← t0]; exact len_map _ _
  have c' : fComp (dList (f2 ixD (fVar 3) (fC (natD 0)))) (pName 5) bYes (fIf (bOf (f2 eqD (fCall lenD (fCons (fVar 5) fNil)) (fC (natD 0)))) (fC (frR 1)) (f2 ixD (f2 ixD (fVar 5) (f1 negD (fC (natD 1)))) (fC (natD 1)))) [5] [.val (natD m), .val (ruleD r), .val (natD c), .val (paperD (linesP b ds) (askP b as) T), .no, .no] =
      some ((b.zip ds).map fun p => frR (lastOne p)) := by
    have q : dList (f2 ixD (fVar 3) (fC (natD 0))) [.val (natD m), .val (ruleD r), .val (natD c), .val (paperD (linesP b ds) (askP b as) T), .no, .no] = some ((b.zip ds).map fun p => lnsD (lineP p)) := by
      simp only [dList_ap, sSeq_ap, sIf_ap, bOf_ap, bAnd_ap, bOr_ap, bNot_ap, bYes_ap, fAnd_ap, fOr_ap, fNot_ap, fIf_ap, sPat_ap, pName_ap, pTup_ap, setAll, sSkip_ap, sRet_ap, sOwn_ap, sFrz_ap, frz, frz1, sApp_ap, sIns_ap, sDo_ap, fTup_ap, fLstN_ap, fList_ap, fCall_ap, fCons_ap, fNil_ap, f1_ap, f2_ap, fVar_ap, fC_ap, sFor_ap, List.foldl_cons, List.foldl_nil, List.set_cons_succ, List.set_cons_zero, List.getElem?_cons_zero, List.getElem?_cons_succ, Option.bind_some, fin_rt, fin_nx, Bool.not_true, Bool.not_false, wipeD, nought_fr, one_fr, int_0, int_1, int_2, int_3, int_4, int_8, int_12, len_list, len_tup, len_map, isi_list, isi_tup, isi_str, lt_nn, le_nn, gt_nn, ge_nn, eq_nn, ne_nn, add_nn, whole_n, List.length_map, decide_true, decide_false, leng0, leng1, leng2, leng3, leng4, if_true, if_false, eq_self, Nat.reduceEqDiff, Nat.reduceLT, Nat.reduceLeDiff, e0]
      unfold linesPD linesP
      rw [List.map_map]
      rfl
    refine comp_map (enc := fun p => lnsD (lineP p)) _ (b.zip ds) q (by rw [zip_len hl.dn]; omega) fun p hp => ⟨_, rfl, ?_⟩
    have e5 : lenD [lnsD (lineP p)] = some (natD (lineP p).length) := len_map _ _
    have e6 : (lineP p).getLast? = (readR p.1 p.2).getLast?.map fun i => (i, W p.1 i) := by
      unfold lineP
      exact List.getLast?_map
    unfold lastOne
    cases q2 : (readR p.1 p.2).getLast? with
    | none =>
      rw [q2] at e6
      have e7 : (lineP p).length = 0 := by
        rw [List.getLast?_eq_none_iff.mp e6]
        rfl
      simp only [sSeq_ap, sIf_ap, bOf_ap, bAnd_ap, bOr_ap, bNot_ap, bYes_ap, fAnd_ap, fOr_ap, fNot_ap, fIf_ap, sPat_ap, pName_ap, pTup_ap, setAll, sSkip_ap, sRet_ap, sOwn_ap, sFrz_ap, frz, frz1, sApp_ap, sIns_ap, sDo_ap, fTup_ap, fLstN_ap, fList_ap, fCall_ap, fCons_ap, fNil_ap, f1_ap, f2_ap, fVar_ap, fC_ap, sFor_ap, List.foldl_cons, List.foldl_nil, List.set_cons_succ, List.set_cons_zero, List.getElem?_cons_zero, List.getElem?_cons_succ, Option.bind_some, fin_rt, fin_nx, Bool.not_true, Bool.not_false, wipeD, nought_fr, one_fr, int_0, int_1, int_2, int_3, int_4, int_8, int_12, len_list, len_tup, len_map, isi_list, isi_tup, isi_str, lt_nn, le_nn, gt_nn, ge_nn, eq_nn, ne_nn, add_nn, whole_n, List.length_map, decide_true, decide_false, leng0, leng1, leng2, leng3, leng4, if_true, if_false, eq_self, Nat.reduceEqDiff, Nat.reduceLT, Nat.reduceLeDiff, e5, e7]
    | some i =>
      rw [q2] at e6
      have e7 : decide ((lineP p).length = 0) = false := decide_eq_false fun z => by
        rw [List.length_eq_zero_iff.mp z] at e6
        cases e6
      have e8 : ixD (lnsD (lineP p)) (.int (-1)) = some (lnD (i, W p.1 i)) := ix_lastm e6
      simp only [sSeq_ap, sIf_ap, bOf_ap, bAnd_ap, bOr_ap, bNot_ap, bYes_ap, fAnd_ap, fOr_ap, fNot_ap, fIf_ap, sPat_ap, pName_ap, pTup_ap, setAll, sSkip_ap, sRet_ap, sOwn_ap, sFrz_ap, frz, frz1, sApp_ap, sIns_ap, sDo_ap, fTup_ap, fLstN_ap, fList_ap, fCall_ap, fCons_ap, fNil_ap, f1_ap, f2_ap, fVar_ap, fC_ap, sFor_ap, List.foldl_cons, List.foldl_nil, List.set_cons_succ, List.set_cons_zero, List.getElem?_cons_zero, List.getElem?_cons_succ, Option.bind_some, fin_rt, fin_nx, Bool.not_true, Bool.not_false, wipeD, nought_fr, one_fr, int_0, int_1, int_2, int_3, int_4, int_8, int_12, len_list, len_tup, len_map, isi_list, isi_tup, isi_str, lt_nn, le_nn, gt_nn, ge_nn, eq_nn, ne_nn, add_nn, whole_n, List.length_map, decide_true, decide_false, leng0, leng1, leng2, leng3, leng4, if_true, if_false, eq_self, Nat.reduceEqDiff, Nat.reduceLT, Nat.reduceLeDiff, e5, e7, neg_1, e8, ln_1]
  have hb := (f_bounds_by (sok_of h hl.dn as) hr).1
  have e9 : rowD (lastR b ds) = .list ((b.zip ds).map fun p => frR (lastOne p)) := by
    unfold rowD lastR
    rw [List.map_map]
    rfl
  rw [e9] at hb
  have hs' := f_sure (bds_of h hr hl.dn as) (T := T) t2
  rw [hs] at hs'
  exact run_judge rfl ⟨h.m1, h.m2⟩ rfl hc (f_is_paper ok) e0 e3 (f_is_rule hr h.n2) e2 e4 c' (f_seen_in h hl) hb hs'
end DL

set_option Elab.async false
set_option linter.all false
set_option maxRecDepth 100000
set_option maxHeartbeats 4000000
set_option exponentiation.threshold 3000
/-! Eq8: the nearly sure. -/
namespace DL
open PySem
theorem fr_0 (r : Rat) : ixD (frR r) (natD 0) = some (.int r.num) := ix_t0 _ _
theorem fr_1 (r : Rat) : ixD (frR r) (natD 1) = some (.int (r.den : Int)) := ix_t1 _ _ _
/-- a slack -/
structure Slk (s : Rat) : Prop where
  ge : 1 ≤ s
  sz : Sz 20 s
theorem Slk.nn {s : Rat} (h : Slk s) : 0 ≤ s := Rat.le_trans (by decide) h.ge
theorem f_slack {s : Rat} (h : Slk s) : F_look_at_slack [frR s] = some .none := by
  have e : decide (s.num < (s.den : Int)) = false := decide_eq_false (by
    have z := (Rat.le_iff 1 s).mp h.ge
    simp only [Rat.num_ofNat, Rat.den_ofNat] at z
    omega)
  rw [r_look_at_slack]
  simp only [B_look_at_slack, sSeq_ap, sIf_ap, bOf_ap, bAnd_ap, bOr_ap, bNot_ap, bYes_ap, fAnd_ap, fOr_ap, fNot_ap, fIf_ap, sPat_ap, pName_ap, pTup_ap, setAll, sSkip_ap, sRet_ap, sOwn_ap, sFrz_ap, frz, frz1, sApp_ap, sIns_ap, sDo_ap, fTup_ap, fLstN_ap, fList_ap, fCall_ap, fCons_ap, fNil_ap, f1_ap, f2_ap, fVar_ap, fC_ap, sFor_ap, List.foldl_cons, List.foldl_nil, List.set_cons_succ, List.set_cons_zero, List.getElem?_cons_zero, List.getElem?_cons_succ, Option.bind_some, fin_rt, fin_nx, Bool.not_true, Bool.not_false, wipeD, nought_fr, one_fr, int_0, int_1, int_2, int_3, int_4, int_8, int_12, len_list, len_tup, len_map, isi_list, isi_tup, isi_str, lt_nn, le_nn, gt_nn, ge_nn, eq_nn, ne_nn, add_nn, whole_n, List.length_map, decide_true, decide_false, leng0, leng1, leng2, leng3, leng4, if_true, if_false, eq_self, Nat.reduceEqDiff, Nat.reduceLT, Nat.reduceLeDiff, f_isfrac h.nn h.sz (by decide), fr_0, fr_1, lt_ii, e]
def ordA (bs : List (Rat × Rat)) (l : Rat) : List Nat := (turnR bs).filter fun o => decide (l ≤ lo bs o)
def wantA (bs : List (Rat × Rat)) (mk : Rat) : List Nat := (List.range bs.length).filter fun o => decide (mk < hi bs o)
def restA (os ws : List Nat) : List Nat := os.filter fun o => !decide (o ∈ ws)
def nearA (bs : List (Rat × Rat)) (c : Nat) (s l : Rat) : Option (List Nat) :=
  if (ordA bs l).length < c ∨ c < (wantA bs (s * l)).length then none
  else if 0 < (restA (wantA bs (s * l)) (ordA bs l)).length then none
  else some (sortN (wantA bs (s * l) ++ (restA (ordA bs l) (wantA bs (s * l))).take (c - (wantA bs (s * l)).length)))
theorem run_few {S s l mk : PyData} {c : Nat} {os ws xs rs : List Nat}
    (h1 : F_frac_times [s, l] = some mk)
    (h2 : fComp (dList (fCall F_in_turn (fCons (fVar 0) fNil))) (pName 8) (bNot (bOf (fCall F_frac_below (fCons (f2 ixD (f2 ixD (fVar 0) (fVar 8)) (fC (natD 0))) (fCons (fVar 3) fNil))))) (fVar 8) [8] [.val S, .val (natD c), .val s, .val l, .val mk, .no, .no, .no, .no] = some (os.map natD))
    (h3 : fComp (dRange1 (fCall lenD (fCons (fVar 0) fNil))) (pName 8) (bOf (fCall F_frac_below (fCons (fVar 4) (fCons (f2 ixD (f2 ixD (fVar 0) (fVar 8)) (fC (natD 1))) fNil)))) (fVar 8) [8] [.val S, .val (natD c), .val s, .val l, .val mk, .own (os.map natD), .no, .no, .no] = some (ws.map natD))
    (h4 : fComp (dVar 6) (pName 8) (bOf (f2 notInD (fVar 8) (fVar 5))) (fVar 8) [8] [.val S, .val (natD c), .val s, .val l, .val mk, .val (.list (os.map natD)), .val (.list (ws.map natD)), .no, .no] = some (xs.map natD))
    (h5 : fComp (dVar 5) (pName 8) (bOf (f2 notInD (fVar 8) (fVar 6))) (fVar 8) [8] [.val S, .val (natD c), .val s, .val l, .val mk, .val (.list (os.map natD)), .val (.list (ws.map natD)), .no, .no] = some (rs.map natD))
    (h6 : (ws ++ rs.take (c - ws.length)).length < 64) :
    F_few_above [S, natD c, s, l] = some (optT (if os.length < c ∨ c < ws.length then none else if 0 < xs.length then none else some (sortN (ws ++ rs.take (c - ws.length))))) := by
  rw [r_few_above]
  cases d1 : decide (os.length < c) with
  | true =>
    rw [if_pos (.inl (of_decide_eq_true d1))]
    simp only [B_few_above, sSeq_ap, sIf_ap, bOf_ap, bAnd_ap, bOr_ap, bNot_ap, bYes_ap, fAnd_ap, fOr_ap, fNot_ap, fIf_ap, sPat_ap, pName_ap, pTup_ap, setAll, sSkip_ap, sRet_ap, sOwn_ap, sFrz_ap, frz, frz1, sApp_ap, sIns_ap, sDo_ap, fTup_ap, fLstN_ap, fList_ap, fCall_ap, fCons_ap, fNil_ap, f1_ap, f2_ap, fVar_ap, fC_ap, sFor_ap, List.foldl_cons, List.foldl_nil, List.set_cons_succ, List.set_cons_zero, List.getElem?_cons_zero, List.getElem?_cons_succ, Option.bind_some, fin_rt, fin_nx, Bool.not_true, Bool.not_false, wipeD, nought_fr, one_fr, int_0, int_1, int_2, int_3, int_4, int_8, int_12, len_list, len_tup, len_map, isi_list, isi_tup, isi_str, lt_nn, le_nn, gt_nn, ge_nn, eq_nn, ne_nn, add_nn, whole_n, List.length_map, decide_true, decide_false, leng0, leng1, leng2, leng3, leng4, if_true, if_false, eq_self, Nat.reduceEqDiff, Nat.reduceLT, Nat.reduceLeDiff, h1, h2, h3, d1]
    rfl
  | false =>
    cases d2 : decide (c < ws.length) with
    | true =>
      rw [if_pos (.inr (of_decide_eq_true d2))]
      simp only [B_few_above, sSeq_ap, sIf_ap, bOf_ap, bAnd_ap, bOr_ap, bNot_ap, bYes_ap, fAnd_ap, fOr_ap, fNot_ap, fIf_ap, sPat_ap, pName_ap, pTup_ap, setAll, sSkip_ap, sRet_ap, sOwn_ap, sFrz_ap, frz, frz1, sApp_ap, sIns_ap, sDo_ap, fTup_ap, fLstN_ap, fList_ap, fCall_ap, fCons_ap, fNil_ap, f1_ap, f2_ap, fVar_ap, fC_ap, sFor_ap, List.foldl_cons, List.foldl_nil, List.set_cons_succ, List.set_cons_zero, List.getElem?_cons_zero, List.getElem?_cons_succ, Option.bind_some, fin_rt, fin_nx, Bool.not_true, Bool.not_false, wipeD, nought_fr, one_fr, int_0, int_1, int_2, int_3, int_4, int_8, int_12, len_list, len_tup, len_map, isi_list, isi_tup, isi_str, lt_nn, le_nn, gt_nn, ge_nn, eq_nn, ne_nn, add_nn, whole_n, List.length_map, decide_true, decide_false, leng0, leng1, leng2, leng3, leng4, if_true, if_false, eq_self, Nat.reduceEqDiff, Nat.reduceLT, Nat.reduceLeDiff, h1, h2, h3, d1, d2]
      rfl
    | false =>
      have n1 := of_decide_eq_false d1
      have n2 := of_decide_eq_false d2
      rw [if_neg (fun z => z.elim n1 n2)]
      cases d3 : decide (0 < xs.length) with
      | true =>
        rw [if_pos (of_decide_eq_true d3)]
        simp only [B_few_above, sSeq_ap, sIf_ap, bOf_ap, bAnd_ap, bOr_ap, bNot_ap, bYes_ap, fAnd_ap, fOr_ap, fNot_ap, fIf_ap, sPat_ap, pName_ap, pTup_ap, setAll, sSkip_ap, sRet_ap, sOwn_ap, sFrz_ap, frz, frz1, sApp_ap, sIns_ap, sDo_ap, fTup_ap, fLstN_ap, fList_ap, fCall_ap, fCons_ap, fNil_ap, f1_ap, f2_ap, fVar_ap, fC_ap, sFor_ap, List.foldl_cons, List.foldl_nil, List.set_cons_succ, List.set_cons_zero, List.getElem?_cons_zero, List.getElem?_cons_succ, Option.bind_some, fin_rt, fin_nx, Bool.not_true, Bool.not_false, wipeD, nought_fr, one_fr, int_0, int_1, int_2, int_3, int_4, int_8, int_12, len_list, len_tup, len_map, isi_list, isi_tup, isi_str, lt_nn, le_nn, gt_nn, ge_nn, eq_nn, ne_nn, add_nn, whole_n, List.length_map, decide_true, decide_false, leng0, leng1, leng2, leng3, leng4, if_true, if_false, eq_self, Nat.reduceEqDiff, Nat.reduceLT, Nat.reduceLeDiff, h1, h2, h3, d1, d2, h4, d3]
        rfl
      | false =>
        rw [if_neg (of_decide_eq_false d3)]
        have e1 : subD (natD c) (natD ws.length) = some (natD (c - ws.length)) := sub_nn (by omega)
        have e2 : toD (.list (rs.map natD)) (natD (c - ws.length)) = some (.list ((rs.take (c - ws.length)).map natD)) := to_map _ _ _
        have e3 : addD (.list (ws.map natD)) (.list ((rs.take (c - ws.length)).map natD)) = some (natsD (ws ++ rs.take (c - ws.length))) := by
          rw [List.length_append] at h6
          show (if (ws.map natD).length + ((rs.take (c - ws.length)).map natD).length ≤ 1000 then some (PyData.list (ws.map natD ++ (rs.take (c - ws.length)).map natD)) else none) = _
          rw [if_pos (by rw [List.length_map, List.length_map]; omega), ← List.map_append]
          rfl
        have e4 := f_sorted h6
        simp only [B_few_above, sSeq_ap, sIf_ap, bOf_ap, bAnd_ap, bOr_ap, bNot_ap, bYes_ap, fAnd_ap, fOr_ap, fNot_ap, fIf_ap, sPat_ap, pName_ap, pTup_ap, setAll, sSkip_ap, sRet_ap, sOwn_ap, sFrz_ap, frz, frz1, sApp_ap, sIns_ap, sDo_ap, fTup_ap, fLstN_ap, fList_ap, fCall_ap, fCons_ap, fNil_ap, f1_ap, f2_ap, fVar_ap, fC_ap, sFor_ap, List.foldl_cons, List.foldl_nil, List.set_cons_succ, List.set_cons_zero, List.getElem?_cons_zero, List.getElem?_cons_succ, Option.bind_some, fin_rt, fin_nx, Bool.not_true, Bool.not_false, wipeD, nought_fr, one_fr, int_0, int_1, int_2, int_3, int_4, int_8, int_12, len_list, len_tup, len_map, isi_list, isi_tup, isi_str, lt_nn, le_nn, gt_nn, ge_nn, eq_nn, ne_nn, add_nn, whole_n, List.length_map, decide_true, decide_false, leng0, leng1, leng2, leng3, leng4, if_true, if_false, eq_self, Nat.reduceEqDiff, Nat.reduceLT, Nat.reduceLeDiff, h1, h2, h3, d1, d2, h4, d3, h5, e1, e2, e3, e4]
        rfl
theorem few_t1 {S l B x o : PyData} {a1 a2 a4 a5 a6 a7 : DV} {b : Bool} (h1 : ixD S o = some B) (h2 : ixD B (natD 0) = some x) (h3 : F_frac_below [x, l] = some (.bool b)) :
    (bNot (bOf (fCall F_frac_below (fCons (f2 ixD (f2 ixD (fVar 0) (fVar 8)) (fC (natD 0))) (fCons (fVar 3) fNil))))) [.val S, a1, a2, .val l, a4, a5, a6, a7, .val o] = some (!b) := by
  simp only [sSeq_ap, sIf_ap, bOf_ap, bAnd_ap, bOr_ap, bNot_ap, bYes_ap, fAnd_ap, fOr_ap, fNot_ap, fIf_ap, sPat_ap, pName_ap, pTup_ap, setAll, sSkip_ap, sRet_ap, sOwn_ap, sFrz_ap, frz, frz1, sApp_ap, sIns_ap, sDo_ap, fTup_ap, fLstN_ap, fList_ap, fCall_ap, fCons_ap, fNil_ap, f1_ap, f2_ap, fVar_ap, fC_ap, sFor_ap, List.foldl_cons, List.foldl_nil, List.set_cons_succ, List.set_cons_zero, List.getElem?_cons_zero, List.getElem?_cons_succ, Option.bind_some, fin_rt, fin_nx, Bool.not_true, Bool.not_false, wipeD, nought_fr, one_fr, int_0, int_1, int_2, int_3, int_4, int_8, int_12, len_list, len_tup, len_map, isi_list, isi_tup, isi_str, lt_nn, le_nn, gt_nn, ge_nn, eq_nn, ne_nn, add_nn, whole_n, List.length_map, decide_true, decide_false, leng0, leng1, leng2, leng3, leng4, if_true, if_false, eq_self, Nat.reduceEqDiff, Nat.reduceLT, Nat.reduceLeDiff, h1, h2, h3]
theorem few_t2 {S l B x o : PyData} {a1 a2 a3 a5 a6 a7 : DV} {b : Bool} (h1 : ixD S o = some B) (h2 : ixD B (natD 1) = some x) (h3 : F_frac_below [l, x] = some (.bool b)) :
    (bOf (fCall F_frac_below (fCons (fVar 4) (fCons (f2 ixD (f2 ixD (fVar 0) (fVar 8)) (fC (natD 1))) fNil)))) [.val S, a1, a2, a3, .val l, a5, a6, a7, .val o] = some b := by
  simp only [sSeq_ap, sIf_ap, bOf_ap, bAnd_ap, bOr_ap, bNot_ap, bYes_ap, fAnd_ap, fOr_ap, fNot_ap, fIf_ap, sPat_ap, pName_ap, pTup_ap, setAll, sSkip_ap, sRet_ap, sOwn_ap, sFrz_ap, frz, frz1, sApp_ap, sIns_ap, sDo_ap, fTup_ap, fLstN_ap, fList_ap, fCall_ap, fCons_ap, fNil_ap, f1_ap, f2_ap, fVar_ap, fC_ap, sFor_ap, List.foldl_cons, List.foldl_nil, List.set_cons_succ, List.set_cons_zero, List.getElem?_cons_zero, List.getElem?_cons_succ, Option.bind_some, fin_rt, fin_nx, Bool.not_true, Bool.not_false, wipeD, nought_fr, one_fr, int_0, int_1, int_2, int_3, int_4, int_8, int_12, len_list, len_tup, len_map, isi_list, isi_tup, isi_str, lt_nn, le_nn, gt_nn, ge_nn, eq_nn, ne_nn, add_nn, whole_n, List.length_map, decide_true, decide_false, leng0, leng1, leng2, leng3, leng4, if_true, if_false, eq_self, Nat.reduceEqDiff, Nat.reduceLT, Nat.reduceLeDiff, h1, h2, h3]
theorem few_t3 {S o : PyData} {a0 a1 a2 a3 a4 a6 a7 : DV} {b : Bool} (h1 : notInD o S = some (.bool b)) :
    (bOf (f2 notInD (fVar 8) (fVar 5))) [a0, a1, a2, a3, a4, .val S, a6, a7, .val o] = some b := by
  simp only [sSeq_ap, sIf_ap, bOf_ap, bAnd_ap, bOr_ap, bNot_ap, bYes_ap, fAnd_ap, fOr_ap, fNot_ap, fIf_ap, sPat_ap, pName_ap, pTup_ap, setAll, sSkip_ap, sRet_ap, sOwn_ap, sFrz_ap, frz, frz1, sApp_ap, sIns_ap, sDo_ap, fTup_ap, fLstN_ap, fList_ap, fCall_ap, fCons_ap, fNil_ap, f1_ap, f2_ap, fVar_ap, fC_ap, sFor_ap, List.foldl_cons, List.foldl_nil, List.set_cons_succ, List.set_cons_zero, List.getElem?_cons_zero, List.getElem?_cons_succ, Option.bind_some, fin_rt, fin_nx, Bool.not_true, Bool.not_false, wipeD, nought_fr, one_fr, int_0, int_1, int_2, int_3, int_4, int_8, int_12, len_list, len_tup, len_map, isi_list, isi_tup, isi_str, lt_nn, le_nn, gt_nn, ge_nn, eq_nn, ne_nn, add_nn, whole_n, List.length_map, decide_true, decide_false, leng0, leng1, leng2, leng3, leng4, if_true, if_false, eq_self, Nat.reduceEqDiff, Nat.reduceLT, Nat.reduceLeDiff, h1]
theorem few_t4 {S o : PyData} {a0 a1 a2 a3 a4 a5 a7 : DV} {b : Bool} (h1 : notInD o S = some (.bool b)) :
    (bOf (f2 notInD (fVar 8) (fVar 6))) [a0, a1, a2, a3, a4, a5, .val S, a7, .val o] = some b := by
  simp only [sSeq_ap, sIf_ap, bOf_ap, bAnd_ap, bOr_ap, bNot_ap, bYes_ap, fAnd_ap, fOr_ap, fNot_ap, fIf_ap, sPat_ap, pName_ap, pTup_ap, setAll, sSkip_ap, sRet_ap, sOwn_ap, sFrz_ap, frz, frz1, sApp_ap, sIns_ap, sDo_ap, fTup_ap, fLstN_ap, fList_ap, fCall_ap, fCons_ap, fNil_ap, f1_ap, f2_ap, fVar_ap, fC_ap, sFor_ap, List.foldl_cons, List.foldl_nil, List.set_cons_succ, List.set_cons_zero, List.getElem?_cons_zero, List.getElem?_cons_succ, Option.bind_some, fin_rt, fin_nx, Bool.not_true, Bool.not_false, wipeD, nought_fr, one_fr, int_0, int_1, int_2, int_3, int_4, int_8, int_12, len_list, len_tup, len_map, isi_list, isi_tup, isi_str, lt_nn, le_nn, gt_nn, ge_nn, eq_nn, ne_nn, add_nn, whole_n, List.length_map, decide_true, decide_false, leng0, leng1, leng2, leng3, leng4, if_true, if_false, eq_self, Nat.reduceEqDiff, Nat.reduceLT, Nat.reduceLeDiff, h1]
theorem run_itn {S : PyData} {ts : List PyData} {a1 a2 a3 a4 a5 a6 a7 a8 : DV} (h : F_in_turn [S] = some (.list ts)) : dList (fCall F_in_turn (fCons (fVar 0) fNil)) [.val S, a1, a2, a3, a4, a5, a6, a7, a8] = some ts := by
  simp only [dList_ap, sSeq_ap, sIf_ap, bOf_ap, bAnd_ap, bOr_ap, bNot_ap, bYes_ap, fAnd_ap, fOr_ap, fNot_ap, fIf_ap, sPat_ap, pName_ap, pTup_ap, setAll, sSkip_ap, sRet_ap, sOwn_ap, sFrz_ap, frz, frz1, sApp_ap, sIns_ap, sDo_ap, fTup_ap, fLstN_ap, fList_ap, fCall_ap, fCons_ap, fNil_ap, f1_ap, f2_ap, fVar_ap, fC_ap, sFor_ap, List.foldl_cons, List.foldl_nil, List.set_cons_succ, List.set_cons_zero, List.getElem?_cons_zero, List.getElem?_cons_succ, Option.bind_some, fin_rt, fin_nx, Bool.not_true, Bool.not_false, wipeD, nought_fr, one_fr, int_0, int_1, int_2, int_3, int_4, int_8, int_12, len_list, len_tup, len_map, isi_list, isi_tup, isi_str, lt_nn, le_nn, gt_nn, ge_nn, eq_nn, ne_nn, add_nn, whole_n, List.length_map, decide_true, decide_false, leng0, leng1, leng2, leng3, leng4, if_true, if_false, eq_self, Nat.reduceEqDiff, Nat.reduceLT, Nat.reduceLeDiff, h]
theorem run_itn5 {S : PyData} {ts : List PyData} {a0 a1 a2 a3 a4 a6 a7 : DV} (h : F_in_turn [S] = some (.list ts)) : dList (fCall F_in_turn (fCons (fVar 5) fNil)) [a0, a1, a2, a3, a4, .val S, a6, a7] = some ts := by
  simp only [dList_ap, sSeq_ap, sIf_ap, bOf_ap, bAnd_ap, bOr_ap, bNot_ap, bYes_ap, fAnd_ap, fOr_ap, fNot_ap, fIf_ap, sPat_ap, pName_ap, pTup_ap, setAll, sSkip_ap, sRet_ap, sOwn_ap, sFrz_ap, frz, frz1, sApp_ap, sIns_ap, sDo_ap, fTup_ap, fLstN_ap, fList_ap, fCall_ap, fCons_ap, fNil_ap, f1_ap, f2_ap, fVar_ap, fC_ap, sFor_ap, List.foldl_cons, List.foldl_nil, List.set_cons_succ, List.set_cons_zero, List.getElem?_cons_zero, List.getElem?_cons_succ, Option.bind_some, fin_rt, fin_nx, Bool.not_true, Bool.not_false, wipeD, nought_fr, one_fr, int_0, int_1, int_2, int_3, int_4, int_8, int_12, len_list, len_tup, len_map, isi_list, isi_tup, isi_str, lt_nn, le_nn, gt_nn, ge_nn, eq_nn, ne_nn, add_nn, whole_n, List.length_map, decide_true, decide_false, leng0, leng1, leng2, leng3, leng4, if_true, if_false, eq_self, Nat.reduceEqDiff, Nat.reduceLT, Nat.reduceLeDiff, h]
theorem run_len {S : PyData} {n : Nat} {a : DEnv} (h : lenD [S] = some (natD n)) : (fCall lenD (fCons (fVar 0) fNil)) (.val S :: a) = some (natD n) := by
  simp only [sSeq_ap, sIf_ap, bOf_ap, bAnd_ap, bOr_ap, bNot_ap, bYes_ap, fAnd_ap, fOr_ap, fNot_ap, fIf_ap, sPat_ap, pName_ap, pTup_ap, setAll, sSkip_ap, sRet_ap, sOwn_ap, sFrz_ap, frz, frz1, sApp_ap, sIns_ap, sDo_ap, fTup_ap, fLstN_ap, fList_ap, fCall_ap, fCons_ap, fNil_ap, f1_ap, f2_ap, fVar_ap, fC_ap, sFor_ap, List.foldl_cons, List.foldl_nil, List.set_cons_succ, List.set_cons_zero, List.getElem?_cons_zero, List.getElem?_cons_succ, Option.bind_some, fin_rt, fin_nx, Bool.not_true, Bool.not_false, wipeD, nought_fr, one_fr, int_0, int_1, int_2, int_3, int_4, int_8, int_12, len_list, len_tup, len_map, isi_list, isi_tup, isi_str, lt_nn, le_nn, gt_nn, ge_nn, eq_nn, ne_nn, add_nn, whole_n, List.length_map, decide_true, decide_false, leng0, leng1, leng2, leng3, leng4, if_true, if_false, eq_self, Nat.reduceEqDiff, Nat.reduceLT, Nat.reduceLeDiff, h]
theorem f_few {m c : Nat} {bs : List (Rat × Rat)} {s l : Rat} (h : Bds m bs) (hs : Slk s) (hl : Bo l) (hc : c ≤ m) : F_few_above [bndsD bs, natD c, frR s, frR l] = some (optT (nearA bs c s l)) := by
  have m2 := h.m2
  obtain ⟨t1, t2⟩ := f_times hs.nn hl.nn hs.sz hl.sz (by decide) (by decide)
  have tl : (turnR bs).length ≤ 12 := by rw [turn_len, h.len]; exact m2
  have ol : (ordA bs l).length ≤ 12 := Nat.le_trans (List.length_filter_le _ _) tl
  have wl : (wantA bs (s * l)).length ≤ 12 := Nat.le_trans (List.length_filter_le _ _) (by rw [List.length_range, h.len]; exact m2)
  have rl : ∀ os ws : List Nat, (restA os ws).length ≤ os.length := fun os ws => List.length_filter_le _ _
  have e1 := dRange_ap (fCall lenD (fCons (fVar 0) fNil)) [.val (bndsD bs), .val (natD c), .val (frR s), .val (frR l), .val (frR (s * l)), .own ((ordA bs l).map natD), .no, .no, .no] (n := m) (run_len (by rw [len_bnds, h.len])) (by omega)
  have w : wantA bs (s * l) = (List.range m).filter fun o => decide (s * l < hi bs o) := by unfold wantA; rw [h.len]
  refine run_few (os := ordA bs l) (ws := wantA bs (s * l)) (xs := restA (wantA bs (s * l)) (ordA bs l)) (rs := restA (ordA bs l) (wantA bs (s * l))) t1 ?_ ?_ ?_ ?_ ?_
  · refine comp_keep (enc := natD) _ _ (turnR bs) (run_itn (f_turn h)) (by omega) fun o ho => ⟨_, rfl, ?_, fun _ => rfl⟩
    have om : o < m := by rw [← h.len]; exact turn_mem.mp ho
    exact (few_t1 (h.ix om) (bnd_0 _) ((h.lo om).below hl)).trans (congrArg some (not_lt_dec _ _))
  · rw [w]
    refine comp_keep (enc := natD) _ _ (List.range m) e1 (by rw [List.length_range]; omega) fun o ho => ⟨_, rfl, ?_, fun _ => rfl⟩
    have om : o < m := List.mem_range.mp ho
    exact few_t2 (h.ix om) (bnd_1 _) (f_below t2 (h.hi om).sz (by decide) (by decide))
  · exact comp_keep (enc := natD) _ _ (wantA bs (s * l)) rfl (by omega) fun o ho => ⟨_, rfl, few_t3 (notin_n _ _), fun _ => rfl⟩
  · exact comp_keep (enc := natD) _ _ (ordA bs l) rfl (by omega) fun o ho => ⟨_, rfl, few_t4 (notin_n _ _), fun _ => rfl⟩
  · rw [List.length_append, List.length_take]
    have := rl (ordA bs l) (wantA bs (s * l))
    omega
def nearR (bs : List (Rat × Rat)) (c : Nat) (s : Rat) : Option (List Nat) := if c = 0 then some [] else (turnR bs).findSome? fun t => nearA bs c s (lo bs t)
theorem near_none {S s : PyData} {a0 a1 a3 x7 : DV} {c t : Nat} {p : Rat × Rat} (h1 : ixD S (natD t) = some (bndD p)) (h2 : F_few_above [S, natD c, s, frR p.1] = some (optT none)) :
    B_near_few_1 [a0, a1, .val (natD c), a3, .val s, .val S, .val (natD t), x7] = some (.nx [a0, a1, .val (natD c), a3, .val s, .val S, .val (natD t), .val .none]) := by
  have e : notNoneD (optT none) = some (.bool false) := rfl
  simp only [B_near_few_1, sSeq_ap, sIf_ap, bOf_ap, bAnd_ap, bOr_ap, bNot_ap, bYes_ap, fAnd_ap, fOr_ap, fNot_ap, fIf_ap, sPat_ap, pName_ap, pTup_ap, setAll, sSkip_ap, sRet_ap, sOwn_ap, sFrz_ap, frz, frz1, sApp_ap, sIns_ap, sDo_ap, fTup_ap, fLstN_ap, fList_ap, fCall_ap, fCons_ap, fNil_ap, f1_ap, f2_ap, fVar_ap, fC_ap, sFor_ap, List.foldl_cons, List.foldl_nil, List.set_cons_succ, List.set_cons_zero, List.getElem?_cons_zero, List.getElem?_cons_succ, Option.bind_some, fin_rt, fin_nx, Bool.not_true, Bool.not_false, wipeD, nought_fr, one_fr, int_0, int_1, int_2, int_3, int_4, int_8, int_12, len_list, len_tup, len_map, isi_list, isi_tup, isi_str, lt_nn, le_nn, gt_nn, ge_nn, eq_nn, ne_nn, add_nn, whole_n, List.length_map, decide_true, decide_false, leng0, leng1, leng2, leng3, leng4, if_true, if_false, eq_self, Nat.reduceEqDiff, Nat.reduceLT, Nat.reduceLeDiff, h1, bnd_0, h2, e]
  rfl
theorem near_some {S s : PyData} {a0 a1 a3 x7 : DV} {c t : Nat} {p : Rat × Rat} {T : List Nat} (h1 : ixD S (natD t) = some (bndD p)) (h2 : F_few_above [S, natD c, s, frR p.1] = some (optT (some T))) :
    B_near_few_1 [a0, a1, .val (natD c), a3, .val s, .val S, .val (natD t), x7] = some (.rt (natsD T)) := by
  have e : notNoneD (optT (some T)) = some (.bool true) := rfl
  simp only [B_near_few_1, sSeq_ap, sIf_ap, bOf_ap, bAnd_ap, bOr_ap, bNot_ap, bYes_ap, fAnd_ap, fOr_ap, fNot_ap, fIf_ap, sPat_ap, pName_ap, pTup_ap, setAll, sSkip_ap, sRet_ap, sOwn_ap, sFrz_ap, frz, frz1, sApp_ap, sIns_ap, sDo_ap, fTup_ap, fLstN_ap, fList_ap, fCall_ap, fCons_ap, fNil_ap, f1_ap, f2_ap, fVar_ap, fC_ap, sFor_ap, List.foldl_cons, List.foldl_nil, List.set_cons_succ, List.set_cons_zero, List.getElem?_cons_zero, List.getElem?_cons_succ, Option.bind_some, fin_rt, fin_nx, Bool.not_true, Bool.not_false, wipeD, nought_fr, one_fr, int_0, int_1, int_2, int_3, int_4, int_8, int_12, len_list, len_tup, len_map, isi_list, isi_tup, isi_str, lt_nn, le_nn, gt_nn, ge_nn, eq_nn, ne_nn, add_nn, whole_n, List.length_map, decide_true, decide_false, leng0, leng1, leng2, leng3, leng4, if_true, if_false, eq_self, Nat.reduceEqDiff, Nat.reduceLT, Nat.reduceLeDiff, h1, bnd_0, h2, e]
  rfl
theorem run_near {b r l s n S x1 x2 x3 x4 x5 : PyData} {c : Nat} {ds : List PyData} {o : Option (List Nat)} (h1 : F_look_at_book [b] = some x1) (h2 : lenD [b] = some n) (h3 : F_look_at_rule [r, n] = some x2) (h4 : F_look_at_count [b, natD c] = some x3) (h5 : F_look_at_looks [b, l] = some x4) (h6 : F_look_at_slack [s] = some x5)
    (h7 : F_bounds_of [b, r, l] = some S) (h8 : dList (fCall F_in_turn (fCons (fVar 5) fNil)) [.val b, .val r, .val (natD c), .val l, .val s, .val S, .no, .no] = some ds)
    (h9 : match o with
      | some T => forD (pName 6) B_near_few_1 ds [.val b, .val r, .val (natD c), .val l, .val s, .val S, .no, .no] = some (.rt (natsD T))
      | none => ∃ δ', forD (pName 6) B_near_few_1 ds [.val b, .val r, .val (natD c), .val l, .val s, .val S, .no, .no] = some (.nx δ')) :
    F_near_few [b, r, natD c, l, s] = some (optT (if c = 0 then some [] else o)) := by
  rw [r_near_few]
  cases d : decide (c = 0) with
  | true =>
    rw [if_pos (of_decide_eq_true d)]
    simp only [B_near_few, sSeq_ap, sIf_ap, bOf_ap, bAnd_ap, bOr_ap, bNot_ap, bYes_ap, fAnd_ap, fOr_ap, fNot_ap, fIf_ap, sPat_ap, pName_ap, pTup_ap, setAll, sSkip_ap, sRet_ap, sOwn_ap, sFrz_ap, frz, frz1, sApp_ap, sIns_ap, sDo_ap, fTup_ap, fLstN_ap, fList_ap, fCall_ap, fCons_ap, fNil_ap, f1_ap, f2_ap, fVar_ap, fC_ap, sFor_ap, List.foldl_cons, List.foldl_nil, List.set_cons_succ, List.set_cons_zero, List.getElem?_cons_zero, List.getElem?_cons_succ, Option.bind_some, fin_rt, fin_nx, Bool.not_true, Bool.not_false, wipeD, nought_fr, one_fr, int_0, int_1, int_2, int_3, int_4, int_8, int_12, len_list, len_tup, len_map, isi_list, isi_tup, isi_str, lt_nn, le_nn, gt_nn, ge_nn, eq_nn, ne_nn, add_nn, whole_n, List.length_map, decide_true, decide_false, leng0, leng1, leng2, leng3, leng4, if_true, if_false, eq_self, Nat.reduceEqDiff, Nat.reduceLT, Nat.reduceLeDiff, h1, h2, h3, h4, h5, h6, d]
    rfl
  | false =>
    rw [if_neg (of_decide_eq_false d)]
    cases o with
    | some T =>
      simp only at h9
      simp only [B_near_few, sSeq_ap, sIf_ap, bOf_ap, bAnd_ap, bOr_ap, bNot_ap, bYes_ap, fAnd_ap, fOr_ap, fNot_ap, fIf_ap, sPat_ap, pName_ap, pTup_ap, setAll, sSkip_ap, sRet_ap, sOwn_ap, sFrz_ap, frz, frz1, sApp_ap, sIns_ap, sDo_ap, fTup_ap, fLstN_ap, fList_ap, fCall_ap, fCons_ap, fNil_ap, f1_ap, f2_ap, fVar_ap, fC_ap, sFor_ap, List.foldl_cons, List.foldl_nil, List.set_cons_succ, List.set_cons_zero, List.getElem?_cons_zero, List.getElem?_cons_succ, Option.bind_some, fin_rt, fin_nx, Bool.not_true, Bool.not_false, wipeD, nought_fr, one_fr, int_0, int_1, int_2, int_3, int_4, int_8, int_12, len_list, len_tup, len_map, isi_list, isi_tup, isi_str, lt_nn, le_nn, gt_nn, ge_nn, eq_nn, ne_nn, add_nn, whole_n, List.length_map, decide_true, decide_false, leng0, leng1, leng2, leng3, leng4, if_true, if_false, eq_self, Nat.reduceEqDiff, Nat.reduceLT, Nat.reduceLeDiff, h1, h2, h3, h4, h5, h6, d, h7, h8, h9]
      rfl
    | none =>
      obtain ⟨δ', h9⟩ := h9
      simp only [B_near_few, sSeq_ap, sIf_ap, bOf_ap, bAnd_ap, bOr_ap, bNot_ap, bYes_ap, fAnd_ap, fOr_ap, fNot_ap, fIf_ap, sPat_ap, pName_ap, pTup_ap, setAll, sSkip_ap, sRet_ap, sOwn_ap, sFrz_ap, frz, frz1, sApp_ap, sIns_ap, sDo_ap, fTup_ap, fLstN_ap, fList_ap, fCall_ap, fCons_ap, fNil_ap, f1_ap, f2_ap, fVar_ap, fC_ap, sFor_ap, List.foldl_cons, List.foldl_nil, List.set_cons_succ, List.set_cons_zero, List.getElem?_cons_zero, List.getElem?_cons_succ, Option.bind_some, fin_rt, fin_nx, Bool.not_true, Bool.not_false, wipeD, nought_fr, one_fr, int_0, int_1, int_2, int_3, int_4, int_8, int_12, len_list, len_tup, len_map, isi_list, isi_tup, isi_str, lt_nn, le_nn, gt_nn, ge_nn, eq_nn, ne_nn, add_nn, whole_n, List.length_map, decide_true, decide_false, leng0, leng1, leng2, leng3, leng4, if_true, if_false, eq_self, Nat.reduceEqDiff, Nat.reduceLT, Nat.reduceLeDiff, h1, h2, h3, h4, h5, h6, d, h7, h8, h9]
      rfl
theorem f_near {m c : Nat} {b : List (List Rat)} {r : Rule} {ds : List Nat} {as : List (Nat × Nat)} {s : Rat} (h : Bok m b) (hr : Rok b.length r) (hl : Lok b.length m ds as) (hc : c ≤ m) (hs : Slk s) :
    F_near_few [bookD b, ruleD r, natD c, looksD ds as, frR s] = some (optT (nearR (bbR b r ds as m) c s)) := by
  have hb := bds_of h hr hl.dn as
  have e2 := run_itn5 (a0 := .val (bookD b)) (a1 := .val (ruleD r)) (a2 := .val (natD c)) (a3 := .val (looksD ds as)) (a4 := .val (frR s)) (a6 := .no) (a7 := .no) (f_turn hb)
  have fnd := for_find (enc := natD) (p := pName 6) (body := B_near_few_1) (fun δ => ∃ x6 x7, δ = [.val (bookD b), .val (ruleD r), .val (natD c), .val (looksD ds as), .val (frR s), .val (bndsD (bbR b r ds as m)), x6, x7])
    (fun t => (nearA (bbR b r ds as m) c s (lo (bbR b r ds as m) t)).map natsD) (turnR (bbR b r ds as m)) [.val (bookD b), .val (ruleD r), .val (natD c), .val (looksD ds as), .val (frR s), .val (bndsD (bbR b r ds as m)), .no, .no] ⟨_, _, rfl⟩ (by
      rintro t δ ht ⟨x6, x7, rfl⟩
      have tm : t < m := by rw [← hb.len]; exact turn_mem.mp ht
      refine ⟨_, rfl, ?_⟩
      have g := f_few hb hs (hb.lo tm) hc
      cases q : nearA (bbR b r ds as m) c s (lo (bbR b r ds as m) t) with
      | some T =>
        rw [q] at g
        exact near_some (hb.ix tm) g
      | none =>
        rw [q] at g
        exact ⟨_, near_none (hb.ix tm) g, _, _, rfl⟩)
  have key : ∀ xs : List Nat, xs.findSome? (fun t => (nearA (bbR b r ds as m) c s (lo (bbR b r ds as m) t)).map natsD) = (xs.findSome? fun t => nearA (bbR b r ds as m) c s (lo (bbR b r ds as m) t)).map natsD := by
    intro xs
    induction xs with
    | nil => rfl
    | cons x r' ih =>
      rw [List.findSome?_cons, List.findSome?_cons]
      cases nearA (bbR b r ds as m) c s (lo (bbR b r ds as m) x) with
      | none => exact ih
      | some T => rfl
  rw [key] at fnd
  unfold nearR
  refine run_near (f_look_at_book h) (len_book b) (f_look_at_rule hr h.n2) (f_look_at_count h hc) (f_look_at_looks h hl) (f_slack hs) (f_bounds_of h hr hl.dn) e2 ?_
  cases q : (turnR (bbR b r ds as m)).findSome? fun t => nearA (bbR b r ds as m) c s (lo (bbR b r ds as m) t) with
  | some T =>
    rw [q] at fnd
    exact fnd
  | none =>
    rw [q] at fnd
    obtain ⟨δ', h1, _⟩ := fnd
    exact ⟨δ', h1⟩
end DL

set_option Elab.async false
set_option linter.all false
set_option maxRecDepth 100000
set_option maxHeartbeats 4000000
set_option exponentiation.threshold 3000
/-! Eq9: what the law draws. -/
namespace DL
open PySem
def cellI (c k : Int) : Int :=
  if 1000000000000000000 ≤ c then (c - 1000000000000000000) % 1000000000000000000000000000000000000000000000000000000000000
  else
    (((c * 48271 + k * 69621 + 11) % 2147483629) * ((c * 48271 + k * 69621 + 11) % 2147483629) % 2147483587) * 2147483563 +
      (((c * 48271 + k * 69621 + 11) % 2147483629) * ((c * 48271 + k * 69621 + 11) % 2147483629) % 2147483587) * (((c * 48271 + k * 69621 + 11) % 2147483629) * ((c * 48271 + k * 69621 + 11) % 2147483629) % 2147483587) % 2147483563
theorem pow18 : powD (.int 10) (.int 18) = some (.int 1000000000000000000) := by kernel_rfl
theorem pow60 : powD (.int 10) (.int 60) = some (.int 1000000000000000000000000000000000000000000000000000000000000) := by kernel_rfl
theorem pow12 : powD (.int 10) (natD 12) = some (.int 1000000000000) := by kernel_rfl
theorem mul_r {i j : Int} (h : j.natAbs < 2 ^ 60) : mulD (.int i) (.int j) = some (.int (i * j)) := mul_ii (.inr (.inl h))
theorem run_cell {S k : PyData} {c kk : Int} {o : PyData} {b : Bool} (hk : k = .int kk) (h1 : (fCall lenD (fCons (fVar 0) fNil)) [.val S, .val k, .val (natD 0), .no] = some o) (h2 : ltD k o = some (.bool b)) (h3 : (b = true ∧ ixD S k = some (.int c)) ∨ (b = false ∧ c = 0)) : F_law_cell [S, k] = some (.int (cellI c kk)) := by
  have z : natD 0 = .int 0 := rfl
  rw [r_law_cell]
  unfold cellI
  have m1 : mulD (.int c) (.int 48271) = some (.int (c * 48271)) := mul_r (by decide)
  have m2 : mulD (.int kk) (.int 69621) = some (.int (kk * 69621)) := mul_r (by decide)
  have m3 : modD (.int (c * 48271 + kk * 69621 + 11)) (.int 2147483629) = some (.int ((c * 48271 + kk * 69621 + 11) % 2147483629)) := mod_ii (by decide)
  have r3 : 0 ≤ (c * 48271 + kk * 69621 + 11) % 2147483629 ∧ (c * 48271 + kk * 69621 + 11) % 2147483629 < 2147483629 := ⟨by omega, by omega⟩
  generalize (c * 48271 + kk * 69621 + 11) % 2147483629 = x at m3 r3 ⊢
  have m4 : mulD (.int x) (.int x) = some (.int (x * x)) := mul_r (by omega)
  have m5 : modD (.int (x * x)) (.int 2147483587) = some (.int ((x * x) % 2147483587)) := mod_ii (by decide)
  have r5 : 0 ≤ (x * x) % 2147483587 ∧ (x * x) % 2147483587 < 2147483587 := ⟨by omega, by omega⟩
  generalize (x * x) % 2147483587 = y at m5 r5 ⊢
  have m6 : mulD (.int y) (.int y) = some (.int (y * y)) := mul_r (by omega)
  have m7 : mulD (.int y) (.int 2147483563) = some (.int (y * 2147483563)) := mul_r (by decide)
  have m8 : modD (.int (y * y)) (.int 2147483563) = some (.int ((y * y) % 2147483563)) := mod_ii (by decide)
  have m9 : modD (.int (c - 1000000000000000000)) (.int 1000000000000000000000000000000000000000000000000000000000000) = some (.int ((c - 1000000000000000000) % 1000000000000000000000000000000000000000000000000000000000000)) := mod_ii (by decide)
  subst hk
  rw [fCall_ap, fCons_ap, fNil_ap, fVar_ap] at h1
  simp only [List.getElem?_cons_zero, Option.bind_some] at h1
  have key : ∀ cd : PyData, cd = .int c → (b = true ∧ ixD S (.int kk) = some cd) ∨ (b = false ∧ cd = natD 0) → (B_law_cell [.val S, .val (.int kk), .no, .no]).bind fin = some (.int (if 1000000000000000000 ≤ c then (c - 1000000000000000000) % 1000000000000000000000000000000000000000000000000000000000000 else y * 2147483563 + y * y % 2147483563)) := by
    intro cd hc h
    cases d : decide (1000000000000000000 ≤ c) with
    | true =>
      rw [if_pos (of_decide_eq_true d)]
      have g : geD cd (.int 1000000000000000000) = some (.bool true) := by rw [hc, ge_ii, d]
      have s : subD cd (.int 1000000000000000000) = some (.int (c - 1000000000000000000)) := by rw [hc]; rfl
      rcases h with ⟨rfl, h⟩ | ⟨rfl, h⟩
      · simp only [B_law_cell, sSeq_ap, sIf_ap, bOf_ap, bAnd_ap, bOr_ap, bNot_ap, bYes_ap, fAnd_ap, fOr_ap, fNot_ap, fIf_ap, sPat_ap, pName_ap, pTup_ap, setAll, sSkip_ap, sRet_ap, sOwn_ap, sFrz_ap, frz, frz1, sApp_ap, sIns_ap, sDo_ap, fTup_ap, fLstN_ap, fList_ap, fCall_ap, fCons_ap, fNil_ap, f1_ap, f2_ap, fVar_ap, fC_ap, sFor_ap, List.foldl_cons, List.foldl_nil, List.set_cons_succ, List.set_cons_zero, List.getElem?_cons_zero, List.getElem?_cons_succ, Option.bind_some, fin_rt, fin_nx, Bool.not_true, Bool.not_false, wipeD, nought_fr, one_fr, int_0, int_1, int_2, int_3, int_4, int_8, int_12, len_list, len_tup, len_map, isi_list, isi_tup, isi_str, lt_nn, le_nn, gt_nn, ge_nn, eq_nn, ne_nn, add_nn, whole_n, List.length_map, decide_true, decide_false, leng0, leng1, leng2, leng3, leng4, if_true, if_false, eq_self, Nat.reduceEqDiff, Nat.reduceLT, Nat.reduceLeDiff, h1, h2, h, pow18, pow60, g, s, m9]
      · rw [h] at g s
        simp only [B_law_cell, sSeq_ap, sIf_ap, bOf_ap, bAnd_ap, bOr_ap, bNot_ap, bYes_ap, fAnd_ap, fOr_ap, fNot_ap, fIf_ap, sPat_ap, pName_ap, pTup_ap, setAll, sSkip_ap, sRet_ap, sOwn_ap, sFrz_ap, frz, frz1, sApp_ap, sIns_ap, sDo_ap, fTup_ap, fLstN_ap, fList_ap, fCall_ap, fCons_ap, fNil_ap, f1_ap, f2_ap, fVar_ap, fC_ap, sFor_ap, List.foldl_cons, List.foldl_nil, List.set_cons_succ, List.set_cons_zero, List.getElem?_cons_zero, List.getElem?_cons_succ, Option.bind_some, fin_rt, fin_nx, Bool.not_true, Bool.not_false, wipeD, nought_fr, one_fr, int_0, int_1, int_2, int_3, int_4, int_8, int_12, len_list, len_tup, len_map, isi_list, isi_tup, isi_str, lt_nn, le_nn, gt_nn, ge_nn, eq_nn, ne_nn, add_nn, whole_n, List.length_map, decide_true, decide_false, leng0, leng1, leng2, leng3, leng4, if_true, if_false, eq_self, Nat.reduceEqDiff, Nat.reduceLT, Nat.reduceLeDiff, h1, h2, pow18, pow60, g, s, m9]
    | false =>
      rw [if_neg (of_decide_eq_false d)]
      have g : geD cd (.int 1000000000000000000) = some (.bool false) := by rw [hc, ge_ii, d]
      have m1' : mulD cd (.int 48271) = some (.int (c * 48271)) := by rw [hc]; exact m1
      rcases h with ⟨rfl, h⟩ | ⟨rfl, h⟩
      · simp only [B_law_cell, sSeq_ap, sIf_ap, bOf_ap, bAnd_ap, bOr_ap, bNot_ap, bYes_ap, fAnd_ap, fOr_ap, fNot_ap, fIf_ap, sPat_ap, pName_ap, pTup_ap, setAll, sSkip_ap, sRet_ap, sOwn_ap, sFrz_ap, frz, frz1, sApp_ap, sIns_ap, sDo_ap, fTup_ap, fLstN_ap, fList_ap, fCall_ap, fCons_ap, fNil_ap, f1_ap, f2_ap, fVar_ap, fC_ap, sFor_ap, List.foldl_cons, List.foldl_nil, List.set_cons_succ, List.set_cons_zero, List.getElem?_cons_zero, List.getElem?_cons_succ, Option.bind_some, fin_rt, fin_nx, Bool.not_true, Bool.not_false, wipeD, nought_fr, one_fr, int_0, int_1, int_2, int_3, int_4, int_8, int_12, len_list, len_tup, len_map, isi_list, isi_tup, isi_str, lt_nn, le_nn, gt_nn, ge_nn, eq_nn, ne_nn, add_nn, whole_n, List.length_map, decide_true, decide_false, leng0, leng1, leng2, leng3, leng4, if_true, if_false, eq_self, Nat.reduceEqDiff, Nat.reduceLT, Nat.reduceLeDiff, h1, h2, h, pow18, g, m1', m2, add_ii, m3, m4, m5, m6, m7, m8]
      · rw [h] at g m1'
        simp only [B_law_cell, sSeq_ap, sIf_ap, bOf_ap, bAnd_ap, bOr_ap, bNot_ap, bYes_ap, fAnd_ap, fOr_ap, fNot_ap, fIf_ap, sPat_ap, pName_ap, pTup_ap, setAll, sSkip_ap, sRet_ap, sOwn_ap, sFrz_ap, frz, frz1, sApp_ap, sIns_ap, sDo_ap, fTup_ap, fLstN_ap, fList_ap, fCall_ap, fCons_ap, fNil_ap, f1_ap, f2_ap, fVar_ap, fC_ap, sFor_ap, List.foldl_cons, List.foldl_nil, List.set_cons_succ, List.set_cons_zero, List.getElem?_cons_zero, List.getElem?_cons_succ, Option.bind_some, fin_rt, fin_nx, Bool.not_true, Bool.not_false, wipeD, nought_fr, one_fr, int_0, int_1, int_2, int_3, int_4, int_8, int_12, len_list, len_tup, len_map, isi_list, isi_tup, isi_str, lt_nn, le_nn, gt_nn, ge_nn, eq_nn, ne_nn, add_nn, whole_n, List.length_map, decide_true, decide_false, leng0, leng1, leng2, leng3, leng4, if_true, if_false, eq_self, Nat.reduceEqDiff, Nat.reduceLT, Nat.reduceLeDiff, h1, h2, pow18, g, m1', m2, add_ii, m3, m4, m5, m6, m7, m8]
  rcases h3 with ⟨rfl, h⟩ | ⟨rfl, h⟩
  · exact key _ rfl (.inl ⟨rfl, h⟩)
  · exact key (natD 0) (by rw [h]; rfl) (.inr ⟨rfl, rfl⟩)
theorem cell_lt (c k : Int) : 0 ≤ cellI c k ∧ cellI c k < 1000000000000000000000000000000000000000000000000000000000000 := by
  unfold cellI
  split
  · exact ⟨by omega, by omega⟩
  · generalize (c * 48271 + k * 69621 + 11) % 2147483629 = x
    have r5 : 0 ≤ (x * x) % 2147483587 ∧ (x * x) % 2147483587 < 2147483587 := ⟨by omega, by omega⟩
    generalize (x * x) % 2147483587 = y at r5 ⊢
    have r6 : 0 ≤ (y * y) % 2147483563 ∧ (y * y) % 2147483563 < 2147483563 := ⟨by omega, by omega⟩
    generalize (y * y) % 2147483563 = z at r6 ⊢
    exact ⟨by omega, by omega⟩
theorem f_cell (ns : List Int) (k : Nat) : ∃ v : Nat, v < 10 ^ 60 ∧ F_law_cell [scrD ns, natD k] = some (natD v) := by
  have h1 : (fCall lenD (fCons (fVar 0) fNil)) [.val (scrD ns), .val (natD k), .val (natD 0), .no] = some (natD ns.length) := by
    show lenD [scrD ns] = _
    show some (PyData.int ((ns.map fun n => (PyData.int n, PyData.none)).length : Nat)) = _
    rw [List.length_map]
    rfl
  have fin : ∀ c : Int, F_law_cell [scrD ns, natD k] = some (.int (cellI c k)) → ∃ v : Nat, v < 10 ^ 60 ∧ F_law_cell [scrD ns, natD k] = some (natD v) := fun c h => by
    obtain ⟨q1, q2⟩ := cell_lt c k
    refine ⟨(cellI c k).toNat, ?_, ?_⟩
    · have e : (10 : Nat) ^ 60 = 1000000000000000000000000000000000000000000000000000000000000 := by decide
      rw [e]
      omega
    · rw [h]
      unfold natD
      rw [Int.toNat_of_nonneg q1]
  by_cases hk : k < ns.length
  · refine fin ns[k] (run_cell rfl h1 (b := true) (by rw [lt_nn, decide_eq_true hk]) (.inl ⟨rfl, ?_⟩))
    show (L2.atI (ns.map fun n => (PyData.int n, PyData.none)) (k : Int)).map (·.1) = _
    rw [atI_nat', List.getElem?_map, List.getElem?_eq_getElem hk]
    rfl
  · exact fin 0 (run_cell rfl h1 (b := false) (by rw [lt_nn, decide_eq_false hk]) (.inr ⟨rfl, rfl⟩))
theorem range_at {n x : Nat} {pr po : List Nat} (h : List.range n = pr ++ x :: po) : x = pr.length ∧ x < n := by
  have h1 : (List.range n)[pr.length]? = some x := by
    rw [h, List.getElem?_append_right (Nat.le_refl _), Nat.sub_self]
    rfl
  have hl : pr.length < n := by
    have := congrArg List.length h
    rw [List.length_range, List.length_append, List.length_cons] at this
    omega
  rw [List.getElem?_range hl] at h1
  cases h1
  exact ⟨rfl, hl⟩
/-! ### a rule -/
theorem wsz {t b : Nat} (h : 0 < b) (ht : t < 7) (hb : b ≤ 4) : 0 ≤ mkRat (t : Int) b ∧ Sz 3 (mkRat (t : Int) b) := ⟨by
  have := num_mk t b h
  exact Rat.num_nonneg.mp (by rw [this]; exact Int.natCast_nonneg _), sz_mk h (by omega) (by omega)⟩
theorem rule_step {a1 a2 : DV} {v k : Nat} {acc : List Rat} (hl : acc.length ≤ 100) : B_law_rule_1 [.val (natD v), a1, a2, .own (acc.map frR), .val (natD k)] = some (.nx [.val (natD (v / 28)), a1, a2, .own ((acc ++ [mkRat ((v % 7 : Nat) : Int) (1 + v / 7 % 4)]).map frR), .val (natD k)]) := by
  have e1 : modD (natD v) (.int 7) = some (natD (v % 7)) := mod_nn (j := 7) (by decide)
  have e2 : divD (natD v) (.int 7) = some (natD (v / 7)) := div_nn (j := 7) (by decide) (by decide)
  have e3 : modD (natD (v / 7)) (natD 4) = some (natD (v / 7 % 4)) := mod_nn (by decide)
  have e4 : divD (natD v) (.int 28) = some (natD (v / 28)) := div_nn (j := 28) (by decide) (by decide)
  have e5 := fl_frac (t := v % 7) (b := 1 + v / 7 % 4) (n := 3) (by omega) (by omega) (by decide)
  simp only [B_law_rule_1, sSeq_ap, sIf_ap, bOf_ap, bAnd_ap, bOr_ap, bNot_ap, bYes_ap, fAnd_ap, fOr_ap, fNot_ap, fIf_ap, sPat_ap, pName_ap, pTup_ap, setAll, sSkip_ap, sRet_ap, sOwn_ap, sFrz_ap, frz, frz1, sApp_ap, sIns_ap, sDo_ap, fTup_ap, fLstN_ap, fList_ap, fCall_ap, fCons_ap, fNil_ap, f1_ap, f2_ap, fVar_ap, fC_ap, sFor_ap, List.foldl_cons, List.foldl_nil, List.set_cons_succ, List.set_cons_zero, List.getElem?_cons_zero, List.getElem?_cons_succ, Option.bind_some, fin_rt, fin_nx, Bool.not_true, Bool.not_false, wipeD, nought_fr, one_fr, int_0, int_1, int_2, int_3, int_4, int_8, int_12, len_list, len_tup, len_map, isi_list, isi_tup, isi_str, lt_nn, le_nn, gt_nn, ge_nn, eq_nn, ne_nn, add_nn, whole_n, List.length_map, decide_true, decide_false, leng0, leng1, leng2, leng3, leng4, if_true, if_false, eq_self, Nat.reduceEqDiff, Nat.reduceLT, Nat.reduceLeDiff, e1, e2, e3, e4, e5, app_map _ _ (show acc.length ≤ 1000 by omega)]
theorem f_rule (v n : Nat) (n1 : 1 ≤ n) (n4 : n ≤ 4) : ∃ r, F_law_rule [natD v, natD n] = some (ruleD r) ∧ Rok n r := by
  have e1 : modD (natD v) (.int 7) = some (natD (v % 7)) := mod_nn (j := 7) (by decide)
  have e2 : divD (natD v) (.int 7) = some (natD (v / 7)) := div_nn (j := 7) (by decide) (by decide)
  have e3 : modD (natD (v / 7)) (natD n) = some (natD (v / 7 % n)) := mod_nn (by omega)
  cases d0 : decide (v % 7 = 0) with
  | true =>
    refine ⟨.least, ?_, trivial⟩
    rw [r_law_rule]
    simp only [B_law_rule, sSeq_ap, sIf_ap, bOf_ap, bAnd_ap, bOr_ap, bNot_ap, bYes_ap, fAnd_ap, fOr_ap, fNot_ap, fIf_ap, sPat_ap, pName_ap, pTup_ap, setAll, sSkip_ap, sRet_ap, sOwn_ap, sFrz_ap, frz, frz1, sApp_ap, sIns_ap, sDo_ap, fTup_ap, fLstN_ap, fList_ap, fCall_ap, fCons_ap, fNil_ap, f1_ap, f2_ap, fVar_ap, fC_ap, sFor_ap, List.foldl_cons, List.foldl_nil, List.set_cons_succ, List.set_cons_zero, List.getElem?_cons_zero, List.getElem?_cons_succ, Option.bind_some, fin_rt, fin_nx, Bool.not_true, Bool.not_false, wipeD, nought_fr, one_fr, int_0, int_1, int_2, int_3, int_4, int_8, int_12, len_list, len_tup, len_map, isi_list, isi_tup, isi_str, lt_nn, le_nn, gt_nn, ge_nn, eq_nn, ne_nn, add_nn, whole_n, List.length_map, decide_true, decide_false, leng0, leng1, leng2, leng3, leng4, if_true, if_false, eq_self, Nat.reduceEqDiff, Nat.reduceLT, Nat.reduceLeDiff, e1, e2, d0]
    rfl
  | false =>
    cases d1 : decide (v % 7 = 1) with
    | true =>
      refine ⟨.greatest, ?_, trivial⟩
      rw [r_law_rule]
      simp only [B_law_rule, sSeq_ap, sIf_ap, bOf_ap, bAnd_ap, bOr_ap, bNot_ap, bYes_ap, fAnd_ap, fOr_ap, fNot_ap, fIf_ap, sPat_ap, pName_ap, pTup_ap, setAll, sSkip_ap, sRet_ap, sOwn_ap, sFrz_ap, frz, frz1, sApp_ap, sIns_ap, sDo_ap, fTup_ap, fLstN_ap, fList_ap, fCall_ap, fCons_ap, fNil_ap, f1_ap, f2_ap, fVar_ap, fC_ap, sFor_ap, List.foldl_cons, List.foldl_nil, List.set_cons_succ, List.set_cons_zero, List.getElem?_cons_zero, List.getElem?_cons_succ, Option.bind_some, fin_rt, fin_nx, Bool.not_true, Bool.not_false, wipeD, nought_fr, one_fr, int_0, int_1, int_2, int_3, int_4, int_8, int_12, len_list, len_tup, len_map, isi_list, isi_tup, isi_str, lt_nn, le_nn, gt_nn, ge_nn, eq_nn, ne_nn, add_nn, whole_n, List.length_map, decide_true, decide_false, leng0, leng1, leng2, leng3, leng4, if_true, if_false, eq_self, Nat.reduceEqDiff, Nat.reduceLT, Nat.reduceLeDiff, e1, e2, d0, d1]
      rfl
    | false =>
      cases d2 : decide (v % 7 = 2) with
      | true =>
        have hm : v / 7 % n < n := Nat.mod_lt _ (by omega)
        refine ⟨.middle (1 + v / 7 % n), ?_, by omega, by omega⟩
        rw [r_law_rule]
        simp only [B_law_rule, sSeq_ap, sIf_ap, bOf_ap, bAnd_ap, bOr_ap, bNot_ap, bYes_ap, fAnd_ap, fOr_ap, fNot_ap, fIf_ap, sPat_ap, pName_ap, pTup_ap, setAll, sSkip_ap, sRet_ap, sOwn_ap, sFrz_ap, frz, frz1, sApp_ap, sIns_ap, sDo_ap, fTup_ap, fLstN_ap, fList_ap, fCall_ap, fCons_ap, fNil_ap, f1_ap, f2_ap, fVar_ap, fC_ap, sFor_ap, List.foldl_cons, List.foldl_nil, List.set_cons_succ, List.set_cons_zero, List.getElem?_cons_zero, List.getElem?_cons_succ, Option.bind_some, fin_rt, fin_nx, Bool.not_true, Bool.not_false, wipeD, nought_fr, one_fr, int_0, int_1, int_2, int_3, int_4, int_8, int_12, len_list, len_tup, len_map, isi_list, isi_tup, isi_str, lt_nn, le_nn, gt_nn, ge_nn, eq_nn, ne_nn, add_nn, whole_n, List.length_map, decide_true, decide_false, leng0, leng1, leng2, leng3, leng4, if_true, if_false, eq_self, Nat.reduceEqDiff, Nat.reduceLT, Nat.reduceLeDiff, e1, e2, d0, d1, d2, e3]
        rfl
      | false =>
        cases d3 : decide (v % 7 = 3) with
        | true =>
          refine ⟨.product, ?_, trivial⟩
          rw [r_law_rule]
          simp only [B_law_rule, sSeq_ap, sIf_ap, bOf_ap, bAnd_ap, bOr_ap, bNot_ap, bYes_ap, fAnd_ap, fOr_ap, fNot_ap, fIf_ap, sPat_ap, pName_ap, pTup_ap, setAll, sSkip_ap, sRet_ap, sOwn_ap, sFrz_ap, frz, frz1, sApp_ap, sIns_ap, sDo_ap, fTup_ap, fLstN_ap, fList_ap, fCall_ap, fCons_ap, fNil_ap, f1_ap, f2_ap, fVar_ap, fC_ap, sFor_ap, List.foldl_cons, List.foldl_nil, List.set_cons_succ, List.set_cons_zero, List.getElem?_cons_zero, List.getElem?_cons_succ, Option.bind_some, fin_rt, fin_nx, Bool.not_true, Bool.not_false, wipeD, nought_fr, one_fr, int_0, int_1, int_2, int_3, int_4, int_8, int_12, len_list, len_tup, len_map, isi_list, isi_tup, isi_str, lt_nn, le_nn, gt_nn, ge_nn, eq_nn, ne_nn, add_nn, whole_n, List.length_map, decide_true, decide_false, leng0, leng1, leng2, leng3, leng4, if_true, if_false, eq_self, Nat.reduceEqDiff, Nat.reduceLT, Nat.reduceLeDiff, e1, e2, d0, d1, d2, d3]
          rfl
        | false =>
          obtain ⟨δ', h1, w, x4, acc, h2, h3, h4⟩ := for_inv (enc := natD) (p := pName 4) (body := B_law_rule_1) (xs := List.range n) (δ := [.val (natD (v / 7)), .val (natD n), .val (natD (v % 7)), .own [], .no])
            (fun pr δ => ∃ w x4, ∃ acc : List Rat, δ = [.val (natD w), .val (natD n), .val (natD (v % 7)), .own (acc.map frR), x4] ∧ acc.length = pr.length ∧ ∀ r ∈ acc, 0 ≤ r ∧ Sz 3 r) ⟨_, _, [], rfl, rfl, fun _ z => by cases z⟩ (by
              rintro pr k po δ e ⟨w, x4, acc, rfl, hl, ha⟩
              obtain ⟨q1, q2⟩ := range_at e
              refine ⟨_, _, rfl, rule_step (by omega), _, _, acc ++ [mkRat ((w % 7 : Nat) : Int) (1 + w / 7 % 4)], rfl, by rw [List.length_append, List.length_append, hl]; rfl, fun r hr => ?_⟩
              rcases List.mem_append.mp hr with hr | hr
              · exact ha r hr
              · rw [List.mem_singleton.mp hr]
                exact wsz (by omega) (by omega) (by omega))
          rw [List.length_range] at h3
          have e4 := dRange_ap (fVar 1) [.val (natD (v / 7)), .val (natD n), .val (natD (v % 7)), .own [], .no] (n := n) rfl (by omega)
          refine ⟨.shares acc, ?_, h3, h4⟩
          rw [r_law_rule]
          simp only [B_law_rule, sSeq_ap, sIf_ap, bOf_ap, bAnd_ap, bOr_ap, bNot_ap, bYes_ap, fAnd_ap, fOr_ap, fNot_ap, fIf_ap, sPat_ap, pName_ap, pTup_ap, setAll, sSkip_ap, sRet_ap, sOwn_ap, sFrz_ap, frz, frz1, sApp_ap, sIns_ap, sDo_ap, fTup_ap, fLstN_ap, fList_ap, fCall_ap, fCons_ap, fNil_ap, f1_ap, f2_ap, fVar_ap, fC_ap, sFor_ap, List.foldl_cons, List.foldl_nil, List.set_cons_succ, List.set_cons_zero, List.getElem?_cons_zero, List.getElem?_cons_succ, Option.bind_some, fin_rt, fin_nx, Bool.not_true, Bool.not_false, wipeD, nought_fr, one_fr, int_0, int_1, int_2, int_3, int_4, int_8, int_12, len_list, len_tup, len_map, isi_list, isi_tup, isi_str, lt_nn, le_nn, gt_nn, ge_nn, eq_nn, ne_nn, add_nn, whole_n, List.length_map, decide_true, decide_false, leng0, leng1, leng2, leng3, leng4, if_true, if_false, eq_self, Nat.reduceEqDiff, Nat.reduceLT, Nat.reduceLeDiff, e1, e2, d0, d1, d2, d3, e4, h1, h2]
          rfl
/-! ### a book -/
theorem wo_mk {t b : Nat} (h : 0 < b) (ht : t ≤ b) (hb : b < 2 ^ 40) : Wo (mkRat (t : Int) b) := by
  have e1 := num_mk t b h
  have e2 := den_mk t b h
  refine ⟨Rat.num_nonneg.mp (by rw [e1]; exact Int.natCast_nonneg _), ?_, sz_mk h (by omega) hb⟩
  rw [Rat.le_iff, e1, e2]
  have : t / Nat.gcd t b ≤ b / Nat.gcd t b := Nat.div_le_div_right ht
  simp only [Rat.num_ofNat, Rat.den_ofNat]
  omega
theorem bottoms {j : Nat} (h : j < 8) : ∃ bt : Nat, 2 ≤ bt ∧ bt < 2 ^ 40 ∧ ixD (.list [natD 2, natD 3, natD 4, .int 6, .int 10, .int 24, .int 97, .int 999999999999]) (natD j) = some (natD bt) := by
  match j, h with
  | 0, _ => exact ⟨2, by decide, by decide, ix_list _ 0⟩
  | 1, _ => exact ⟨3, by decide, by decide, ix_list _ 1⟩
  | 2, _ => exact ⟨4, by decide, by decide, ix_list _ 2⟩
  | 3, _ => exact ⟨6, by decide, by decide, ix_list _ 3⟩
  | 4, _ => exact ⟨10, by decide, by decide, ix_list _ 4⟩
  | 5, _ => exact ⟨24, by decide, by decide, ix_list _ 5⟩
  | 6, _ => exact ⟨97, by decide, by decide, ix_list _ 6⟩
  | 7, _ => exact ⟨999999999999, by decide, by decide, ix_list _ 7⟩
theorem book_step1 {ns : List Int} {a2 a3 a4 a5 a6 a8 : DV} {at' k v t bt : Nat} {acc : List Rat} (hl : acc.length ≤ 100) (hb : 2 ≤ bt) (hb2 : bt < 2 ^ 40) :
    ∃ v', ∃ w : Rat, Wo w ∧ B_law_book_1 [.val (scrD ns), .val (natD at'), a2, a3, a4, a5, a6, .val (natD bt), a8, .val (natD k), .val (natD v), .own (acc.map frR), .val (natD t)] =
      some (.nx [.val (scrD ns), .val (natD at'), a2, a3, a4, a5, a6, .val (natD bt), a8, .val (natD k), .val (natD v'), .own ((acc ++ [w]).map frR), .val (natD t)]) := by
  obtain ⟨c, _, e1⟩ := f_cell ns ((at' + 1 + k + 5 * t) % 63)
  have e2 : mulD (.int 5) (natD t) = some (natD (5 * t)) := mul_nn (i := 5) (.inl (by decide))
  have e3 : modD (natD (at' + 1 + k + 5 * t)) (.int 63) = some (natD ((at' + 1 + k + 5 * t) % 63)) := mod_nn (j := 63) (by decide)
  have e5 : gtD (natD bt) (.int 100) = some (.bool (decide (100 < bt))) := gt_nn bt 100
  have go : ∀ u : Nat, modD (natD u) (natD (bt + 1)) = some (natD (u % (bt + 1))) ∧ divD (natD u) (natD (bt + 1)) = some (natD (u / (bt + 1))) ∧ F_law_frac [natD (u % (bt + 1)), natD bt] = some (frR (mkRat ((u % (bt + 1) : Nat) : Int) bt)) ∧ Wo (mkRat ((u % (bt + 1) : Nat) : Int) bt) := fun u => by
    have hm : u % (bt + 1) < bt + 1 := Nat.mod_lt _ (by omega)
    exact ⟨mod_nn (by omega), div_nn (by omega) (by omega), fl_frac (n := 40) (by omega) hb2 (by decide), wo_mk (by omega) (by omega) hb2⟩
  cases d : decide (100 < bt) with
  | true =>
    obtain ⟨g1, g2, g3, g4⟩ := go c
    refine ⟨c / (bt + 1), _, g4, ?_⟩
    simp only [B_law_book_1, sSeq_ap, sIf_ap, bOf_ap, bAnd_ap, bOr_ap, bNot_ap, bYes_ap, fAnd_ap, fOr_ap, fNot_ap, fIf_ap, sPat_ap, pName_ap, pTup_ap, setAll, sSkip_ap, sRet_ap, sOwn_ap, sFrz_ap, frz, frz1, sApp_ap, sIns_ap, sDo_ap, fTup_ap, fLstN_ap, fList_ap, fCall_ap, fCons_ap, fNil_ap, f1_ap, f2_ap, fVar_ap, fC_ap, sFor_ap, List.foldl_cons, List.foldl_nil, List.set_cons_succ, List.set_cons_zero, List.getElem?_cons_zero, List.getElem?_cons_succ, Option.bind_some, fin_rt, fin_nx, Bool.not_true, Bool.not_false, wipeD, nought_fr, one_fr, int_0, int_1, int_2, int_3, int_4, int_8, int_12, len_list, len_tup, len_map, isi_list, isi_tup, isi_str, lt_nn, le_nn, gt_nn, ge_nn, eq_nn, ne_nn, add_nn, whole_n, List.length_map, decide_true, decide_false, leng0, leng1, leng2, leng3, leng4, if_true, if_false, eq_self, Nat.reduceEqDiff, Nat.reduceLT, Nat.reduceLeDiff, e5, d, e2, e3, e1, g1, g2, g3, app_map _ _ (show acc.length ≤ 1000 by omega)]
  | false =>
    obtain ⟨g1, g2, g3, g4⟩ := go v
    refine ⟨v / (bt + 1), _, g4, ?_⟩
    simp only [B_law_book_1, sSeq_ap, sIf_ap, bOf_ap, bAnd_ap, bOr_ap, bNot_ap, bYes_ap, fAnd_ap, fOr_ap, fNot_ap, fIf_ap, sPat_ap, pName_ap, pTup_ap, setAll, sSkip_ap, sRet_ap, sOwn_ap, sFrz_ap, frz, frz1, sApp_ap, sIns_ap, sDo_ap, fTup_ap, fLstN_ap, fList_ap, fCall_ap, fCons_ap, fNil_ap, f1_ap, f2_ap, fVar_ap, fC_ap, sFor_ap, List.foldl_cons, List.foldl_nil, List.set_cons_succ, List.set_cons_zero, List.getElem?_cons_zero, List.getElem?_cons_succ, Option.bind_some, fin_rt, fin_nx, Bool.not_true, Bool.not_false, wipeD, nought_fr, one_fr, int_0, int_1, int_2, int_3, int_4, int_8, int_12, len_list, len_tup, len_map, isi_list, isi_tup, isi_str, lt_nn, le_nn, gt_nn, ge_nn, eq_nn, ne_nn, add_nn, whole_n, List.length_map, decide_true, decide_false, leng0, leng1, leng2, leng3, leng4, if_true, if_false, eq_self, Nat.reduceEqDiff, Nat.reduceLT, Nat.reduceLeDiff, e5, d, g1, g2, g3, app_map _ _ (show acc.length ≤ 1000 by omega)]
theorem book_step2 {ns : List Int} {a2 a3 a4 a6 x10 x11 x12 : DV} {at' k m bt : Nat} {acc : List (List Rat)} (hm : m ≤ 12) (hl : acc.length ≤ 100) (hb : 2 ≤ bt) (hb2 : bt < 2 ^ 40) :
    ∃ y10 y11 y12, ∃ row : List Rat, row.length = m ∧ (∀ w ∈ row, Wo w) ∧ B_law_book_2 [.val (scrD ns), .val (natD at'), a2, a3, a4, .val (natD m), a6, .val (natD bt), .own (acc.map rowD), .val (natD k), x10, x11, x12] =
      some (.nx [.val (scrD ns), .val (natD at'), a2, a3, a4, .val (natD m), a6, .val (natD bt), .own ((acc ++ [row]).map rowD), .val (natD k), y10, y11, y12]) := by
  obtain ⟨c, _, e1⟩ := f_cell ns (at' + 1 + k)
  obtain ⟨δ', h1, v, x12', row, h2, h3, h4⟩ := for_inv (enc := natD) (p := pName 12) (body := B_law_book_1) (xs := List.range m) (δ := [.val (scrD ns), .val (natD at'), a2, a3, a4, .val (natD m), a6, .val (natD bt), .own (acc.map rowD), .val (natD k), .val (natD c), .own [], x12])
    (fun pr δ => ∃ v x12, ∃ row : List Rat, δ = [.val (scrD ns), .val (natD at'), a2, a3, a4, .val (natD m), a6, .val (natD bt), .own (acc.map rowD), .val (natD k), .val (natD v), .own (row.map frR), x12] ∧ row.length = pr.length ∧ ∀ w ∈ row, Wo w) ⟨_, _, [], rfl, rfl, fun _ z => by cases z⟩ (by
      rintro pr t po δ e ⟨v, x12, row, rfl, hr, hw⟩
      obtain ⟨q1, q2⟩ := range_at e
      obtain ⟨v', w, w1, w2⟩ := book_step1 (ns := ns) (a2 := a2) (a3 := a3) (a4 := a4) (a5 := .val (natD m)) (a6 := a6) (a8 := .own (acc.map rowD)) (at' := at') (k := k) (v := v) (t := t) (acc := row) (by omega) hb hb2
      refine ⟨_, _, rfl, w2, v', _, row ++ [w], rfl, by rw [List.length_append, List.length_append, hr]; rfl, fun u hu => ?_⟩
      rcases List.mem_append.mp hu with hu | hu
      · exact hw u hu
      · rw [List.mem_singleton.mp hu]
        exact w1)
  rw [List.length_range] at h3
  have e4 := dRange_ap (fVar 5) [.val (scrD ns), .val (natD at'), a2, a3, a4, .val (natD m), a6, .val (natD bt), .own (acc.map rowD), .val (natD k), .val (natD c), .own [], x12] (n := m) rfl (by omega)
  have e5 : PyData.list (row.map frR) = rowD row := rfl
  refine ⟨.val (natD v), .val (rowD row), x12', row, h3, h4, ?_⟩
  simp only [B_law_book_2, sSeq_ap, sIf_ap, bOf_ap, bAnd_ap, bOr_ap, bNot_ap, bYes_ap, fAnd_ap, fOr_ap, fNot_ap, fIf_ap, sPat_ap, pName_ap, pTup_ap, setAll, sSkip_ap, sRet_ap, sOwn_ap, sFrz_ap, frz, frz1, sApp_ap, sIns_ap, sDo_ap, fTup_ap, fLstN_ap, fList_ap, fCall_ap, fCons_ap, fNil_ap, f1_ap, f2_ap, fVar_ap, fC_ap, sFor_ap, List.foldl_cons, List.foldl_nil, List.set_cons_succ, List.set_cons_zero, List.getElem?_cons_zero, List.getElem?_cons_succ, Option.bind_some, fin_rt, fin_nx, Bool.not_true, Bool.not_false, wipeD, nought_fr, one_fr, int_0, int_1, int_2, int_3, int_4, int_8, int_12, len_list, len_tup, len_map, isi_list, isi_tup, isi_str, lt_nn, le_nn, gt_nn, ge_nn, eq_nn, ne_nn, add_nn, whole_n, List.length_map, decide_true, decide_false, leng0, leng1, leng2, leng3, leng4, if_true, if_false, eq_self, Nat.reduceEqDiff, Nat.reduceLT, Nat.reduceLeDiff, e1, e4, h1, h2, e5, app_map _ _ (show acc.length ≤ 1000 by omega)]
theorem leng8 (a b c d e f g h : PyData) : [a, b, c, d, e, f, g, h].length = 8 := rfl
theorem f_book (ns : List Int) : ∃ m b, F_law_book [scrD ns, natD 0, natD 4, natD 12] = some (bookD b) ∧ Bok m b := by
  obtain ⟨v, _, e1⟩ := f_cell ns 0
  have e2 : modD (natD v) (natD 12) = some (natD (v % 12)) := mod_nn (by decide)
  have e3 : divD (natD v) (natD 12) = some (natD (v / 12)) := div_nn (by decide) (by decide)
  have e4 : modD (natD (v / 12)) (natD 4) = some (natD (v / 12 % 4)) := mod_nn (by decide)
  have e5 : divD (natD v) (.int 1000) = some (natD (v / 1000)) := div_nn (j := 1000) (by decide) (by decide)
  have e6 : modD (natD (v / 1000)) (natD 8) = some (natD (v / 1000 % 8)) := mod_nn (by decide)
  obtain ⟨bt, b1, b2, e7⟩ := bottoms (j := v / 1000 % 8) (by omega)
  have e8 : subD (.int 1000000000000) (natD 1) = some (.int 999999999999) := rfl
  have hm : 1 + v % 12 ≤ 12 := by omega
  obtain ⟨δ', h1, x9, x10, x11, x12, acc, h2, h3, h4⟩ := for_inv (enc := natD) (p := pName 9) (body := B_law_book_2) (xs := List.range (1 + v / 12 % 4))
    (δ := [.val (scrD ns), .val (natD 0), .val (natD 4), .val (natD 12), .val (natD v), .val (natD (1 + v % 12)), .val (natD (1 + v / 12 % 4)), .val (natD bt), .own [], .no, .no, .no, .no])
    (fun pr δ => ∃ x9 x10 x11 x12, ∃ acc : List (List Rat), δ = [.val (scrD ns), .val (natD 0), .val (natD 4), .val (natD 12), .val (natD v), .val (natD (1 + v % 12)), .val (natD (1 + v / 12 % 4)), .val (natD bt), .own (acc.map rowD), x9, x10, x11, x12] ∧ acc.length = pr.length ∧ ∀ r ∈ acc, r.length = 1 + v % 12 ∧ ∀ w ∈ r, Wo w) ⟨_, _, _, _, [], rfl, rfl, fun _ z => by cases z⟩ (by
      rintro pr k po δ e ⟨x9, x10, x11, x12, acc, rfl, hl, hw⟩
      obtain ⟨q1, q2⟩ := range_at e
      obtain ⟨y10, y11, y12, row, r1, r2, r3⟩ := book_step2 (ns := ns) (a2 := .val (natD 4)) (a3 := .val (natD 12)) (a4 := .val (natD v)) (a6 := .val (natD (1 + v / 12 % 4))) (x10 := x10) (x11 := x11) (x12 := x12) (at' := 0) (k := k) (acc := acc) hm (by omega) b1 b2
      refine ⟨_, _, rfl, r3, _, _, _, _, acc ++ [row], rfl, by rw [List.length_append, List.length_append, hl]; rfl, fun r hr => ?_⟩
      rcases List.mem_append.mp hr with hr | hr
      · exact hw r hr
      · rw [List.mem_singleton.mp hr]
        exact ⟨r1, r2⟩)
  rw [List.length_range] at h3
  have e9 := dRange_ap (fVar 6) [.val (scrD ns), .val (natD 0), .val (natD 4), .val (natD 12), .val (natD v), .val (natD (1 + v % 12)), .val (natD (1 + v / 12 % 4)), .val (natD bt), .own [], .no, .no, .no, .no] (n := 1 + v / 12 % 4) rfl (by omega)
  refine ⟨1 + v % 12, acc, ?_, by omega, by omega, by omega, hm, fun r hr => (h4 r hr).1, fun r hr => (h4 r hr).2⟩
  rw [r_law_book]
  simp only [B_law_book, sSeq_ap, sIf_ap, bOf_ap, bAnd_ap, bOr_ap, bNot_ap, bYes_ap, fAnd_ap, fOr_ap, fNot_ap, fIf_ap, sPat_ap, pName_ap, pTup_ap, setAll, sSkip_ap, sRet_ap, sOwn_ap, sFrz_ap, frz, frz1, sApp_ap, sIns_ap, sDo_ap, fTup_ap, fLstN_ap, fList_ap, fCall_ap, fCons_ap, fNil_ap, f1_ap, f2_ap, fVar_ap, fC_ap, sFor_ap, List.foldl_cons, List.foldl_nil, List.set_cons_succ, List.set_cons_zero, List.getElem?_cons_zero, List.getElem?_cons_succ, Option.bind_some, fin_rt, fin_nx, Bool.not_true, Bool.not_false, wipeD, nought_fr, one_fr, int_0, int_1, int_2, int_3, int_4, int_8, int_12, len_list, len_tup, len_map, isi_list, isi_tup, isi_str, lt_nn, le_nn, gt_nn, ge_nn, eq_nn, ne_nn, add_nn, whole_n, List.length_map, decide_true, decide_false, leng0, leng1, leng2, leng3, leng4, if_true, if_false, eq_self, Nat.reduceEqDiff, Nat.reduceLT, Nat.reduceLeDiff, e1, e2, e3, e4, pow12, e8, leng8, e5, e6, e7, e9, h1, h2]
  rfl
end DL

set_option Elab.async false
set_option linter.all false
set_option maxRecDepth 100000
set_option maxHeartbeats 4000000
set_option exponentiation.threshold 3000
/-! EqA: the law's worths, order, looks. -/
namespace DL
open PySem
theorem share_step {ws xs : List Rat} {t : Rat} {k n' : Nat} {x4 x5 x6 x7 : DV} (hk : ws[k]? = some (W ws k)) (hx : xs[k]? = some (W xs k)) (t0 : 0 ≤ t) (ts : Sz n' t) (hn : n' ≤ 300) (hw : 0 ≤ W ws k ∧ Sz 3 (W ws k)) (hv : Wo (W xs k)) :
    B_law_worth_1 [.val (ruleD (.shares ws)), .val (rowD xs), .val (frR t), .val (natD k), x4, x5, x6, x7] = some (.nx [.val (ruleD (.shares ws)), .val (rowD xs), .val (frR (t + W ws k * W xs k)), .val (natD k), x4, x5, x6, x7]) ∧ 0 ≤ t + W ws k * W xs k ∧ Sz (n' + 44) (t + W ws k * W xs k) := by
  have e3 : ixD (ruleD (.shares ws)) (natD 1) = some (rowD ws) := rfl
  obtain ⟨_, q2⟩ := f_times hw.1 hv.nn hw.2 hv.sz (by decide) (by decide)
  have q1 := fl_mul hw.1 hv.nn hw.2 hv.sz (by decide) (by decide)
  have m0 := Rat.mul_nonneg hw.1 hv.nn
  have q3 := fl_add t0 m0 ts q2 (by omega) (by decide)
  obtain ⟨_, q4⟩ := f_sum t0 m0 ts q2 (by omega) (by decide)
  refine ⟨?_, Rat.add_nonneg t0 m0, q4.up (by omega)⟩
  simp only [B_law_worth_1, sSeq_ap, sIf_ap, bOf_ap, bAnd_ap, bOr_ap, bNot_ap, bYes_ap, fAnd_ap, fOr_ap, fNot_ap, fIf_ap, sPat_ap, pName_ap, pTup_ap, setAll, sSkip_ap, sRet_ap, sOwn_ap, sFrz_ap, frz, frz1, sApp_ap, sIns_ap, sDo_ap, fTup_ap, fLstN_ap, fList_ap, fCall_ap, fCons_ap, fNil_ap, f1_ap, f2_ap, fVar_ap, fC_ap, sFor_ap, List.foldl_cons, List.foldl_nil, List.set_cons_succ, List.set_cons_zero, List.getElem?_cons_zero, List.getElem?_cons_succ, Option.bind_some, fin_rt, fin_nx, Bool.not_true, Bool.not_false, wipeD, nought_fr, one_fr, int_0, int_1, int_2, int_3, int_4, int_8, int_12, len_list, len_tup, len_map, isi_list, isi_tup, isi_str, lt_nn, le_nn, gt_nn, ge_nn, eq_nn, ne_nn, add_nn, whole_n, List.length_map, decide_true, decide_false, leng0, leng1, leng2, leng3, leng4, if_true, if_false, eq_self, Nat.reduceEqDiff, Nat.reduceLT, Nat.reduceLeDiff, e3, ix_row hk, ix_row hx, q1, q3]
theorem prod_step {ws xs : List Rat} {a0 a1 : DV} {t x : Rat} {n' : Nat} {x3 x5 x6 x7 : DV} (t0 : 0 ≤ t) (ts : Sz n' t) (hn : n' ≤ 300) (hv : Wo x) :
    B_law_worth_2 [a0, a1, .val (frR t), x3, .val (frR x), x5, x6, x7] = some (.nx [a0, a1, .val (frR (t * x)), x3, .val (frR x), x5, x6, x7]) ∧ 0 ≤ t * x ∧ Sz (n' + 40) (t * x) := by
  have q1 := fl_mul t0 hv.nn ts hv.sz (by omega) (by decide)
  obtain ⟨_, q2⟩ := f_times t0 hv.nn ts hv.sz (by omega) (by decide)
  refine ⟨?_, Rat.mul_nonneg t0 hv.nn, q2⟩
  simp only [B_law_worth_2, sSeq_ap, sIf_ap, bOf_ap, bAnd_ap, bOr_ap, bNot_ap, bYes_ap, fAnd_ap, fOr_ap, fNot_ap, fIf_ap, sPat_ap, pName_ap, pTup_ap, setAll, sSkip_ap, sRet_ap, sOwn_ap, sFrz_ap, frz, frz1, sApp_ap, sIns_ap, sDo_ap, fTup_ap, fLstN_ap, fList_ap, fCall_ap, fCons_ap, fNil_ap, f1_ap, f2_ap, fVar_ap, fC_ap, sFor_ap, List.foldl_cons, List.foldl_nil, List.set_cons_succ, List.set_cons_zero, List.getElem?_cons_zero, List.getElem?_cons_succ, Option.bind_some, fin_rt, fin_nx, Bool.not_true, Bool.not_false, wipeD, nought_fr, one_fr, int_0, int_1, int_2, int_3, int_4, int_8, int_12, len_list, len_tup, len_map, isi_list, isi_tup, isi_str, lt_nn, le_nn, gt_nn, ge_nn, eq_nn, ne_nn, add_nn, whole_n, List.length_map, decide_true, decide_false, leng0, leng1, leng2, leng3, leng4, if_true, if_false, eq_self, Nat.reduceEqDiff, Nat.reduceLT, Nat.reduceLeDiff, q1]
theorem rise_step {a0 a1 a2 a3 : DV} {acc : List Rat} (hin : ∀ o ∈ acc, Wo o) (hl : acc.length ≤ 100) {w : Rat} (hw : Wo w) (x6 x7 : DV) :
    B_law_worth_3 [a0, a1, a2, a3, .val (frR w), .own (acc.map frR), x6, x7] = some (.nx [a0, a1, a2, a3, .val (frR w), .own ((insBy (fun o x => decide (o < x)) acc w).map frR), .val (natD (acc.filter fun o => decide (o < w)).length), x7]) := by
  have c : fComp (dVar 5) (pName 7) (bOf (fCall F_law_below (fCons (fVar 7) (fCons (fVar 4) fNil)))) (fVar 7) [7] [a0, a1, a2, a3, .val (frR w), .own (acc.map frR), x6, x7] =
      some ((acc.filter fun o => decide (o < w)).map frR) := comp_keep (enc := frR) _ _ _ rfl (by omega) fun o ho => ⟨_, rfl, by
        have q := fl_below (hin o ho).sz hw.sz (by decide) (by decide)
        simp only [sSeq_ap, sIf_ap, bOf_ap, bAnd_ap, bOr_ap, bNot_ap, bYes_ap, fAnd_ap, fOr_ap, fNot_ap, fIf_ap, sPat_ap, pName_ap, pTup_ap, setAll, sSkip_ap, sRet_ap, sOwn_ap, sFrz_ap, frz, frz1, sApp_ap, sIns_ap, sDo_ap, fTup_ap, fLstN_ap, fList_ap, fCall_ap, fCons_ap, fNil_ap, f1_ap, f2_ap, fVar_ap, fC_ap, sFor_ap, List.foldl_cons, List.foldl_nil, List.set_cons_succ, List.set_cons_zero, List.getElem?_cons_zero, List.getElem?_cons_succ, Option.bind_some, fin_rt, fin_nx, Bool.not_true, Bool.not_false, wipeD, nought_fr, one_fr, int_0, int_1, int_2, int_3, int_4, int_8, int_12, len_list, len_tup, len_map, isi_list, isi_tup, isi_str, lt_nn, le_nn, gt_nn, ge_nn, eq_nn, ne_nn, add_nn, whole_n, List.length_map, decide_true, decide_false, leng0, leng1, leng2, leng3, leng4, if_true, if_false, eq_self, Nat.reduceEqDiff, Nat.reduceLT, Nat.reduceLeDiff, q], fun _ => rfl⟩
  simp only [B_law_worth_3, sSeq_ap, sIf_ap, bOf_ap, bAnd_ap, bOr_ap, bNot_ap, bYes_ap, fAnd_ap, fOr_ap, fNot_ap, fIf_ap, sPat_ap, pName_ap, pTup_ap, setAll, sSkip_ap, sRet_ap, sOwn_ap, sFrz_ap, frz, frz1, sApp_ap, sIns_ap, sDo_ap, fTup_ap, fLstN_ap, fList_ap, fCall_ap, fCons_ap, fNil_ap, f1_ap, f2_ap, fVar_ap, fC_ap, sFor_ap, List.foldl_cons, List.foldl_nil, List.set_cons_succ, List.set_cons_zero, List.getElem?_cons_zero, List.getElem?_cons_succ, Option.bind_some, fin_rt, fin_nx, Bool.not_true, Bool.not_false, wipeD, nought_fr, one_fr, int_0, int_1, int_2, int_3, int_4, int_8, int_12, len_list, len_tup, len_map, isi_list, isi_tup, isi_str, lt_nn, le_nn, gt_nn, ge_nn, eq_nn, ne_nn, add_nn, whole_n, List.length_map, decide_true, decide_false, leng0, leng1, leng2, leng3, leng4, if_true, if_false, eq_self, Nat.reduceEqDiff, Nat.reduceLT, Nat.reduceLeDiff, c, ins_eq (le := fun o x : Rat => decide (o < x)) _ _ (show acc.length ≤ 1000 by omega) w]
theorem rise_get {xs : List Rat} {i : Nat} (h : i < xs.length) : (riseR xs)[i]? = some ((fallR xs).getD (xs.length - 1 - i) 0) := by
  have hl : i < (fallR xs).length := by rw [fall_len]; exact h
  rw [rise_fall, List.getElem?_reverse hl, List.getD_eq_getElem?_getD, fall_len, List.getElem?_eq_getElem (by rw [fall_len]; omega)]
  rfl
theorem run_lw_pick {R xs v : PyData} {a : Str} {l : List PyData} {ds rs : List PyData} {δ' : DEnv} {x4 x6 x7 : DV} {bl bg : Bool} (hR : ixD R (natD 0) = some (.str a)) (hs : eqD (.str a) (.str "shares") = some (.bool false)) (hp : eqD (.str a) (.str "product") = some (.bool false)) (hl : eqD (.str a) (.str "least") = some (.bool bl)) (hg : eqD (.str a) (.str "greatest") = some (.bool bg))
    (h1 : dList (fVar 1) [.val R, .val xs, .no, .no, .no, .own [], .no, .no] = some ds) (h2 : forD (pName 4) B_law_worth_3 ds [.val R, .val xs, .no, .no, .no, .own [], .no, .no] = some (.nx δ')) (h3 : δ' = [.val R, .val xs, .no, .no, x4, .own rs, x6, x7])
    (h4 : (bl = true ∧ ixD (.list rs) (natD 0) = some v) ∨ (bl = false ∧ bg = true ∧ ixD (.list rs) (.int (-1)) = some v) ∨ (bl = false ∧ bg = false ∧ ∃ k d, ixD R (natD 1) = some k ∧ subD (natD rs.length) k = some d ∧ ixD (.list rs) d = some v)) :
    F_law_worth [R, xs] = some v := by
  rw [r_law_worth]
  rcases h4 with ⟨rfl, h4⟩ | ⟨rfl, rfl, h4⟩ | ⟨rfl, rfl, k, d, h4, h5, h6⟩
  · simp only [B_law_worth, sSeq_ap, sIf_ap, bOf_ap, bAnd_ap, bOr_ap, bNot_ap, bYes_ap, fAnd_ap, fOr_ap, fNot_ap, fIf_ap, sPat_ap, pName_ap, pTup_ap, setAll, sSkip_ap, sRet_ap, sOwn_ap, sFrz_ap, frz, frz1, sApp_ap, sIns_ap, sDo_ap, fTup_ap, fLstN_ap, fList_ap, fCall_ap, fCons_ap, fNil_ap, f1_ap, f2_ap, fVar_ap, fC_ap, sFor_ap, List.foldl_cons, List.foldl_nil, List.set_cons_succ, List.set_cons_zero, List.getElem?_cons_zero, List.getElem?_cons_succ, Option.bind_some, fin_rt, fin_nx, Bool.not_true, Bool.not_false, wipeD, nought_fr, one_fr, int_0, int_1, int_2, int_3, int_4, int_8, int_12, len_list, len_tup, len_map, isi_list, isi_tup, isi_str, lt_nn, le_nn, gt_nn, ge_nn, eq_nn, ne_nn, add_nn, whole_n, List.length_map, decide_true, decide_false, leng0, leng1, leng2, leng3, leng4, if_true, if_false, eq_self, Nat.reduceEqDiff, Nat.reduceLT, Nat.reduceLeDiff, hR, hs, hp, hl, h1, h2, h3, h4]
  · simp only [B_law_worth, sSeq_ap, sIf_ap, bOf_ap, bAnd_ap, bOr_ap, bNot_ap, bYes_ap, fAnd_ap, fOr_ap, fNot_ap, fIf_ap, sPat_ap, pName_ap, pTup_ap, setAll, sSkip_ap, sRet_ap, sOwn_ap, sFrz_ap, frz, frz1, sApp_ap, sIns_ap, sDo_ap, fTup_ap, fLstN_ap, fList_ap, fCall_ap, fCons_ap, fNil_ap, f1_ap, f2_ap, fVar_ap, fC_ap, sFor_ap, List.foldl_cons, List.foldl_nil, List.set_cons_succ, List.set_cons_zero, List.getElem?_cons_zero, List.getElem?_cons_succ, Option.bind_some, fin_rt, fin_nx, Bool.not_true, Bool.not_false, wipeD, nought_fr, one_fr, int_0, int_1, int_2, int_3, int_4, int_8, int_12, len_list, len_tup, len_map, isi_list, isi_tup, isi_str, lt_nn, le_nn, gt_nn, ge_nn, eq_nn, ne_nn, add_nn, whole_n, List.length_map, decide_true, decide_false, leng0, leng1, leng2, leng3, leng4, if_true, if_false, eq_self, Nat.reduceEqDiff, Nat.reduceLT, Nat.reduceLeDiff, hR, hs, hp, hl, hg, h1, h2, h3, neg_1, h4]
  · simp only [B_law_worth, sSeq_ap, sIf_ap, bOf_ap, bAnd_ap, bOr_ap, bNot_ap, bYes_ap, fAnd_ap, fOr_ap, fNot_ap, fIf_ap, sPat_ap, pName_ap, pTup_ap, setAll, sSkip_ap, sRet_ap, sOwn_ap, sFrz_ap, frz, frz1, sApp_ap, sIns_ap, sDo_ap, fTup_ap, fLstN_ap, fList_ap, fCall_ap, fCons_ap, fNil_ap, f1_ap, f2_ap, fVar_ap, fC_ap, sFor_ap, List.foldl_cons, List.foldl_nil, List.set_cons_succ, List.set_cons_zero, List.getElem?_cons_zero, List.getElem?_cons_succ, Option.bind_some, fin_rt, fin_nx, Bool.not_true, Bool.not_false, wipeD, nought_fr, one_fr, int_0, int_1, int_2, int_3, int_4, int_8, int_12, len_list, len_tup, len_map, isi_list, isi_tup, isi_str, lt_nn, le_nn, gt_nn, ge_nn, eq_nn, ne_nn, add_nn, whole_n, List.length_map, decide_true, decide_false, leng0, leng1, leng2, leng3, leng4, if_true, if_false, eq_self, Nat.reduceEqDiff, Nat.reduceLT, Nat.reduceLeDiff, hR, hs, hp, hl, hg, h1, h2, h3, h4, h5, h6]
theorem fl_worth {n : Nat} {r : Rule} {xs : List Rat} (h : Rok n r) (hn : xs.length = n) (n1 : 1 ≤ n) (n4 : n ≤ 4) (hx : ∀ x ∈ xs, Wo x) : F_law_worth [ruleD r, rowD xs] = some (frR (worthR r xs)) := by
  have loop : ∀ R : PyData, ∃ δ' x4 x6 x7, forD (pName 4) B_law_worth_3 (xs.map frR) [.val R, .val (rowD xs), .no, .no, .no, .own [], .no, .no] = some (.nx δ') ∧ δ' = [.val R, .val (rowD xs), .no, .no, x4, .own ((riseR xs).map frR), x6, x7] := fun R => by
    obtain ⟨δ', h1, x4, x6, x7, h2⟩ := loop_sort (enc := frR) (encB := frR) (p := pName 4) (body := B_law_worth_3) (le := fun o x => decide (o < x)) id xs [.val R, .val (rowD xs), .no, .no, .no, .own [], .no, .no]
      (fun acc δ => ∃ x4 x6 x7, δ = [.val R, .val (rowD xs), .no, .no, x4, .own (acc.map frR), x6, x7]) ⟨_, _, _, rfl⟩ (by
        rintro acc w δ ha hal hw ⟨x4, x6, x7, rfl⟩
        exact ⟨_, _, rfl, rise_step (acc := acc) (fun o ho => by
          obtain ⟨y, q1, e⟩ := ha o ho
          rw [e]
          exact hx y q1) (by omega) (hx w hw) x6 x7, _, _, _, rfl⟩)
    rw [List.map_id] at h2
    exact ⟨δ', x4, x6, x7, h1, h2⟩
  have rl := rise_len xs
  cases r with
  | least =>
    obtain ⟨δ', x4, x6, x7, h1, h2⟩ := loop (ruleD .least)
    refine run_lw_pick (l := []) (ds := xs.map frR) (a := "least") rfl ls lp ll (show eqD (.str "least") (.str "greatest") = some (.bool false) by kernel_rfl) rfl h1 h2 (.inl ⟨rfl, ?_⟩)
    have e := rise_get (xs := xs) (i := 0) (by omega)
    exact ix_map e
  | greatest =>
    obtain ⟨δ', x4, x6, x7, h1, h2⟩ := loop (ruleD .greatest)
    refine run_lw_pick (l := []) (ds := xs.map frR) (a := "greatest") rfl gs gp gl gg rfl h1 h2 (.inr (.inl ⟨rfl, rfl, ?_⟩))
    have e := rise_get (xs := xs) (i := xs.length - 1) (by omega)
    have e2 : (riseR xs).getLast? = some ((fallR xs).getD (xs.length - 1 - (xs.length - 1)) 0) := by
      rw [List.getLast?_eq_getElem?, rl]
      exact e
    rw [Nat.sub_self] at e2
    exact ix_lastm e2
  | middle k =>
    obtain ⟨k1, k2⟩ := h
    obtain ⟨δ', x4, x6, x7, h1, h2⟩ := loop (ruleD (.middle k))
    refine run_lw_pick (l := []) (ds := xs.map frR) (a := "middle") rfl ms mp ml mg rfl h1 h2 (.inr (.inr ⟨rfl, rfl, natD k, natD (n - k), rfl, ?_, ?_⟩))
    · rw [List.length_map, rl, hn]
      exact sub_nn k2
    · have e := rise_get (xs := xs) (i := n - k) (by omega)
      have e3 : xs.length - 1 - (n - k) = k - 1 := by omega
      rw [e3] at e
      exact ix_map e
  | product =>
    obtain ⟨δ', h1, x4, h2, _, _⟩ := for_inv (enc := frR) (p := pName 4) (body := B_law_worth_2) (xs := xs) (δ := [.val (ruleD .product), .val (rowD xs), .val (frR 1), .no, .no, .no, .no, .no])
      (fun pr δ => ∃ x4, δ = [.val (ruleD .product), .val (rowD xs), .val (frR (pr.foldl (fun t x => t * x) 1)), .no, x4, .no, .no, .no] ∧ 0 ≤ pr.foldl (fun t x => t * x) (1 : Rat) ∧ Sz (1 + 40 * pr.length) (pr.foldl (fun t x => t * x) 1)) ⟨_, rfl, by decide, sz1⟩ (by
        rintro pr x po δ e ⟨x4, rfl, h0, hs⟩
        have hl : pr.length ≤ 4 := by
          have := congrArg List.length e
          rw [List.length_append] at this
          omega
        have ef : (pr ++ [x]).foldl (fun t x => t * x) (1 : Rat) = pr.foldl (fun t x => t * x) 1 * x := by rw [List.foldl_append]; rfl
        obtain ⟨q1, q2, q3⟩ := prod_step (ws := []) (xs := []) (a0 := .val (ruleD .product)) (a1 := .val (rowD xs)) (x3 := .no) (x5 := .no) (x6 := .no) (x7 := .no) h0 hs (by omega) (hx x (by rw [e]; exact List.mem_append_right _ List.mem_cons_self))
        refine ⟨_, _, rfl, q1, _, by rw [ef], by rw [ef]; exact q2, ?_⟩
        rw [ef, List.length_append]
        exact q3.up (by simp only [List.length_cons, List.length_nil]; omega))
    have e1 : dList (fVar 1) [.val (ruleD .product), .val (rowD xs), .val (frR 1), .no, .no, .no, .no, .no] = some (xs.map frR) := rfl
    have e2 : ixD (ruleD .product) (natD 0) = some (.str "product") := rfl
    have e3 : PyData.tuple [natD 1, natD 1] = frR 1 := rfl
    rw [r_law_worth]
    simp only [B_law_worth, sSeq_ap, sIf_ap, bOf_ap, bAnd_ap, bOr_ap, bNot_ap, bYes_ap, fAnd_ap, fOr_ap, fNot_ap, fIf_ap, sPat_ap, pName_ap, pTup_ap, setAll, sSkip_ap, sRet_ap, sOwn_ap, sFrz_ap, frz, frz1, sApp_ap, sIns_ap, sDo_ap, fTup_ap, fLstN_ap, fList_ap, fCall_ap, fCons_ap, fNil_ap, f1_ap, f2_ap, fVar_ap, fC_ap, sFor_ap, List.foldl_cons, List.foldl_nil, List.set_cons_succ, List.set_cons_zero, List.getElem?_cons_zero, List.getElem?_cons_succ, Option.bind_some, fin_rt, fin_nx, Bool.not_true, Bool.not_false, wipeD, nought_fr, one_fr, int_0, int_1, int_2, int_3, int_4, int_8, int_12, len_list, len_tup, len_map, isi_list, isi_tup, isi_str, lt_nn, le_nn, gt_nn, ge_nn, eq_nn, ne_nn, add_nn, whole_n, List.length_map, decide_true, decide_false, leng0, leng1, leng2, leng3, leng4, if_true, if_false, eq_self, Nat.reduceEqDiff, Nat.reduceLT, Nat.reduceLeDiff, e2, ps, pp, e3, e1, h1, h2]
    rfl
  | shares ws =>
    obtain ⟨k1, k2⟩ := h
    have hwk : ∀ k, k < n → ws[k]? = some (W ws k) ∧ xs[k]? = some (W xs k) := fun k hk => ⟨at_W (by omega), at_W (by omega)⟩
    obtain ⟨δ', h1, x3, h2, _, _⟩ := for_inv (enc := natD) (p := pName 3) (body := B_law_worth_1) (xs := List.range n) (δ := [.val (ruleD (.shares ws)), .val (rowD xs), .val (frR 0), .no, .no, .no, .no, .no])
      (fun pr δ => ∃ x3, δ = [.val (ruleD (.shares ws)), .val (rowD xs), .val (frR (((ws.zip xs).take pr.length).foldl shareR 0)), x3, .no, .no, .no, .no] ∧ 0 ≤ ((ws.zip xs).take pr.length).foldl shareR 0 ∧ Sz (1 + 44 * pr.length) (((ws.zip xs).take pr.length).foldl shareR 0)) ⟨_, rfl, (Rat.le_refl : (0 : Rat) ≤ 0), sz0⟩ (by
        rintro pr k po δ e ⟨x3, rfl, h0, hs⟩
        obtain ⟨rfl, hk⟩ := range_at e
        obtain ⟨a1, a2⟩ := hwk pr.length hk
        have az : (ws.zip xs)[pr.length]? = some (W ws pr.length, W xs pr.length) := List.getElem?_zip_eq_some.mpr ⟨a1, a2⟩
        have ef : ((ws.zip xs).take (pr.length + 1)).foldl shareR 0 = ((ws.zip xs).take pr.length).foldl shareR 0 + W ws pr.length * W xs pr.length := by
          rw [List.take_add_one, az, List.foldl_append]
          rfl
        obtain ⟨q1, q2, q3⟩ := share_step (x4 := .no) (x5 := .no) (x6 := .no) (x7 := .no) a1 a2 h0 hs (by omega) (k2 _ (List.mem_of_getElem? a1)) (hx _ (List.mem_of_getElem? a2))
        have el : (pr ++ [pr.length]).length = pr.length + 1 := by rw [List.length_append]; rfl
        refine ⟨_, _, rfl, q1, _, by rw [el, ef], by rw [el, ef]; exact q2, ?_⟩
        rw [el, ef]
        exact q3.up (by omega))
    have e1 := dRange_ap (fCall lenD (fCons (fVar 1) fNil)) [.val (ruleD (.shares ws)), .val (rowD xs), .val (frR 0), .no, .no, .no, .no, .no] (n := n) (by simp only [sSeq_ap, sIf_ap, bOf_ap, bAnd_ap, bOr_ap, bNot_ap, bYes_ap, fAnd_ap, fOr_ap, fNot_ap, fIf_ap, sPat_ap, pName_ap, pTup_ap, setAll, sSkip_ap, sRet_ap, sOwn_ap, sFrz_ap, frz, frz1, sApp_ap, sIns_ap, sDo_ap, fTup_ap, fLstN_ap, fList_ap, fCall_ap, fCons_ap, fNil_ap, f1_ap, f2_ap, fVar_ap, fC_ap, sFor_ap, List.foldl_cons, List.foldl_nil, List.set_cons_succ, List.set_cons_zero, List.getElem?_cons_zero, List.getElem?_cons_succ, Option.bind_some, fin_rt, fin_nx, Bool.not_true, Bool.not_false, wipeD, nought_fr, one_fr, int_0, int_1, int_2, int_3, int_4, int_8, int_12, len_list, len_tup, len_map, isi_list, isi_tup, isi_str, lt_nn, le_nn, gt_nn, ge_nn, eq_nn, ne_nn, add_nn, whole_n, List.length_map, decide_true, decide_false, leng0, leng1, leng2, leng3, leng4, if_true, if_false, eq_self, Nat.reduceEqDiff, Nat.reduceLT, Nat.reduceLeDiff, len_row, hn]) (by omega)
    have e2 : ixD (ruleD (.shares ws)) (natD 0) = some (.str "shares") := rfl
    have e3 : PyData.tuple [natD 0, natD 1] = frR 0 := rfl
    rw [List.length_range, List.take_of_length_le (by rw [List.length_zip]; omega)] at h2
    rw [r_law_worth]
    simp only [B_law_worth, sSeq_ap, sIf_ap, bOf_ap, bAnd_ap, bOr_ap, bNot_ap, bYes_ap, fAnd_ap, fOr_ap, fNot_ap, fIf_ap, sPat_ap, pName_ap, pTup_ap, setAll, sSkip_ap, sRet_ap, sOwn_ap, sFrz_ap, frz, frz1, sApp_ap, sIns_ap, sDo_ap, fTup_ap, fLstN_ap, fList_ap, fCall_ap, fCons_ap, fNil_ap, f1_ap, f2_ap, fVar_ap, fC_ap, sFor_ap, List.foldl_cons, List.foldl_nil, List.set_cons_succ, List.set_cons_zero, List.getElem?_cons_zero, List.getElem?_cons_succ, Option.bind_some, fin_rt, fin_nx, Bool.not_true, Bool.not_false, wipeD, nought_fr, one_fr, int_0, int_1, int_2, int_3, int_4, int_8, int_12, len_list, len_tup, len_map, isi_list, isi_tup, isi_str, lt_nn, le_nn, gt_nn, ge_nn, eq_nn, ne_nn, add_nn, whole_n, List.length_map, decide_true, decide_false, leng0, leng1, leng2, leng3, leng4, if_true, if_false, eq_self, Nat.reduceEqDiff, Nat.reduceLT, Nat.reduceLeDiff, e2, ss, e3, e1, h1, h2]
    rfl
/-! ### the law's order -/
theorem lorder_step {r : List Rat} (hr : ∀ w ∈ r, Bo w) {acc : List Nat} (hin : ∀ o ∈ acc, o < r.length) (hl : acc.length ≤ 100) {k : Nat} (hk : k < r.length) (x3 x4 : DV) :
    B_law_order_1 [.val (rowD r), .own (acc.map natD), .val (natD k), x3, x4] = some (.nx [.val (rowD r), .own ((insBy (leW r) acc k).map natD), .val (natD k), .val (natD (acc.filter fun o => leW r o k).length), x4]) := by
  have c : fComp (dVar 1) (pName 4) (bNot (bOf (fCall F_law_below (fCons (f2 ixD (fVar 0) (fVar 4)) (fCons (f2 ixD (fVar 0) (fVar 2)) fNil))))) (fVar 4) [4] [.val (rowD r), .own (acc.map natD), .val (natD k), x3, x4] =
      some ((acc.filter fun o => leW r o k).map natD) := comp_keep (enc := natD) _ _ _ rfl (by omega) fun o ho => ⟨_, rfl, by
        have q := fl_below (hr _ (List.mem_of_getElem? (at_W (hin o ho)))).sz (hr _ (List.mem_of_getElem? (at_W hk))).sz (by decide) (by decide)
        simp only [sSeq_ap, sIf_ap, bOf_ap, bAnd_ap, bOr_ap, bNot_ap, bYes_ap, fAnd_ap, fOr_ap, fNot_ap, fIf_ap, sPat_ap, pName_ap, pTup_ap, setAll, sSkip_ap, sRet_ap, sOwn_ap, sFrz_ap, frz, frz1, sApp_ap, sIns_ap, sDo_ap, fTup_ap, fLstN_ap, fList_ap, fCall_ap, fCons_ap, fNil_ap, f1_ap, f2_ap, fVar_ap, fC_ap, sFor_ap, List.foldl_cons, List.foldl_nil, List.set_cons_succ, List.set_cons_zero, List.getElem?_cons_zero, List.getElem?_cons_succ, Option.bind_some, fin_rt, fin_nx, Bool.not_true, Bool.not_false, wipeD, nought_fr, one_fr, int_0, int_1, int_2, int_3, int_4, int_8, int_12, len_list, len_tup, len_map, isi_list, isi_tup, isi_str, lt_nn, le_nn, gt_nn, ge_nn, eq_nn, ne_nn, add_nn, whole_n, List.length_map, decide_true, decide_false, leng0, leng1, leng2, leng3, leng4, if_true, if_false, eq_self, Nat.reduceEqDiff, Nat.reduceLT, Nat.reduceLeDiff, ix_row (at_W (hin o ho)), ix_row (at_W hk), q, not_lt_dec]
        rfl, fun _ => rfl⟩
  simp only [B_law_order_1, sSeq_ap, sIf_ap, bOf_ap, bAnd_ap, bOr_ap, bNot_ap, bYes_ap, fAnd_ap, fOr_ap, fNot_ap, fIf_ap, sPat_ap, pName_ap, pTup_ap, setAll, sSkip_ap, sRet_ap, sOwn_ap, sFrz_ap, frz, frz1, sApp_ap, sIns_ap, sDo_ap, fTup_ap, fLstN_ap, fList_ap, fCall_ap, fCons_ap, fNil_ap, f1_ap, f2_ap, fVar_ap, fC_ap, sFor_ap, List.foldl_cons, List.foldl_nil, List.set_cons_succ, List.set_cons_zero, List.getElem?_cons_zero, List.getElem?_cons_succ, Option.bind_some, fin_rt, fin_nx, Bool.not_true, Bool.not_false, wipeD, nought_fr, one_fr, int_0, int_1, int_2, int_3, int_4, int_8, int_12, len_list, len_tup, len_map, isi_list, isi_tup, isi_str, lt_nn, le_nn, gt_nn, ge_nn, eq_nn, ne_nn, add_nn, whole_n, List.length_map, decide_true, decide_false, leng0, leng1, leng2, leng3, leng4, if_true, if_false, eq_self, Nat.reduceEqDiff, Nat.reduceLT, Nat.reduceLeDiff, c, ins_eq (le := leW r) _ _ (show acc.length ≤ 1000 by omega) k]
theorem fl_order {r : List Rat} (hr : ∀ w ∈ r, Bo w) (hl : r.length ≤ 12) : F_law_order [rowD r] = some (natsD (orderR r)) := by
  obtain ⟨δ', h1, x2, x3, x4, h2⟩ := loop_sort (enc := natD) (encB := natD) (p := pName 2) (body := B_law_order_1) (le := leW r) id (List.range r.length) [.val (rowD r), .own [], .no, .no, .no]
    (fun acc δ => ∃ x2 x3 x4, δ = [.val (rowD r), .own (acc.map natD), x2, x3, x4]) ⟨_, _, _, rfl⟩ (by
      rintro acc k δ ha hal hk ⟨x2, x3, x4, rfl⟩
      rw [List.length_range] at hal
      exact ⟨_, _, rfl, lorder_step hr (acc := acc) (fun o ho => by
        obtain ⟨y, q1, e⟩ := ha o ho
        rw [e]
        exact List.mem_range.mp q1) (by omega) (List.mem_range.mp hk) x3 x4, _, _, _, rfl⟩)
  rw [List.map_id] at h2
  have e1 := dRange_ap (fCall lenD (fCons (fVar 0) fNil)) [.val (rowD r), .own [], .no, .no, .no] (n := r.length) (by simp only [sSeq_ap, sIf_ap, bOf_ap, bAnd_ap, bOr_ap, bNot_ap, bYes_ap, fAnd_ap, fOr_ap, fNot_ap, fIf_ap, sPat_ap, pName_ap, pTup_ap, setAll, sSkip_ap, sRet_ap, sOwn_ap, sFrz_ap, frz, frz1, sApp_ap, sIns_ap, sDo_ap, fTup_ap, fLstN_ap, fList_ap, fCall_ap, fCons_ap, fNil_ap, f1_ap, f2_ap, fVar_ap, fC_ap, sFor_ap, List.foldl_cons, List.foldl_nil, List.set_cons_succ, List.set_cons_zero, List.getElem?_cons_zero, List.getElem?_cons_succ, Option.bind_some, fin_rt, fin_nx, Bool.not_true, Bool.not_false, wipeD, nought_fr, one_fr, int_0, int_1, int_2, int_3, int_4, int_8, int_12, len_list, len_tup, len_map, isi_list, isi_tup, isi_str, lt_nn, le_nn, gt_nn, ge_nn, eq_nn, ne_nn, add_nn, whole_n, List.length_map, decide_true, decide_false, leng0, leng1, leng2, leng3, leng4, if_true, if_false, eq_self, Nat.reduceEqDiff, Nat.reduceLT, Nat.reduceLeDiff, len_row]) (by omega)
  rw [r_law_order]
  simp only [B_law_order, sSeq_ap, sIf_ap, bOf_ap, bAnd_ap, bOr_ap, bNot_ap, bYes_ap, fAnd_ap, fOr_ap, fNot_ap, fIf_ap, sPat_ap, pName_ap, pTup_ap, setAll, sSkip_ap, sRet_ap, sOwn_ap, sFrz_ap, frz, frz1, sApp_ap, sIns_ap, sDo_ap, fTup_ap, fLstN_ap, fList_ap, fCall_ap, fCons_ap, fNil_ap, f1_ap, f2_ap, fVar_ap, fC_ap, sFor_ap, List.foldl_cons, List.foldl_nil, List.set_cons_succ, List.set_cons_zero, List.getElem?_cons_zero, List.getElem?_cons_succ, Option.bind_some, fin_rt, fin_nx, Bool.not_true, Bool.not_false, wipeD, nought_fr, one_fr, int_0, int_1, int_2, int_3, int_4, int_8, int_12, len_list, len_tup, len_map, isi_list, isi_tup, isi_str, lt_nn, le_nn, gt_nn, ge_nn, eq_nn, ne_nn, add_nn, whole_n, List.length_map, decide_true, decide_false, leng0, leng1, leng2, leng3, leng4, if_true, if_false, eq_self, Nat.reduceEqDiff, Nat.reduceLT, Nat.reduceLeDiff, e1, h1, h2]
  rfl
/-! ### looks -/
/-- what has been asked before (k, t) -/
structure AskI (m k t : Nat) (as : List (Nat × Nat)) : Prop where
  ar : as.Pairwise lexlt
  lt : ∀ p ∈ as, lexlt p (k, t) ∧ p.2 < m
  al : as.length ≤ 12 * k + t
theorem AskI.skip {m k t : Nat} {as : List (Nat × Nat)} (h : AskI m k t as) : AskI m k (t + 1) as := by
  refine ⟨h.ar, fun p hp => ⟨?_, (h.lt p hp).2⟩, by have := h.al; omega⟩
  rcases (h.lt p hp).1 with q | ⟨q1, q2⟩
  · exact .inl q
  · exact .inr ⟨q1, by
      have : p.2 < t := q2
      show p.2 < t + 1
      omega⟩
theorem AskI.put {m k t : Nat} {as : List (Nat × Nat)} (h : AskI m k t as) (ht : t < m) : AskI m k (t + 1) (as ++ [(k, t)]) := by
  refine ⟨List.pairwise_append.mpr ⟨h.ar, List.pairwise_singleton _ _, fun a ha b hb => ?_⟩, fun p hp => ?_, by
    have := h.al
    rw [List.length_append]
    simp only [List.length_cons, List.length_nil]
    omega⟩
  · rw [List.mem_singleton.mp hb]
    exact (h.lt a ha).1
  · rcases List.mem_append.mp hp with hp | hp
    · exact h.skip.lt p hp
    · rw [List.mem_singleton.mp hp]
      exact ⟨.inr ⟨rfl, Nat.lt_succ_self t⟩, ht⟩
theorem AskI.next {m k : Nat} {as : List (Nat × Nat)} (h : AskI m k m as) (hm : m ≤ 12) : AskI m (k + 1) 0 as := by
  refine ⟨h.ar, fun p hp => ⟨?_, (h.lt p hp).2⟩, by have := h.al; omega⟩
  rcases (h.lt p hp).1 with q | ⟨q1, q2⟩
  · have : p.1 < k := q
    exact .inl (by show p.1 < k + 1; omega)
  · have : p.1 = k := q1
    exact .inl (by show p.1 < k + 1; omega)
theorem AskI.lok {n m : Nat} {as : List (Nat × Nat)} {ds : List Nat} (h : AskI m n 0 as) (n4 : n ≤ 4) (hd : ds.length = n) (hm : ∀ d ∈ ds, d ≤ m) : Lok n m ds as := by
  refine ⟨hd, hm, fun p hp => ⟨?_, (h.lt p hp).2⟩, h.ar, by have := h.al; omega⟩
  rcases (h.lt p hp).1 with q | ⟨_, q2⟩
  · exact q
  · exact absurd q2 (Nat.not_lt_zero _)
theorem mod5 (v : Nat) : modD (natD v) (.int 5) = some (natD (v % 5)) := mod_nn (j := 5) (by decide)
theorem div5 (v : Nat) : divD (natD v) (.int 5) = some (natD (v / 5)) := div_nn (j := 5) (by decide) (by decide)
theorem mod4 (v : Nat) : modD (natD v) (natD 4) = some (natD (v % 4)) := mod_nn (by decide)
theorem div4 (v : Nat) : divD (natD v) (natD 4) = some (natD (v / 4)) := div_nn (by decide) (by decide)
theorem mod3 (v : Nat) : modD (natD v) (natD 3) = some (natD (v % 3)) := mod_nn (by decide)
theorem div2 (v : Nat) : divD (natD v) (natD 2) = some (natD (v / 2)) := div_nn (by decide) (by decide)
theorem tupp (k t : Nat) : PyData.tuple [natD k, natD t] = pairD (k, t) := rfl
theorem looks_step1 {a0 a1 a2 x6 a7 a8 a9 a10 : DV} {v m : Nat} {acc : List Nat} (hm : m ≤ 12) (hl : acc.length ≤ 100) : B_law_looks_1 [a0, a1, a2, .val (natD v), .val (natD m), .own (acc.map natD), x6, a7, a8, a9, a10] =
    some (.nx [a0, a1, a2, .val (natD (v / (m + 1))), .val (natD m), .own ((acc ++ [v % (m + 1)]).map natD), x6, a7, a8, a9, a10]) := by
  have e1 : modD (natD v) (natD (m + 1)) = some (natD (v % (m + 1))) := mod_nn (by omega)
  have e2 : divD (natD v) (natD (m + 1)) = some (natD (v / (m + 1))) := div_nn (by omega) (by omega)
  simp only [B_law_looks_1, sSeq_ap, sIf_ap, bOf_ap, bAnd_ap, bOr_ap, bNot_ap, bYes_ap, fAnd_ap, fOr_ap, fNot_ap, fIf_ap, sPat_ap, pName_ap, pTup_ap, setAll, sSkip_ap, sRet_ap, sOwn_ap, sFrz_ap, frz, frz1, sApp_ap, sIns_ap, sDo_ap, fTup_ap, fLstN_ap, fList_ap, fCall_ap, fCons_ap, fNil_ap, f1_ap, f2_ap, fVar_ap, fC_ap, sFor_ap, List.foldl_cons, List.foldl_nil, List.set_cons_succ, List.set_cons_zero, List.getElem?_cons_zero, List.getElem?_cons_succ, Option.bind_some, fin_rt, fin_nx, Bool.not_true, Bool.not_false, wipeD, nought_fr, one_fr, int_0, int_1, int_2, int_3, int_4, int_8, int_12, len_list, len_tup, len_map, isi_list, isi_tup, isi_str, lt_nn, le_nn, gt_nn, ge_nn, eq_nn, ne_nn, add_nn, whole_n, List.length_map, decide_true, decide_false, leng0, leng1, leng2, leng3, leng4, if_true, if_false, eq_self, Nat.reduceEqDiff, Nat.reduceLT, Nat.reduceLeDiff, e1, e2, app_map _ _ (show acc.length ≤ 1000 by omega)]
theorem looks_step2 {a0 a1 a2 a3 a4 a5 a10 : DV} {k t v m : Nat} {as : List (Nat × Nat)} (ht : t < m) (hl : as.length ≤ 100) (ha : AskI m k t as) : ∃ as', AskI m k (t + 1) as' ∧ B_law_looks_2 [a0, a1, a2, a3, a4, a5, .val (natD k), .own (as.map pairD), .val (natD v), .val (natD t), a10] =
    some (.nx [a0, a1, a2, a3, a4, a5, .val (natD k), .own (as'.map pairD), .val (natD (v / 5)), .val (natD t), a10]) := by
  cases d : decide (v % 5 = 1) with
  | true => exact ⟨as ++ [(k, t)], ha.put ht, by simp only [B_law_looks_2, sSeq_ap, sIf_ap, bOf_ap, bAnd_ap, bOr_ap, bNot_ap, bYes_ap, fAnd_ap, fOr_ap, fNot_ap, fIf_ap, sPat_ap, pName_ap, pTup_ap, setAll, sSkip_ap, sRet_ap, sOwn_ap, sFrz_ap, frz, frz1, sApp_ap, sIns_ap, sDo_ap, fTup_ap, fLstN_ap, fList_ap, fCall_ap, fCons_ap, fNil_ap, f1_ap, f2_ap, fVar_ap, fC_ap, sFor_ap, List.foldl_cons, List.foldl_nil, List.set_cons_succ, List.set_cons_zero, List.getElem?_cons_zero, List.getElem?_cons_succ, Option.bind_some, fin_rt, fin_nx, Bool.not_true, Bool.not_false, wipeD, nought_fr, one_fr, int_0, int_1, int_2, int_3, int_4, int_8, int_12, len_list, len_tup, len_map, isi_list, isi_tup, isi_str, lt_nn, le_nn, gt_nn, ge_nn, eq_nn, ne_nn, add_nn, whole_n, List.length_map, decide_true, decide_false, leng0, leng1, leng2, leng3, leng4, if_true, if_false, eq_self, Nat.reduceEqDiff, Nat.reduceLT, Nat.reduceLeDiff, mod5, div5, d, tupp, app_map _ _ (show as.length ≤ 1000 by omega)]⟩
  | false => exact ⟨as, ha.skip, by simp only [B_law_looks_2, sSeq_ap, sIf_ap, bOf_ap, bAnd_ap, bOr_ap, bNot_ap, bYes_ap, fAnd_ap, fOr_ap, fNot_ap, fIf_ap, sPat_ap, pName_ap, pTup_ap, setAll, sSkip_ap, sRet_ap, sOwn_ap, sFrz_ap, frz, frz1, sApp_ap, sIns_ap, sDo_ap, fTup_ap, fLstN_ap, fList_ap, fCall_ap, fCons_ap, fNil_ap, f1_ap, f2_ap, fVar_ap, fC_ap, sFor_ap, List.foldl_cons, List.foldl_nil, List.set_cons_succ, List.set_cons_zero, List.getElem?_cons_zero, List.getElem?_cons_succ, Option.bind_some, fin_rt, fin_nx, Bool.not_true, Bool.not_false, wipeD, nought_fr, one_fr, int_0, int_1, int_2, int_3, int_4, int_8, int_12, len_list, len_tup, len_map, isi_list, isi_tup, isi_str, lt_nn, le_nn, gt_nn, ge_nn, eq_nn, ne_nn, add_nn, whole_n, List.length_map, decide_true, decide_false, leng0, leng1, leng2, leng3, leng4, if_true, if_false, eq_self, Nat.reduceEqDiff, Nat.reduceLT, Nat.reduceLeDiff, mod5, div5, d]⟩
theorem looks_step3 {a0 a1 a2 a3 a5 x9 a10 : DV} {k v m : Nat} {as : List (Nat × Nat)} (hm : m ≤ 12) (hk : k < 4) (ha : AskI m k 0 as) : ∃ as' v' y9, AskI m (k + 1) 0 as' ∧ B_law_looks_3 [a0, a1, a2, a3, .val (natD m), a5, .val (natD k), .own (as.map pairD), .val (natD v), x9, a10] =
    some (.nx [a0, a1, a2, a3, .val (natD m), a5, .val (natD k), .own (as'.map pairD), .val (natD v'), y9, a10]) := by
  obtain ⟨δ', h1, v', y9, as', h2, h3⟩ := for_inv (enc := natD) (p := pName 9) (body := B_law_looks_2) (xs := List.range m) (δ := [a0, a1, a2, a3, .val (natD m), a5, .val (natD k), .own (as.map pairD), .val (natD v), x9, a10])
    (fun pr δ => ∃ v x9, ∃ as : List (Nat × Nat), δ = [a0, a1, a2, a3, .val (natD m), a5, .val (natD k), .own (as.map pairD), .val (natD v), x9, a10] ∧ AskI m k pr.length as) ⟨_, _, as, rfl, ha⟩ (by
      rintro pr t po δ e ⟨v, x9, as, rfl, hi⟩
      obtain ⟨rfl, ht⟩ := range_at e
      obtain ⟨as', q1, q2⟩ := looks_step2 (a0 := a0) (a1 := a1) (a2 := a2) (a3 := a3) (a4 := .val (natD m)) (a5 := a5) (a10 := a10) (v := v) ht (by have := hi.al; omega) hi
      exact ⟨_, _, rfl, q2, _, _, as', rfl, by rw [List.length_append]; exact q1⟩)
  rw [List.length_range] at h3
  have e1 := dRange_ap (fVar 4) [a0, a1, a2, a3, .val (natD m), a5, .val (natD k), .own (as.map pairD), .val (natD v), x9, a10] (n := m) rfl (by omega)
  refine ⟨as', v', y9, h3.next hm, ?_⟩
  simp only [B_law_looks_3, sSeq_ap, sIf_ap, bOf_ap, bAnd_ap, bOr_ap, bNot_ap, bYes_ap, fAnd_ap, fOr_ap, fNot_ap, fIf_ap, sPat_ap, pName_ap, pTup_ap, setAll, sSkip_ap, sRet_ap, sOwn_ap, sFrz_ap, frz, frz1, sApp_ap, sIns_ap, sDo_ap, fTup_ap, fLstN_ap, fList_ap, fCall_ap, fCons_ap, fNil_ap, f1_ap, f2_ap, fVar_ap, fC_ap, sFor_ap, List.foldl_cons, List.foldl_nil, List.set_cons_succ, List.set_cons_zero, List.getElem?_cons_zero, List.getElem?_cons_succ, Option.bind_some, fin_rt, fin_nx, Bool.not_true, Bool.not_false, wipeD, nought_fr, one_fr, int_0, int_1, int_2, int_3, int_4, int_8, int_12, len_list, len_tup, len_map, isi_list, isi_tup, isi_str, lt_nn, le_nn, gt_nn, ge_nn, eq_nn, ne_nn, add_nn, whole_n, List.length_map, decide_true, decide_false, leng0, leng1, leng2, leng3, leng4, if_true, if_false, eq_self, Nat.reduceEqDiff, Nat.reduceLT, Nat.reduceLeDiff, e1, h1, h2]
theorem f_looks {m : Nat} {b : List (List Rat)} (ns : List Int) (h : Bok m b) : ∃ ds as, F_law_looks [scrD ns, .int 5, bookD b] = some (looksD ds as) ∧ Lok b.length m ds as := by
  have n2 := h.n2
  have m2 := h.m2
  obtain ⟨r, g1, g2, g3⟩ := h.hd
  obtain ⟨v, _, e1⟩ := f_cell ns 5
  obtain ⟨w, _, e2⟩ := f_cell ns 6
  have e3 : addD (.int 5) (natD 1) = some (natD 6) := rfl
  have e1' : F_law_cell [scrD ns, .int 5] = some (natD v) := e1
  obtain ⟨δ1, h1, v1, x6, ds, h2, h3, h4⟩ := for_inv (enc := natD) (p := pName 6) (body := B_law_looks_1) (xs := List.range b.length) (δ := [.val (scrD ns), .val (.int 5), .val (bookD b), .val (natD v), .val (natD m), .own [], .no, .no, .no, .no, .no])
    (fun pr δ => ∃ v x6, ∃ ds : List Nat, δ = [.val (scrD ns), .val (.int 5), .val (bookD b), .val (natD v), .val (natD m), .own (ds.map natD), x6, .no, .no, .no, .no] ∧ ds.length = pr.length ∧ ∀ d ∈ ds, d ≤ m) ⟨_, _, [], rfl, rfl, fun _ z => by cases z⟩ (by
      rintro pr k po δ e ⟨v, x6, ds, rfl, hl, hd⟩
      obtain ⟨rfl, hk⟩ := range_at e
      refine ⟨_, _, rfl, looks_step1 m2 (by omega), _, _, ds ++ [v % (m + 1)], rfl, by rw [List.length_append, List.length_append, hl]; rfl, fun d hd' => ?_⟩
      rcases List.mem_append.mp hd' with hd' | hd'
      · exact hd d hd'
      · rw [List.mem_singleton.mp hd']
        have : v % (m + 1) < m + 1 := Nat.mod_lt _ (by omega)
        omega)
  rw [List.length_range] at h3
  have e4 : dRange1 (fCall lenD (fCons (fVar 2) fNil)) [.val (scrD ns), .val (.int 5), .val (bookD b), .val (natD v), .val (natD m), .own [], .no, .no, .no, .no, .no] = some ((List.range b.length).map natD) := dRange_ap _ _ (by simp only [sSeq_ap, sIf_ap, bOf_ap, bAnd_ap, bOr_ap, bNot_ap, bYes_ap, fAnd_ap, fOr_ap, fNot_ap, fIf_ap, sPat_ap, pName_ap, pTup_ap, setAll, sSkip_ap, sRet_ap, sOwn_ap, sFrz_ap, frz, frz1, sApp_ap, sIns_ap, sDo_ap, fTup_ap, fLstN_ap, fList_ap, fCall_ap, fCons_ap, fNil_ap, f1_ap, f2_ap, fVar_ap, fC_ap, sFor_ap, List.foldl_cons, List.foldl_nil, List.set_cons_succ, List.set_cons_zero, List.getElem?_cons_zero, List.getElem?_cons_succ, Option.bind_some, fin_rt, fin_nx, Bool.not_true, Bool.not_false, wipeD, nought_fr, one_fr, int_0, int_1, int_2, int_3, int_4, int_8, int_12, len_list, len_tup, len_map, isi_list, isi_tup, isi_str, lt_nn, le_nn, gt_nn, ge_nn, eq_nn, ne_nn, add_nn, whole_n, List.length_map, decide_true, decide_false, leng0, leng1, leng2, leng3, leng4, if_true, if_false, eq_self, Nat.reduceEqDiff, Nat.reduceLT, Nat.reduceLeDiff, len_book]) (by omega)
  have e5 : ∀ ds' : List Nat, dRange1 (fCall lenD (fCons (fVar 2) fNil)) [.val (scrD ns), .val (.int 5), .val (bookD b), .val (natD v1), .val (natD m), .own (ds'.map natD), x6, .own [], .val (natD w), .no, .no] = some ((List.range b.length).map natD) := fun ds' => dRange_ap _ _ (by simp only [sSeq_ap, sIf_ap, bOf_ap, bAnd_ap, bOr_ap, bNot_ap, bYes_ap, fAnd_ap, fOr_ap, fNot_ap, fIf_ap, sPat_ap, pName_ap, pTup_ap, setAll, sSkip_ap, sRet_ap, sOwn_ap, sFrz_ap, frz, frz1, sApp_ap, sIns_ap, sDo_ap, fTup_ap, fLstN_ap, fList_ap, fCall_ap, fCons_ap, fNil_ap, f1_ap, f2_ap, fVar_ap, fC_ap, sFor_ap, List.foldl_cons, List.foldl_nil, List.set_cons_succ, List.set_cons_zero, List.getElem?_cons_zero, List.getElem?_cons_succ, Option.bind_some, fin_rt, fin_nx, Bool.not_true, Bool.not_false, wipeD, nought_fr, one_fr, int_0, int_1, int_2, int_3, int_4, int_8, int_12, len_list, len_tup, len_map, isi_list, isi_tup, isi_str, lt_nn, le_nn, gt_nn, ge_nn, eq_nn, ne_nn, add_nn, whole_n, List.length_map, decide_true, decide_false, leng0, leng1, leng2, leng3, leng4, if_true, if_false, eq_self, Nat.reduceEqDiff, Nat.reduceLT, Nat.reduceLeDiff, len_book]) (by omega)
  have c : fComp (dVar 5) (pName 10) bYes (f2 divD (fVar 10) (fC (natD 2))) [10] [.val (scrD ns), .val (.int 5), .val (bookD b), .val (natD v1), .val (natD m), .own (ds.map natD), x6, .no, .no, .no, .no] = some (ds.map fun d => natD (d / 2)) :=
    comp_map (enc := natD) _ ds rfl (by omega) fun d hd => ⟨_, rfl, by simp only [sSeq_ap, sIf_ap, bOf_ap, bAnd_ap, bOr_ap, bNot_ap, bYes_ap, fAnd_ap, fOr_ap, fNot_ap, fIf_ap, sPat_ap, pName_ap, pTup_ap, setAll, sSkip_ap, sRet_ap, sOwn_ap, sFrz_ap, frz, frz1, sApp_ap, sIns_ap, sDo_ap, fTup_ap, fLstN_ap, fList_ap, fCall_ap, fCons_ap, fNil_ap, f1_ap, f2_ap, fVar_ap, fC_ap, sFor_ap, List.foldl_cons, List.foldl_nil, List.set_cons_succ, List.set_cons_zero, List.getElem?_cons_zero, List.getElem?_cons_succ, Option.bind_some, fin_rt, fin_nx, Bool.not_true, Bool.not_false, wipeD, nought_fr, one_fr, int_0, int_1, int_2, int_3, int_4, int_8, int_12, len_list, len_tup, len_map, isi_list, isi_tup, isi_str, lt_nn, le_nn, gt_nn, ge_nn, eq_nn, ne_nn, add_nn, whole_n, List.length_map, decide_true, decide_false, leng0, leng1, leng2, leng3, leng4, if_true, if_false, eq_self, Nat.reduceEqDiff, Nat.reduceLT, Nat.reduceLeDiff, div2]⟩
  have ec : (ds.map fun d => natD (d / 2)) = (ds.map fun d => d / 2).map natD := by rw [List.map_map]; rfl
  have two : ∀ ds' : List Nat, ∃ δ2 k6 v8 x9, ∃ as : List (Nat × Nat), forD (pName 6) B_law_looks_3 ((List.range b.length).map natD) [.val (scrD ns), .val (.int 5), .val (bookD b), .val (natD v1), .val (natD m), .own (ds'.map natD), x6, .own [], .val (natD w), .no, .no] = some (.nx δ2) ∧
      δ2 = [.val (scrD ns), .val (.int 5), .val (bookD b), .val (natD v1), .val (natD m), .own (ds'.map natD), k6, .own (as.map pairD), v8, x9, .no] ∧ AskI m b.length 0 as := fun ds' => by
    obtain ⟨δ2, q1, k6, v8, x9, as, q2, q3⟩ := for_inv (enc := natD) (p := pName 6) (body := B_law_looks_3) (xs := List.range b.length) (δ := [.val (scrD ns), .val (.int 5), .val (bookD b), .val (natD v1), .val (natD m), .own (ds'.map natD), x6, .own [], .val (natD w), .no, .no])
      (fun pr δ => ∃ k6, ∃ v8 : Nat, ∃ x9, ∃ as : List (Nat × Nat), δ = [.val (scrD ns), .val (.int 5), .val (bookD b), .val (natD v1), .val (natD m), .own (ds'.map natD), k6, .own (as.map pairD), .val (natD v8), x9, .no] ∧ AskI m pr.length 0 as) ⟨_, _, _, [], rfl, .nil, fun _ z => (by cases z), Nat.zero_le _⟩ (by
        rintro pr k po δ e ⟨k6, v8, x9, as, rfl, hi⟩
        obtain ⟨rfl, hk⟩ := range_at e
        obtain ⟨as', v', y9, q1, q2⟩ := looks_step3 (a0 := .val (scrD ns)) (a1 := .val (.int 5)) (a2 := .val (bookD b)) (a3 := .val (natD v1)) (a5 := .own (ds'.map natD)) (x9 := x9) (a10 := .no) (v := v8) m2 (by omega) hi
        exact ⟨_, _, rfl, q2, _, _, _, as', rfl, by rw [List.length_append]; exact q1⟩)
    rw [List.length_range] at q3
    exact ⟨δ2, k6, .val (natD v8), x9, as, q1, q2, q3⟩
  have out : ∀ ds' : List Nat, ds'.length = b.length → (∀ d ∈ ds', d ≤ m) → ∀ as : List (Nat × Nat), AskI m b.length 0 as → Lok b.length m ds' as := fun ds' q1 q2 as q3 => q3.lok n2 q1 q2
  have nil : AskI m b.length 0 [] := ⟨.nil, fun _ z => (by cases z), Nat.zero_le _⟩
  cases d1 : decide (v1 % 4 = 0) with
  | true =>
    obtain ⟨δ2, k6, v8, x9, as, q1, q2, q3⟩ := two (ds.map fun d => d / 2)
    have hd : ∀ d ∈ ds.map (fun d => d / 2), d ≤ m := fun d hd => by
      obtain ⟨e, he, rfl⟩ := List.mem_map.mp hd
      have := h4 e he
      omega
    cases d2 : decide (v1 / 4 % 3 = 0) with
    | true =>
      refine ⟨_, [], ?_, out _ (by rw [List.length_map]; exact h3) hd [] nil⟩
      rw [r_law_looks]
      simp only [B_law_looks, sSeq_ap, sIf_ap, bOf_ap, bAnd_ap, bOr_ap, bNot_ap, bYes_ap, fAnd_ap, fOr_ap, fNot_ap, fIf_ap, sPat_ap, pName_ap, pTup_ap, setAll, sSkip_ap, sRet_ap, sOwn_ap, sFrz_ap, frz, frz1, sApp_ap, sIns_ap, sDo_ap, fTup_ap, fLstN_ap, fList_ap, fCall_ap, fCons_ap, fNil_ap, f1_ap, f2_ap, fVar_ap, fC_ap, sFor_ap, List.foldl_cons, List.foldl_nil, List.set_cons_succ, List.set_cons_zero, List.getElem?_cons_zero, List.getElem?_cons_succ, Option.bind_some, fin_rt, fin_nx, Bool.not_true, Bool.not_false, wipeD, nought_fr, one_fr, int_0, int_1, int_2, int_3, int_4, int_8, int_12, len_list, len_tup, len_map, isi_list, isi_tup, isi_str, lt_nn, le_nn, gt_nn, ge_nn, eq_nn, ne_nn, add_nn, whole_n, List.length_map, decide_true, decide_false, leng0, leng1, leng2, leng3, leng4, if_true, if_false, eq_self, Nat.reduceEqDiff, Nat.reduceLT, Nat.reduceLeDiff, e1', ix_book g1, len_row, g3, e4, e5, h1, h2, mod4, div4, mod3, d1, c, ec, e3, e2, q1, q2, d2]
      rfl
    | false =>
      refine ⟨_, as, ?_, out _ (by rw [List.length_map]; exact h3) hd as q3⟩
      rw [r_law_looks]
      simp only [B_law_looks, sSeq_ap, sIf_ap, bOf_ap, bAnd_ap, bOr_ap, bNot_ap, bYes_ap, fAnd_ap, fOr_ap, fNot_ap, fIf_ap, sPat_ap, pName_ap, pTup_ap, setAll, sSkip_ap, sRet_ap, sOwn_ap, sFrz_ap, frz, frz1, sApp_ap, sIns_ap, sDo_ap, fTup_ap, fLstN_ap, fList_ap, fCall_ap, fCons_ap, fNil_ap, f1_ap, f2_ap, fVar_ap, fC_ap, sFor_ap, List.foldl_cons, List.foldl_nil, List.set_cons_succ, List.set_cons_zero, List.getElem?_cons_zero, List.getElem?_cons_succ, Option.bind_some, fin_rt, fin_nx, Bool.not_true, Bool.not_false, wipeD, nought_fr, one_fr, int_0, int_1, int_2, int_3, int_4, int_8, int_12, len_list, len_tup, len_map, isi_list, isi_tup, isi_str, lt_nn, le_nn, gt_nn, ge_nn, eq_nn, ne_nn, add_nn, whole_n, List.length_map, decide_true, decide_false, leng0, leng1, leng2, leng3, leng4, if_true, if_false, eq_self, Nat.reduceEqDiff, Nat.reduceLT, Nat.reduceLeDiff, e1', ix_book g1, len_row, g3, e4, e5, h1, h2, mod4, div4, mod3, d1, c, ec, e3, e2, q1, q2, d2]
      rfl
  | false =>
    obtain ⟨δ2, k6, v8, x9, as, q1, q2, q3⟩ := two ds
    cases d2 : decide (v1 / 4 % 3 = 0) with
    | true =>
      refine ⟨_, [], ?_, out _ h3 h4 [] nil⟩
      rw [r_law_looks]
      simp only [B_law_looks, sSeq_ap, sIf_ap, bOf_ap, bAnd_ap, bOr_ap, bNot_ap, bYes_ap, fAnd_ap, fOr_ap, fNot_ap, fIf_ap, sPat_ap, pName_ap, pTup_ap, setAll, sSkip_ap, sRet_ap, sOwn_ap, sFrz_ap, frz, frz1, sApp_ap, sIns_ap, sDo_ap, fTup_ap, fLstN_ap, fList_ap, fCall_ap, fCons_ap, fNil_ap, f1_ap, f2_ap, fVar_ap, fC_ap, sFor_ap, List.foldl_cons, List.foldl_nil, List.set_cons_succ, List.set_cons_zero, List.getElem?_cons_zero, List.getElem?_cons_succ, Option.bind_some, fin_rt, fin_nx, Bool.not_true, Bool.not_false, wipeD, nought_fr, one_fr, int_0, int_1, int_2, int_3, int_4, int_8, int_12, len_list, len_tup, len_map, isi_list, isi_tup, isi_str, lt_nn, le_nn, gt_nn, ge_nn, eq_nn, ne_nn, add_nn, whole_n, List.length_map, decide_true, decide_false, leng0, leng1, leng2, leng3, leng4, if_true, if_false, eq_self, Nat.reduceEqDiff, Nat.reduceLT, Nat.reduceLeDiff, e1', ix_book g1, len_row, g3, e4, e5, h1, h2, mod4, div4, mod3, d1, e3, e2, q1, q2, d2]
      rfl
    | false =>
      refine ⟨_, as, ?_, out _ h3 h4 as q3⟩
      rw [r_law_looks]
      simp only [B_law_looks, sSeq_ap, sIf_ap, bOf_ap, bAnd_ap, bOr_ap, bNot_ap, bYes_ap, fAnd_ap, fOr_ap, fNot_ap, fIf_ap, sPat_ap, pName_ap, pTup_ap, setAll, sSkip_ap, sRet_ap, sOwn_ap, sFrz_ap, frz, frz1, sApp_ap, sIns_ap, sDo_ap, fTup_ap, fLstN_ap, fList_ap, fCall_ap, fCons_ap, fNil_ap, f1_ap, f2_ap, fVar_ap, fC_ap, sFor_ap, List.foldl_cons, List.foldl_nil, List.set_cons_succ, List.set_cons_zero, List.getElem?_cons_zero, List.getElem?_cons_succ, Option.bind_some, fin_rt, fin_nx, Bool.not_true, Bool.not_false, wipeD, nought_fr, one_fr, int_0, int_1, int_2, int_3, int_4, int_8, int_12, len_list, len_tup, len_map, isi_list, isi_tup, isi_str, lt_nn, le_nn, gt_nn, ge_nn, eq_nn, ne_nn, add_nn, whole_n, List.length_map, decide_true, decide_false, leng0, leng1, leng2, leng3, leng4, if_true, if_false, eq_self, Nat.reduceEqDiff, Nat.reduceLT, Nat.reduceLeDiff, e1', ix_book g1, len_row, g3, e4, e5, h1, h2, mod4, div4, mod3, d1, e3, e2, q1, q2, d2]
      rfl
end DL

set_option Elab.async false
set_option linter.all false
set_option maxRecDepth 100000
set_option maxHeartbeats 4000000
set_option exponentiation.threshold 3000
/-! EqB: more looks. -/
namespace DL
open PySem
/-- one by one no greater -/
inductive LeN : List Nat → List Nat → Prop
  | nil : LeN [] []
  | cons {x y : Nat} {xs ys : List Nat} : x ≤ y → LeN xs ys → LeN (x :: xs) (y :: ys)
theorem LeN.len : ∀ {xs ys : List Nat}, LeN xs ys → xs.length = ys.length
  | _, _, .nil => rfl
  | _, _, .cons _ h => congrArg (· + 1) h.len
theorem LeN.snoc : ∀ {xs ys : List Nat} {x y : Nat}, LeN xs ys → x ≤ y → LeN (xs ++ [x]) (ys ++ [y])
  | _, _, _, _, .nil, h => .cons h .nil
  | _, _, _, _, .cons a r, h => .cons a (r.snoc h)
theorem LeN.get : ∀ {xs ys : List Nat} (k : Nat), LeN xs ys → xs.getD k 0 ≤ ys.getD k 0
  | _, _, _, .nil => Nat.le_refl _
  | _, _, 0, .cons h _ => h
  | _, _, k + 1, .cons _ r => r.get k
theorem LeN.sum : ∀ {xs ys : List Nat}, LeN xs ys → xs.sum ≤ ys.sum
  | _, _, .nil => Nat.le_refl _
  | _, _, .cons h r => by
    rw [List.sum_cons, List.sum_cons]
    have := r.sum
    omega
theorem min_nn (i j : Nat) : minD [natD i, natD j] = some (natD (min i j)) := by
  show some (PyData.int (if (j : Int) < (i : Int) then (j : Int) else (i : Int))) = _
  unfold natD
  congr 2
  split <;> omega
theorem more_step1 {a0 a1 a2 a3 a8 a9 a10 a11 : DV} {v m d : Nat} {acc : List Nat} (hm : m ≤ 12) (hl : acc.length ≤ 100) : B_law_more_1 [a0, a1, a2, a3, .val (natD v), .val (natD m), .own (acc.map natD), .val (natD d), a8, a9, a10, a11] =
    some (.nx [a0, a1, a2, a3, .val (natD (v / (m + 1))), .val (natD m), .own ((acc ++ [min m (d + v % (m + 1))]).map natD), .val (natD d), a8, a9, a10, a11]) := by
  have e1 : modD (natD v) (natD (m + 1)) = some (natD (v % (m + 1))) := mod_nn (by omega)
  have e2 : divD (natD v) (natD (m + 1)) = some (natD (v / (m + 1))) := div_nn (by omega) (by omega)
  simp only [B_law_more_1, sSeq_ap, sIf_ap, bOf_ap, bAnd_ap, bOr_ap, bNot_ap, bYes_ap, fAnd_ap, fOr_ap, fNot_ap, fIf_ap, sPat_ap, pName_ap, pTup_ap, setAll, sSkip_ap, sRet_ap, sOwn_ap, sFrz_ap, frz, frz1, sApp_ap, sIns_ap, sDo_ap, fTup_ap, fLstN_ap, fList_ap, fCall_ap, fCons_ap, fNil_ap, f1_ap, f2_ap, fVar_ap, fC_ap, sFor_ap, List.foldl_cons, List.foldl_nil, List.set_cons_succ, List.set_cons_zero, List.getElem?_cons_zero, List.getElem?_cons_succ, Option.bind_some, fin_rt, fin_nx, Bool.not_true, Bool.not_false, wipeD, nought_fr, one_fr, int_0, int_1, int_2, int_3, int_4, int_8, int_12, len_list, len_tup, len_map, isi_list, isi_tup, isi_str, lt_nn, le_nn, gt_nn, ge_nn, eq_nn, ne_nn, add_nn, whole_n, List.length_map, decide_true, decide_false, leng0, leng1, leng2, leng3, leng4, if_true, if_false, eq_self, Nat.reduceEqDiff, Nat.reduceLT, Nat.reduceLeDiff, e1, e2, min_nn, app_map _ _ (show acc.length ≤ 1000 by omega)]
/-- and all of those that were asked before is asked -/
def AllB (k t : Nat) (as0 as : List (Nat × Nat)) : Prop := ∀ p ∈ as0, lexlt p (k, t) → p ∈ as
theorem more_step2 {a0 a1 a2 a4 a5 a6 a7 : DV} {ds0 : List Nat} {as0 : List (Nat × Nat)} {k t v m : Nat} {as : List (Nat × Nat)} (ht : t < m) (hl : as.length ≤ 100) (ha : AskI m k t as) (hb : AllB k t as0 as) : ∃ as', (AskI m k (t + 1) as' ∧ AllB k (t + 1) as0 as') ∧
    B_law_more_2 [a0, a1, a2, .val (looksD ds0 as0), a4, a5, a6, a7, .own (as.map pairD), .val (natD v), .val (natD k), .val (natD t)] =
    some (.nx [a0, a1, a2, .val (looksD ds0 as0), a4, a5, a6, a7, .own (as'.map pairD), .val (natD (v / 4)), .val (natD k), .val (natD t)]) := by
  have e1 : ixD (looksD ds0 as0) (natD 1) = some (pairsD as0) := ix_1 _ _ _
  have e2 : inD (pairD (k, t)) (pairsD as0) = some (.bool (decide ((k, t) ∈ as0))) := in_p _ _
  have yes : AskI m k (t + 1) (as ++ [(k, t)]) ∧ AllB k (t + 1) as0 (as ++ [(k, t)]) := by
    refine ⟨ha.put ht, fun p hp hlt => ?_⟩
    rcases hlt with q | ⟨q1, q2⟩
    · exact List.mem_append_left _ (hb p hp (.inl q))
    · by_cases z : p.2 = t
      · exact List.mem_append_right _ (List.mem_singleton.mpr (Prod.ext q1 z))
      · have : p.2 < t + 1 := q2
        exact List.mem_append_left _ (hb p hp (.inr ⟨q1, by show p.2 < t; omega⟩))
  cases d1 : decide ((k, t) ∈ as0) with
  | true =>
    rw [d1] at e2
    exact ⟨as ++ [(k, t)], yes, by simp only [B_law_more_2, sSeq_ap, sIf_ap, bOf_ap, bAnd_ap, bOr_ap, bNot_ap, bYes_ap, fAnd_ap, fOr_ap, fNot_ap, fIf_ap, sPat_ap, pName_ap, pTup_ap, setAll, sSkip_ap, sRet_ap, sOwn_ap, sFrz_ap, frz, frz1, sApp_ap, sIns_ap, sDo_ap, fTup_ap, fLstN_ap, fList_ap, fCall_ap, fCons_ap, fNil_ap, f1_ap, f2_ap, fVar_ap, fC_ap, sFor_ap, List.foldl_cons, List.foldl_nil, List.set_cons_succ, List.set_cons_zero, List.getElem?_cons_zero, List.getElem?_cons_succ, Option.bind_some, fin_rt, fin_nx, Bool.not_true, Bool.not_false, wipeD, nought_fr, one_fr, int_0, int_1, int_2, int_3, int_4, int_8, int_12, len_list, len_tup, len_map, isi_list, isi_tup, isi_str, lt_nn, le_nn, gt_nn, ge_nn, eq_nn, ne_nn, add_nn, whole_n, List.length_map, decide_true, decide_false, leng0, leng1, leng2, leng3, leng4, if_true, if_false, eq_self, Nat.reduceEqDiff, Nat.reduceLT, Nat.reduceLeDiff, tupp, e1, e2, div4, app_map _ _ (show as.length ≤ 1000 by omega)]⟩
  | false =>
    rw [d1] at e2
    cases d2 : decide (v % 4 = 1) with
    | true => exact ⟨as ++ [(k, t)], yes, by simp only [B_law_more_2, sSeq_ap, sIf_ap, bOf_ap, bAnd_ap, bOr_ap, bNot_ap, bYes_ap, fAnd_ap, fOr_ap, fNot_ap, fIf_ap, sPat_ap, pName_ap, pTup_ap, setAll, sSkip_ap, sRet_ap, sOwn_ap, sFrz_ap, frz, frz1, sApp_ap, sIns_ap, sDo_ap, fTup_ap, fLstN_ap, fList_ap, fCall_ap, fCons_ap, fNil_ap, f1_ap, f2_ap, fVar_ap, fC_ap, sFor_ap, List.foldl_cons, List.foldl_nil, List.set_cons_succ, List.set_cons_zero, List.getElem?_cons_zero, List.getElem?_cons_succ, Option.bind_some, fin_rt, fin_nx, Bool.not_true, Bool.not_false, wipeD, nought_fr, one_fr, int_0, int_1, int_2, int_3, int_4, int_8, int_12, len_list, len_tup, len_map, isi_list, isi_tup, isi_str, lt_nn, le_nn, gt_nn, ge_nn, eq_nn, ne_nn, add_nn, whole_n, List.length_map, decide_true, decide_false, leng0, leng1, leng2, leng3, leng4, if_true, if_false, eq_self, Nat.reduceEqDiff, Nat.reduceLT, Nat.reduceLeDiff, tupp, e1, e2, mod4, d2, div4, app_map _ _ (show as.length ≤ 1000 by omega)]⟩
    | false =>
      refine ⟨as, ⟨ha.skip, fun p hp hlt => ?_⟩, by simp only [B_law_more_2, sSeq_ap, sIf_ap, bOf_ap, bAnd_ap, bOr_ap, bNot_ap, bYes_ap, fAnd_ap, fOr_ap, fNot_ap, fIf_ap, sPat_ap, pName_ap, pTup_ap, setAll, sSkip_ap, sRet_ap, sOwn_ap, sFrz_ap, frz, frz1, sApp_ap, sIns_ap, sDo_ap, fTup_ap, fLstN_ap, fList_ap, fCall_ap, fCons_ap, fNil_ap, f1_ap, f2_ap, fVar_ap, fC_ap, sFor_ap, List.foldl_cons, List.foldl_nil, List.set_cons_succ, List.set_cons_zero, List.getElem?_cons_zero, List.getElem?_cons_succ, Option.bind_some, fin_rt, fin_nx, Bool.not_true, Bool.not_false, wipeD, nought_fr, one_fr, int_0, int_1, int_2, int_3, int_4, int_8, int_12, len_list, len_tup, len_map, isi_list, isi_tup, isi_str, lt_nn, le_nn, gt_nn, ge_nn, eq_nn, ne_nn, add_nn, whole_n, List.length_map, decide_true, decide_false, leng0, leng1, leng2, leng3, leng4, if_true, if_false, eq_self, Nat.reduceEqDiff, Nat.reduceLT, Nat.reduceLeDiff, tupp, e1, e2, mod4, d2, div4]⟩
      rcases hlt with q | ⟨q1, q2⟩
      · exact hb p hp (.inl q)
      · by_cases z : p.2 = t
        · have e : p = (k, t) := Prod.ext q1 z
          rw [e] at hp
          exact absurd hp (of_decide_eq_false d1)
        · have : p.2 < t + 1 := q2
          exact hb p hp (.inr ⟨q1, by show p.2 < t; omega⟩)
theorem more_step3 {a0 a1 a2 a4 a6 a7 x11 : DV} {ds0 : List Nat} {as0 : List (Nat × Nat)} {k v m : Nat} {as : List (Nat × Nat)} (hm : m ≤ 12) (h0 : ∀ p ∈ as0, p.2 < m) (hk : k < 4) (ha : AskI m k 0 as) (hb : AllB k 0 as0 as) : ∃ as' v' y11, (AskI m (k + 1) 0 as' ∧ AllB (k + 1) 0 as0 as') ∧
    B_law_more_3 [a0, a1, a2, .val (looksD ds0 as0), a4, .val (natD m), a6, a7, .own (as.map pairD), .val (natD v), .val (natD k), x11] =
    some (.nx [a0, a1, a2, .val (looksD ds0 as0), a4, .val (natD m), a6, a7, .own (as'.map pairD), .val (natD v'), .val (natD k), y11]) := by
  obtain ⟨δ', h1, v', y11, as', h2, h3, h4⟩ := for_inv (enc := natD) (p := pName 11) (body := B_law_more_2) (xs := List.range m) (δ := [a0, a1, a2, .val (looksD ds0 as0), a4, .val (natD m), a6, a7, .own (as.map pairD), .val (natD v), .val (natD k), x11])
    (fun pr δ => ∃ v x11, ∃ as : List (Nat × Nat), δ = [a0, a1, a2, .val (looksD ds0 as0), a4, .val (natD m), a6, a7, .own (as.map pairD), .val (natD v), .val (natD k), x11] ∧ AskI m k pr.length as ∧ AllB k pr.length as0 as) ⟨_, _, as, rfl, ha, hb⟩ (by
      rintro pr t po δ e ⟨v, x11, as, rfl, hi, hj⟩
      obtain ⟨rfl, ht⟩ := range_at e
      obtain ⟨as', ⟨q1, q3⟩, q2⟩ := more_step2 (a0 := a0) (a1 := a1) (a2 := a2) (a4 := a4) (a5 := .val (natD m)) (a6 := a6) (a7 := a7) (ds0 := ds0) (v := v) ht (by have := hi.al; omega) hi hj
      exact ⟨_, _, rfl, q2, _, _, as', rfl, by rw [List.length_append]; exact q1, by rw [List.length_append]; exact q3⟩)
  rw [List.length_range] at h3 h4
  have e1 := dRange_ap (fVar 5) [a0, a1, a2, .val (looksD ds0 as0), a4, .val (natD m), a6, a7, .own (as.map pairD), .val (natD v), .val (natD k), x11] (n := m) rfl (by omega)
  refine ⟨as', v', y11, ⟨h3.next hm, fun p hp hlt => ?_⟩, ?_⟩
  · refine h4 p hp ?_
    rcases hlt with q | ⟨_, q2⟩
    · by_cases z : p.1 = k
      · exact .inr ⟨z, h0 p hp⟩
      · have : p.1 < k + 1 := q
        exact .inl (by show p.1 < k; omega)
    · exact absurd q2 (Nat.not_lt_zero _)
  · simp only [B_law_more_3, sSeq_ap, sIf_ap, bOf_ap, bAnd_ap, bOr_ap, bNot_ap, bYes_ap, fAnd_ap, fOr_ap, fNot_ap, fIf_ap, sPat_ap, pName_ap, pTup_ap, setAll, sSkip_ap, sRet_ap, sOwn_ap, sFrz_ap, frz, frz1, sApp_ap, sIns_ap, sDo_ap, fTup_ap, fLstN_ap, fList_ap, fCall_ap, fCons_ap, fNil_ap, f1_ap, f2_ap, fVar_ap, fC_ap, sFor_ap, List.foldl_cons, List.foldl_nil, List.set_cons_succ, List.set_cons_zero, List.getElem?_cons_zero, List.getElem?_cons_succ, Option.bind_some, fin_rt, fin_nx, Bool.not_true, Bool.not_false, wipeD, nought_fr, one_fr, int_0, int_1, int_2, int_3, int_4, int_8, int_12, len_list, len_tup, len_map, isi_list, isi_tup, isi_str, lt_nn, le_nn, gt_nn, ge_nn, eq_nn, ne_nn, add_nn, whole_n, List.length_map, decide_true, decide_false, leng0, leng1, leng2, leng3, leng4, if_true, if_false, eq_self, Nat.reduceEqDiff, Nat.reduceLT, Nat.reduceLeDiff, e1, h1, h2]
theorem f_more {m : Nat} {b : List (List Rat)} {ds as} (ns : List Int) (h : Bok m b) (hl : Lok b.length m ds as) : ∃ ds' as', F_law_more [scrD ns, .int 9, bookD b, looksD ds as] = some (looksD ds' as') ∧ Lok b.length m ds' as' ∧ LeN ds ds' ∧ (∀ p ∈ as, p ∈ as') := by
  have n2 := h.n2
  have m2 := h.m2
  have dn := hl.dn
  obtain ⟨r, g1, g2, g3⟩ := h.hd
  obtain ⟨v, _, e1⟩ := f_cell ns 9
  obtain ⟨w, _, e2⟩ := f_cell ns 10
  have e3 : addD (.int 9) (natD 1) = some (natD 10) := rfl
  have e1' : F_law_cell [scrD ns, .int 9] = some (natD v) := e1
  have ex0 : ixD (looksD ds as) (natD 0) = some (natsD ds) := ix_0 _ _
  obtain ⟨δ1, h1, v1, x7, ds', h2, h3, h4⟩ := for_inv (enc := natD) (p := pName 7) (body := B_law_more_1) (xs := ds) (δ := [.val (scrD ns), .val (.int 9), .val (bookD b), .val (looksD ds as), .val (natD v), .val (natD m), .own [], .no, .no, .no, .no, .no])
    (fun pr δ => ∃ v x7, ∃ ds' : List Nat, δ = [.val (scrD ns), .val (.int 9), .val (bookD b), .val (looksD ds as), .val (natD v), .val (natD m), .own (ds'.map natD), x7, .no, .no, .no, .no] ∧ LeN pr ds' ∧ ∀ d ∈ ds', d ≤ m) ⟨_, _, [], rfl, .nil, fun _ z => by cases z⟩ (by
      rintro pr k po δ e ⟨v, x7, ds', rfl, hl', hd⟩
      have hpl : pr.length ≤ 4 := by
        have := congrArg List.length e
        rw [List.length_append] at this
        omega
      have hk := hl.dm k (by rw [e]; exact List.mem_append_right _ List.mem_cons_self)
      refine ⟨_, _, rfl, more_step1 m2 (by rw [← hl'.len]; omega), _, _, ds' ++ [min m (k + v % (m + 1))], rfl, hl'.snoc (by omega), fun d hd' => ?_⟩
      rcases List.mem_append.mp hd' with hd' | hd'
      · exact hd d hd'
      · rw [List.mem_singleton.mp hd']
        omega)
  obtain ⟨δ2, q1, k10, v9, x11, as', q2, q3, q4⟩ := for_inv (enc := natD) (p := pName 10) (body := B_law_more_3) (xs := List.range b.length) (δ := [.val (scrD ns), .val (.int 9), .val (bookD b), .val (looksD ds as), .val (natD v1), .val (natD m), .own (ds'.map natD), x7, .own [], .val (natD w), .no, .no])
    (fun pr δ => ∃ k10, ∃ v9 : Nat, ∃ x11, ∃ as' : List (Nat × Nat), δ = [.val (scrD ns), .val (.int 9), .val (bookD b), .val (looksD ds as), .val (natD v1), .val (natD m), .own (ds'.map natD), x7, .own (as'.map pairD), .val (natD v9), k10, x11] ∧ AskI m pr.length 0 as' ∧ AllB pr.length 0 as as') ⟨_, _, _, [], rfl, ⟨.nil, fun _ z => (by cases z), Nat.zero_le _⟩, fun p _ z => by
      rcases z with z | ⟨_, z⟩
      · exact absurd z (Nat.not_lt_zero _)
      · exact absurd z (Nat.not_lt_zero _)⟩ (by
      rintro pr k po δ e ⟨k10, v9, x11, as', rfl, hi, hj⟩
      obtain ⟨rfl, hk⟩ := range_at e
      obtain ⟨as'', v', y11, ⟨q1, q3⟩, q2⟩ := more_step3 (a0 := .val (scrD ns)) (a1 := .val (.int 9)) (a2 := .val (bookD b)) (a4 := .val (natD v1)) (a6 := .own (ds'.map natD)) (a7 := x7) (x11 := x11) (ds0 := ds) (v := v9) m2 (fun p hp => (hl.an p hp).2) (by omega) hi hj
      exact ⟨_, _, rfl, q2, _, _, _, as'', rfl, by rw [List.length_append]; exact q1, by rw [List.length_append]; exact q3⟩)
  rw [List.length_range] at q3 q4
  have e4 : dList (f2 ixD (fVar 3) (fC (natD 0))) [.val (scrD ns), .val (.int 9), .val (bookD b), .val (looksD ds as), .val (natD v), .val (natD m), .own [], .no, .no, .no, .no, .no] = some (ds.map natD) := by
    simp only [dList_ap, sSeq_ap, sIf_ap, bOf_ap, bAnd_ap, bOr_ap, bNot_ap, bYes_ap, fAnd_ap, fOr_ap, fNot_ap, fIf_ap, sPat_ap, pName_ap, pTup_ap, setAll, sSkip_ap, sRet_ap, sOwn_ap, sFrz_ap, frz, frz1, sApp_ap, sIns_ap, sDo_ap, fTup_ap, fLstN_ap, fList_ap, fCall_ap, fCons_ap, fNil_ap, f1_ap, f2_ap, fVar_ap, fC_ap, sFor_ap, List.foldl_cons, List.foldl_nil, List.set_cons_succ, List.set_cons_zero, List.getElem?_cons_zero, List.getElem?_cons_succ, Option.bind_some, fin_rt, fin_nx, Bool.not_true, Bool.not_false, wipeD, nought_fr, one_fr, int_0, int_1, int_2, int_3, int_4, int_8, int_12, len_list, len_tup, len_map, isi_list, isi_tup, isi_str, lt_nn, le_nn, gt_nn, ge_nn, eq_nn, ne_nn, add_nn, whole_n, List.length_map, decide_true, decide_false, leng0, leng1, leng2, leng3, leng4, if_true, if_false, eq_self, Nat.reduceEqDiff, Nat.reduceLT, Nat.reduceLeDiff, ex0]
    rfl
  have e5 := dRange_ap (fCall lenD (fCons (fVar 2) fNil)) [.val (scrD ns), .val (.int 9), .val (bookD b), .val (looksD ds as), .val (natD v1), .val (natD m), .own (ds'.map natD), x7, .own [], .val (natD w), .no, .no] (n := b.length) (by simp only [sSeq_ap, sIf_ap, bOf_ap, bAnd_ap, bOr_ap, bNot_ap, bYes_ap, fAnd_ap, fOr_ap, fNot_ap, fIf_ap, sPat_ap, pName_ap, pTup_ap, setAll, sSkip_ap, sRet_ap, sOwn_ap, sFrz_ap, frz, frz1, sApp_ap, sIns_ap, sDo_ap, fTup_ap, fLstN_ap, fList_ap, fCall_ap, fCons_ap, fNil_ap, f1_ap, f2_ap, fVar_ap, fC_ap, sFor_ap, List.foldl_cons, List.foldl_nil, List.set_cons_succ, List.set_cons_zero, List.getElem?_cons_zero, List.getElem?_cons_succ, Option.bind_some, fin_rt, fin_nx, Bool.not_true, Bool.not_false, wipeD, nought_fr, one_fr, int_0, int_1, int_2, int_3, int_4, int_8, int_12, len_list, len_tup, len_map, isi_list, isi_tup, isi_str, lt_nn, le_nn, gt_nn, ge_nn, eq_nn, ne_nn, add_nn, whole_n, List.length_map, decide_true, decide_false, leng0, leng1, leng2, leng3, leng4, if_true, if_false, eq_self, Nat.reduceEqDiff, Nat.reduceLT, Nat.reduceLeDiff, len_book]) (by omega)
  refine ⟨ds', as', ?_, q3.lok n2 (by rw [← h3.len, dn]) h4, h3, fun p hp => q4 p hp (.inl (hl.an p hp).1)⟩
  rw [r_law_more]
  simp only [B_law_more, sSeq_ap, sIf_ap, bOf_ap, bAnd_ap, bOr_ap, bNot_ap, bYes_ap, fAnd_ap, fOr_ap, fNot_ap, fIf_ap, sPat_ap, pName_ap, pTup_ap, setAll, sSkip_ap, sRet_ap, sOwn_ap, sFrz_ap, frz, frz1, sApp_ap, sIns_ap, sDo_ap, fTup_ap, fLstN_ap, fList_ap, fCall_ap, fCons_ap, fNil_ap, f1_ap, f2_ap, fVar_ap, fC_ap, sFor_ap, List.foldl_cons, List.foldl_nil, List.set_cons_succ, List.set_cons_zero, List.getElem?_cons_zero, List.getElem?_cons_succ, Option.bind_some, fin_rt, fin_nx, Bool.not_true, Bool.not_false, wipeD, nought_fr, one_fr, int_0, int_1, int_2, int_3, int_4, int_8, int_12, len_list, len_tup, len_map, isi_list, isi_tup, isi_str, lt_nn, le_nn, gt_nn, ge_nn, eq_nn, ne_nn, add_nn, whole_n, List.length_map, decide_true, decide_false, leng0, leng1, leng2, leng3, leng4, if_true, if_false, eq_self, Nat.reduceEqDiff, Nat.reduceLT, Nat.reduceLeDiff, e1', ix_book g1, len_row, g3, e4, h1, h2, e3, e2, e5, q1, q2]
  rfl
end DL

set_option Elab.async false
set_option linter.all false
set_option maxRecDepth 100000
set_option maxHeartbeats 4000000
set_option exponentiation.threshold 3000
/-! Mth: why it holds. More looks narrow the bounds; what is sure stays sure; what is nearly sure stays so; behind whole looks the bounds are the worths. No program in sight. -/
namespace DL
open PySem
theorem leA_of : ∀ {xs ys : List Rat}, xs.length = ys.length → (∀ k, k < xs.length → xs.getD k 0 ≤ ys.getD k 0) → LeA xs ys
  | [], [], _, _ => .nil
  | x :: xs, y :: ys, hl, h => .cons (h 0 (Nat.succ_pos _)) (leA_of (Nat.succ.inj hl) fun k hk => h (k + 1) (Nat.succ_lt_succ hk))
  | [], _ :: _, hl, _ => by cases hl
  | _ :: _, [], hl, _ => by cases hl
/-- what is seen of thing t in list k -/
def sv (b : List (List Rat)) (ds : List Nat) (as : List (Nat × Nat)) (k t : Nat) : Option Rat := if t ∈ readR (b.getD k []) (ds.getD k 0) ∨ (k, t) ∈ as then some (W (b.getD k []) t) else none
theorem getD_of {α : Type} {xs : List α} {k : Nat} {d x : α} (h : xs[k]? = some x) : xs.getD k d = x := by
  rw [List.getD_eq_getElem?_getD, h]
  rfl
theorem some_getD {α : Type} {xs : List α} {k : Nat} {d : α} (h : k < xs.length) : xs[k]? = some (xs.getD k d) := by
  rw [List.getD_eq_getElem?_getD, List.getElem?_eq_getElem h]
  rfl
section
variable {m : Nat} {b : List (List Rat)} {ds ds' : List Nat} {as as' : List (Nat × Nat)} {r : Rule}
theorem Bok.rowk (h : Bok m b) {k : Nat} (hk : k < b.length) : b.getD k [] ∈ b ∧ (b.getD k []).length = m ∧ ∀ t, t < m → Wo (W (b.getD k []) t) := by
  have e := List.mem_of_getElem? (some_getD (d := []) hk)
  exact ⟨e, h.row _ e, fun t ht => W_wo (h.wo _ e) (by rw [h.row _ e]; exact ht)⟩
theorem seen_get (h : Bok m b) (hd : ds.length = b.length) {k t : Nat} (hk : k < b.length) (ht : t < m) : ((seenR b ds as).getD k []).getD t none = sv b ds as k t := by
  have e := see_at h hd as hk ht
  have s := sok_of h hd as
  have e1 := some_getD (xs := seenR b ds as) (d := []) (k := k) (by rw [s.sn]; exact hk)
  unfold at2 at e
  rw [e1] at e
  exact getD_of e
theorem col_get (h : Bok m b) (hd : ds.length = b.length) {k t : Nat} (hk : k < b.length) (ht : t < m) : (colR (seenR b ds as) t)[k]? = some (sv b ds as k t) := by
  have s := sok_of h hd as
  unfold colR
  rw [List.getElem?_map, some_getD (d := []) (by rw [s.sn]; exact hk)]
  show some (((seenR b ds as).getD k []).getD t none) = _
  rw [seen_get h hd hk ht]
theorem fill_get (h : Bok m b) (hd : ds.length = b.length) {others : List Rat} (ho : others.length = b.length) {k t : Nat} (hk : k < b.length) (ht : t < m) : (fillR (colR (seenR b ds as) t) others).getD k 0 = (sv b ds as k t).getD (others.getD k 0) := by
  refine getD_of ?_
  unfold fillR
  have e : ((colR (seenR b ds as) t).zip others)[k]? = some (sv b ds as k t, others.getD k 0) := List.getElem?_zip_eq_some.mpr ⟨col_get h hd hk ht, some_getD (by rw [ho]; exact hk)⟩
  rw [List.getElem?_map, e]
  rfl
theorem last_get (hd : ds.length = b.length) {k : Nat} (hk : k < b.length) : (lastR b ds).getD k 0 = lastOne (b.getD k [], ds.getD k 0) := by
  refine getD_of ?_
  unfold lastR
  have e : (b.zip ds)[k]? = some (b.getD k [], ds.getD k 0) := List.getElem?_zip_eq_some.mpr ⟨some_getD hk, some_getD (by rw [hd]; exact hk)⟩
  rw [List.getElem?_map, e]
  rfl
theorem last_min {α : Type} {R : α → α → Prop} : ∀ {l : List α} {z x : α}, l.Pairwise R → l.getLast? = some z → x ∈ l → x = z ∨ R x z
  | [], _, _, _, h, _ => by cases h
  | [a], z, x, _, h, hx => by
    rw [List.mem_singleton.mp hx]
    cases h
    exact .inl rfl
  | a :: c :: l, z, x, hp, h, hx => by
    obtain ⟨p1, p2⟩ := List.pairwise_cons.mp hp
    have h' : (c :: l).getLast? = some z := by
      rw [List.getLast?_cons_cons] at h
      exact h
    rcases List.mem_cons.mp hx with rfl | hx
    · exact .inr (p1 z (List.mem_of_getLast? h'))
    · exact last_min p2 h' hx
theorem read_grow {ws : List Rat} {d d' i : Nat} (hd : d ≤ d') (h : i ∈ readR ws d) : i ∈ readR ws d' := by
  unfold readR at *
  have e : (orderR ws).take d = ((orderR ws).take d').take d := by rw [List.take_take, Nat.min_eq_left hd]
  rw [e] at h
  exact List.mem_of_mem_take h
theorem lastOne_le {ws : List Rat} (hw : ∀ t, t < ws.length → Wo (W ws t)) (d : Nat) : lastOne (ws, d) ≤ 1 := by
  unfold lastOne
  split
  · exact Rat.le_refl
  · rename_i i hi
    exact (hw i (read_lt (List.mem_of_getLast? hi))).le
theorem unread_le {ws : List Rat} (hw : ∀ t, t < ws.length → Wo (W ws t)) {d t : Nat} (ht : t < ws.length) (hn : t ∉ readR ws d) : W ws t ≤ lastOne (ws, d) := by
  unfold lastOne
  split
  · exact (hw t ht).le
  · rename_i i hi
    exact (read_ahead (List.mem_of_getLast? hi) ht hn).le
theorem lastOne_mono {ws : List Rat} (hw : ∀ t, t < ws.length → Wo (W ws t)) {d d' : Nat} (hd : d ≤ d') : lastOne (ws, d') ≤ lastOne (ws, d) := by
  cases q : (readR ws d).getLast? with
  | none =>
    have e : lastOne (ws, d) = 1 := by unfold lastOne; rw [q]
    rw [e]
    exact lastOne_le hw d'
  | some i =>
    have e : lastOne (ws, d) = W ws i := by unfold lastOne; rw [q]
    have hi := read_grow hd (List.mem_of_getLast? q)
    rw [e]
    unfold lastOne
    split
    · rename_i z
      rw [List.getLast?_eq_none_iff.mp z] at hi
      cases hi
    · rename_i j hj
      rcases last_min ((order_ok ws).1.take) hj hi with rfl | z
      · exact Rat.le_refl
      · exact z.le
theorem sv_grow (hl : LeN ds ds') (ha : ∀ p ∈ as, p ∈ as') {k t : Nat} {w : Rat} (h : sv b ds as k t = some w) : sv b ds' as' k t = some w ∧ w = W (b.getD k []) t := by
  unfold sv at *
  split at h
  · rename_i q
    cases h
    refine ⟨if_pos ?_, rfl⟩
    rcases q with q | q
    · exact .inl (read_grow (hl.get k) q)
    · exact .inr (ha _ q)
  · cases h
/-- the worth of a thing by the rule -/
def worthAt (b : List (List Rat)) (r : Rule) (t : Nat) : Rat := worthR r (b.map fun row => W row t)
theorem wrow_get {k t : Nat} (hk : k < b.length) : (b.map fun row => W row t).getD k 0 = W (b.getD k []) t := by
  refine getD_of ?_
  rw [List.getElem?_map, some_getD (d := []) hk]
  rfl
theorem low_le (h : Bok m b) (hr : Rok b.length r) (hd : ds.length = b.length) {t : Nat} (ht : t < m) : lowR r (seenR b ds as) t ≤ worthAt b r t := by
  have s := sok_of h hd as
  obtain ⟨l1, l2⟩ := s.fill (t := t) (others := (seenR b ds as).map fun _ => 0) (by rw [List.length_map, s.sn]) fun w hw => by
    obtain ⟨_, _, rfl⟩ := List.mem_map.mp hw
    exact wo0
  refine worth_mono hr l1 h.n1 (leA_of (by rw [l1, List.length_map]) fun k hk => ?_) fun x hx => (l2 x hx).nn
  rw [l1] at hk
  rw [fill_get h hd (by rw [List.length_map, s.sn]) hk ht, wrow_get hk]
  have hw := (h.rowk hk).2.2 t ht
  unfold sv
  split
  · exact Rat.le_refl
  · show ((seenR b ds as).map fun _ => (0 : Rat)).getD k 0 ≤ _
    rw [getD_of (x := 0) (by rw [List.getElem?_map, some_getD (d := []) (by rw [s.sn]; exact hk)]; rfl)]
    exact hw.nn
theorem le_high (h : Bok m b) (hr : Rok b.length r) (hd : ds.length = b.length) {t : Nat} (ht : t < m) : worthAt b r t ≤ highR r (seenR b ds as) (lastR b ds) t := by
  have s := sok_of h hd as
  obtain ⟨u1, u2⟩ := s.fill (t := t) s.ln s.lw
  refine worth_mono hr (List.length_map _) h.n1 (leA_of (by rw [u1, List.length_map]) fun k hk => ?_) fun x hx => ?_
  · rw [List.length_map] at hk
    obtain ⟨r1, r2, r3⟩ := h.rowk hk
    rw [fill_get h hd s.ln hk ht, wrow_get hk, last_get hd hk]
    unfold sv
    split
    · exact Rat.le_refl
    · rename_i q
      exact unread_le (fun t ht => r3 t (by rw [r2] at ht; exact ht)) (by rw [r2]; exact ht) fun z => q (.inl z)
  · obtain ⟨row, hrow, rfl⟩ := List.mem_map.mp hx
    exact (W_wo (h.wo row hrow) (by rw [h.row row hrow]; exact ht)).nn
theorem low_mono (h : Bok m b) (hr : Rok b.length r) (hd : ds.length = b.length) (hd' : ds'.length = b.length) (hl : LeN ds ds') (ha : ∀ p ∈ as, p ∈ as') {t : Nat} (ht : t < m) : lowR r (seenR b ds as) t ≤ lowR r (seenR b ds' as') t := by
  have s := sok_of h hd as
  have s' := sok_of h hd' as'
  have z : ∀ w ∈ (seenR b ds as).map (fun _ => (0 : Rat)), Wo w := fun w hw => by
    obtain ⟨_, _, rfl⟩ := List.mem_map.mp hw
    exact wo0
  have z' : ∀ w ∈ (seenR b ds' as').map (fun _ => (0 : Rat)), Wo w := fun w hw => by
    obtain ⟨_, _, rfl⟩ := List.mem_map.mp hw
    exact wo0
  obtain ⟨l1, l2⟩ := s.fill (t := t) (others := (seenR b ds as).map fun _ => 0) (by rw [List.length_map, s.sn]) z
  obtain ⟨l1', l2'⟩ := s'.fill (t := t) (others := (seenR b ds' as').map fun _ => 0) (by rw [List.length_map, s'.sn]) z'
  refine worth_mono hr l1 h.n1 (leA_of (by rw [l1, l1']) fun k hk => ?_) fun x hx => (l2 x hx).nn
  rw [l1] at hk
  rw [fill_get h hd (by rw [List.length_map, s.sn]) hk ht, fill_get h hd' (by rw [List.length_map, s'.sn]) hk ht]
  have e0 : ((seenR b ds as).map fun _ => (0 : Rat)).getD k 0 = 0 := getD_of (by rw [List.getElem?_map, some_getD (d := []) (by rw [s.sn]; exact hk)]; rfl)
  have e0' : ((seenR b ds' as').map fun _ => (0 : Rat)).getD k 0 = 0 := getD_of (by rw [List.getElem?_map, some_getD (d := []) (by rw [s'.sn]; exact hk)]; rfl)
  rw [e0, e0']
  cases q : sv b ds as k t with
  | some w =>
    rw [(sv_grow hl ha q).1]
    exact Rat.le_refl
  | none =>
    show (0 : Rat) ≤ _
    have hw := (h.rowk hk).2.2 t ht
    unfold sv
    split
    · exact hw.nn
    · exact Rat.le_refl
theorem high_mono (h : Bok m b) (hr : Rok b.length r) (hd : ds.length = b.length) (hd' : ds'.length = b.length) (hl : LeN ds ds') (ha : ∀ p ∈ as, p ∈ as') {t : Nat} (ht : t < m) : highR r (seenR b ds' as') (lastR b ds') t ≤ highR r (seenR b ds as) (lastR b ds) t := by
  have s := sok_of h hd as
  have s' := sok_of h hd' as'
  obtain ⟨u1, u2⟩ := s.fill (t := t) s.ln s.lw
  obtain ⟨u1', u2'⟩ := s'.fill (t := t) s'.ln s'.lw
  refine worth_mono hr u1' h.n1 (leA_of (by rw [u1, u1']) fun k hk => ?_) fun x hx => (u2' x hx).nn
  rw [u1'] at hk
  obtain ⟨r1, r2, r3⟩ := h.rowk hk
  have r3' : ∀ t, t < (b.getD k []).length → Wo (W (b.getD k []) t) := fun t ht => r3 t (by rw [r2] at ht; exact ht)
  rw [fill_get h hd s.ln hk ht, fill_get h hd' s'.ln hk ht, last_get hd hk, last_get hd' hk]
  cases q : sv b ds as k t with
  | some w =>
    rw [(sv_grow hl ha q).1]
    exact Rat.le_refl
  | none =>
    show _ ≤ lastOne (b.getD k [], ds.getD k 0)
    have nr : t ∉ readR (b.getD k []) (ds.getD k 0) := fun z => by
      unfold sv at q
      rw [if_pos (.inl z)] at q
      cases q
    cases q' : sv b ds' as' k t with
    | some w =>
      have e : w = W (b.getD k []) t := by
        unfold sv at q'
        split at q'
        · cases q'; rfl
        · cases q'
      rw [e]
      exact unread_le r3' (by rw [r2]; exact ht) nr
    | none => exact lastOne_mono r3' (hl.get k)
theorem bb_get {t : Nat} (ht : t < m) : (bbR b r ds as m)[t]? = some (lowR r (seenR b ds as) t, highR r (seenR b ds as) (lastR b ds) t) := by
  unfold bbR bndR
  rw [List.getElem?_map, List.getElem?_range ht]
  rfl
theorem lo_bb {t : Nat} (ht : t < m) : lo (bbR b r ds as m) t = lowR r (seenR b ds as) t := by
  unfold lo
  rw [getD_of (bb_get ht)]
theorem hi_bb {t : Nat} (ht : t < m) : hi (bbR b r ds as m) t = highR r (seenR b ds as) (lastR b ds) t := by
  unfold hi
  rw [getD_of (bb_get ht)]
end
/-! ### what is sure -/
/-- bounds in order, of m things -/
structure Bd (m : Nat) (bs : List (Rat × Rat)) : Prop where
  len : bs.length = m
  ord : ∀ t, t < m → lo bs t ≤ hi bs t
  nn : ∀ t, t < m → 0 ≤ lo bs t
/-- narrower bounds -/
def Nar (m : Nat) (bs bs' : List (Rat × Rat)) : Prop := ∀ t, t < m → lo bs t ≤ lo bs' t ∧ hi bs' t ≤ hi bs t
theorem sure_iff {bs : List (Rat × Rat)} {T : List Nat} : sureR bs T = true ↔ ∀ t ∈ T, ∀ o, o < bs.length → o ∉ T → hi bs o ≤ lo bs t := by
  unfold sureR
  rw [List.all_eq_true]
  refine forall_congr' fun t => forall_congr' fun _ => ?_
  rw [List.all_eq_true]
  constructor
  · intro h o ho hn
    have := h o (List.mem_range.mpr ho)
    unfold sureP at this
    rw [decide_eq_false hn, Bool.false_or, not_lt_dec] at this
    exact of_decide_eq_true this
  · intro h o ho
    unfold sureP
    by_cases q : o ∈ T
    · rw [decide_eq_true q, Bool.true_or]
    · rw [decide_eq_false q, Bool.false_or, not_lt_dec]
      exact decide_eq_true (h o (List.mem_range.mp ho) q)
theorem sure_nar {m : Nat} {bs bs' : List (Rat × Rat)} {T : List Nat} (h1 : bs.length = m) (h2 : bs'.length = m) (hn : Nar m bs bs') (hT : ∀ t ∈ T, t < m) (h : sureR bs T = true) : sureR bs' T = true := by
  rw [sure_iff] at *
  intro t ht o ho hno
  rw [h2] at ho
  exact Rat.le_trans (hn o ho).2 (Rat.le_trans (h t ht o (by rw [h1]; exact ho) hno) (hn t (hT t ht)).1)
/-- a goes ahead of b in the turn -/
def TA (bs : List (Rat × Rat)) (a b : Nat) : Prop := lo bs b < lo bs a ∨ (lo bs b = lo bs a ∧ (hi bs b < hi bs a ∨ (hi bs b = hi bs a ∧ a < b)))
theorem goes_iff {bs : List (Rat × Rat)} {o x : Nat} : goesR bs o x = true ↔ TA bs o x := by
  unfold goesR TA
  by_cases h1 : lo bs o = lo bs x
  · rw [if_pos h1]
    by_cases h2 : hi bs o = hi bs x
    · rw [if_pos h2, decide_eq_true_eq]
      constructor
      · exact fun h => .inr ⟨h1.symm, .inr ⟨h2.symm, h⟩⟩
      · rintro (h | ⟨_, h | ⟨_, h⟩⟩)
        · rw [h1] at h; exact absurd h Rat.lt_irrefl
        · rw [h2] at h; exact absurd h Rat.lt_irrefl
        · exact h
    · rw [if_neg h2, decide_eq_true_eq]
      constructor
      · exact fun h => .inr ⟨h1.symm, .inl h⟩
      · rintro (h | ⟨_, h | ⟨h, _⟩⟩)
        · rw [h1] at h; exact absurd h Rat.lt_irrefl
        · exact h
        · exact absurd h.symm h2
  · rw [if_neg h1, decide_eq_true_eq]
    constructor
    · exact fun h => .inl h
    · rintro (h | ⟨h, _⟩)
      · exact h
      · exact absurd h.symm h1
theorem ta_total {bs : List (Rat × Rat)} {o x : Nat} (hlt : o < x) (h : ¬ TA bs o x) : TA bs x o := by
  unfold TA at *
  have n1 : ¬ lo bs x < lo bs o := fun z => h (.inl z)
  rcases Rat.le_iff_lt_or_eq.mp (Rat.not_lt.mp n1) with z | z
  · exact .inl z
  · have n2 : ¬ hi bs x < hi bs o := fun y => h (.inr ⟨z.symm, .inl y⟩)
    rcases Rat.le_iff_lt_or_eq.mp (Rat.not_lt.mp n2) with y | y
    · exact .inr ⟨z, .inl y⟩
    · exact absurd (.inr ⟨z.symm, .inr ⟨y.symm, hlt⟩⟩) h
theorem ta_trans {bs : List (Rat × Rat)} {a b c : Nat} (h1 : TA bs a b) (h2 : TA bs b c) : TA bs a c := by
  unfold TA at *
  rcases h1 with h1 | ⟨h1, h1'⟩
  · rcases h2 with h2 | ⟨h2, _⟩
    · exact .inl (lt_of_lt_le h2 (Rat.le_of_lt h1))
    · exact .inl (by rw [h2]; exact h1)
  · rcases h2 with h2 | ⟨h2, h2'⟩
    · exact .inl (by rw [← h1]; exact h2)
    · refine .inr ⟨h2.trans h1, ?_⟩
      rcases h1' with h1' | ⟨h1', q1⟩
      · rcases h2' with h2' | ⟨h2', _⟩
        · exact .inl (lt_of_lt_le h2' (Rat.le_of_lt h1'))
        · exact .inl (by rw [h2']; exact h1')
      · rcases h2' with h2' | ⟨h2', q2⟩
        · exact .inl (by rw [← h1']; exact h2')
        · exact .inr ⟨h2'.trans h1', Nat.lt_trans q1 q2⟩
theorem turn_ok (bs : List (Rat × Rat)) : (turnR bs).Pairwise (TA bs) := by
  unfold turnR
  refine (sort_ok (S := TA bs) (le := goesR bs) (fun a b x s l => goes_iff.mpr (ta_trans s (goes_iff.mp l))) (List.pairwise_lt_range.imp fun {o x} hlt => ⟨fun l => goes_iff.mp l, fun l => ta_total hlt fun z => ?_⟩)).1
  rw [goes_iff.mpr z] at l
  cases l
theorem few_ahead {bs : List (Rat × Rat)} {c t o : Nat} (ht : t ∈ fewR bs c) (ho : o < bs.length) (hn : o ∉ fewR bs c) : TA bs t o := by
  have p := turn_ok bs
  have mo := turn_mem.mpr ho
  rw [← List.take_append_drop c (turnR bs)] at p mo
  have ht' : t ∈ (turnR bs).take c := (sortN_perm _).mem_iff.mp ht
  rcases List.mem_append.mp mo with q | q
  · exact absurd ((sortN_perm _).mem_iff.mpr q) hn
  · exact (List.pairwise_append.mp p).2.2 t ht' o q
theorem few_nodup (bs : List (Rat × Rat)) (c : Nat) : (fewR bs c).Nodup := (sortN_perm _).nodup_iff.mpr ((turn_nodup bs).sublist (List.take_sublist _ _))
theorem few_rise (bs : List (Rat × Rat)) (c : Nat) : (fewR bs c).Pairwise fun a b => a < b := sortN_lt ((turn_nodup bs).sublist (List.take_sublist _ _))
theorem few_len {bs : List (Rat × Rat)} {c : Nat} (h : c ≤ bs.length) : (fewR bs c).length = c := by
  unfold fewR
  rw [(sortN_perm _).length_eq, List.length_take, turn_len]
  omega
theorem nodup_len : ∀ {xs ys : List Nat}, xs.Nodup → (∀ x ∈ xs, x ∈ ys) → xs.length ≤ ys.length
  | [], _, _, _ => Nat.zero_le _
  | x :: r, ys, h, hs => by
    obtain ⟨h1, h2⟩ := List.nodup_cons.mp h
    have i := nodup_len (xs := r) (ys := ys.erase x) h2 fun y hy => (List.mem_erase_of_ne (fun z => h1 (by rw [← z]; exact hy))).mpr (hs y (List.mem_cons_of_mem _ hy))
    have e := List.length_erase_of_mem (hs x List.mem_cons_self)
    have p := List.length_pos_of_mem (hs x List.mem_cons_self)
    rw [List.length_cons]
    omega
theorem other_side {S T : List Nat} (hS : S.Nodup) (hl : T.length = S.length) {t : Nat} (ht : t ∈ T) (hn : t ∉ S) : ∃ s ∈ S, s ∉ T := by
  refine Classical.byContradiction fun q => ?_
  have sub : ∀ s ∈ S, s ∈ T.erase t := fun s hs => by
    have hst : s ∈ T := Classical.byContradiction fun z => q ⟨s, hs, z⟩
    exact (List.mem_erase_of_ne (fun z => hn (by rw [← z]; exact hs))).mpr hst
  have h1 := nodup_len hS sub
  have e := List.length_erase_of_mem ht
  have p := List.length_pos_of_mem ht
  omega
/-- where some are sure, the first of the turn are -/
theorem sure_first {m c : Nat} {bs : List (Rat × Rat)} (h : Bd m bs) (hc : c ≤ m) {S : List Nat} (hS : S.Nodup) (hSl : S.length = c) (hSm : ∀ s ∈ S, s < m) (hs : sureR bs S = true) : sureR bs (fewR bs c) = true := by
  have hs' := sure_iff.mp hs
  have ord := h.ord
  rw [sure_iff]
  intro t ht o ho hno
  have lenT : (fewR bs c).length = S.length := by rw [few_len (by rw [h.len]; exact hc), hSl]
  have htm : t < m := by rw [← h.len]; exact few_lt ht
  have hom : o < m := by rw [← h.len]; exact ho
  have a_to := few_ahead ht ho hno
  have lo_of : ∀ {x y : Nat}, TA bs x y → lo bs y ≤ lo bs x := fun {x y} z => by
    rcases z with z | ⟨z, _⟩
    · exact Rat.le_of_lt z
    · rw [z]; exact Rat.le_refl
  have hi_of : ∀ {x y : Nat}, TA bs x y → lo bs x ≤ lo bs y → hi bs y ≤ hi bs x := fun {x y} z w => by
    rcases z with z | ⟨_, z | ⟨z, _⟩⟩
    · exact absurd w (Rat.not_le.mpr z)
    · exact Rat.le_of_lt z
    · rw [z]; exact Rat.le_refl
  by_cases tS : t ∈ S
  · by_cases oS : o ∈ S
    · obtain ⟨u, uT, uS⟩ := other_side (S := fewR bs c) (T := S) (few_nodup bs c) lenT.symm oS hno
      have um : u < m := by rw [← h.len]; exact few_lt uT
      have q1 := hs' t tS u (by rw [h.len]; exact um) uS
      have q2 := hs' o oS u (by rw [h.len]; exact um) uS
      have a_uo := few_ahead uT ho hno
      have q3 := ord u um
      exact Rat.le_trans (hi_of a_uo (Rat.le_trans q3 q2)) q1
    · exact hs' t tS o ho oS
  · obtain ⟨s, sS, sT⟩ := other_side hS lenT ht tS
    have sm := hSm s sS
    have a_ts := few_ahead ht (by rw [h.len]; exact sm) sT
    have q1 := hs' s sS t (by rw [h.len]; exact htm) tS
    have q2 := ord t htm
    have q3 := lo_of a_ts
    by_cases oS : o ∈ S
    · have q4 := hs' o oS t (by rw [h.len]; exact htm) tS
      have q5 := hi_of a_to (Rat.le_trans q2 q4)
      exact Rat.le_trans q5 (Rat.le_trans q1 q3)
    · exact Rat.le_trans (hs' s sS o ho oS) q3
/-! ### what is nearly sure -/
structure Near (m c : Nat) (bs : List (Rat × Rat)) (s : Rat) (S : List Nat) : Prop where
  nd : S.Nodup
  len : S.length = c
  lt : ∀ t ∈ S, t < m
  ok : ∀ t ∈ S, ∀ o, o < m → o ∉ S → hi bs o ≤ s * lo bs t
theorem Near.nar {m c : Nat} {bs bs' : List (Rat × Rat)} {s : Rat} {S : List Nat} (s0 : 0 ≤ s) (hn : Nar m bs bs') (h : Near m c bs s S) : Near m c bs' s S :=
  ⟨h.nd, h.len, h.lt, fun t ht o ho hno => Rat.le_trans (hn o ho).2 (Rat.le_trans (h.ok t ht o ho hno) (Rat.mul_le_mul_of_nonneg_left (hn t (h.lt t ht)).1 s0))⟩
theorem Near.more {m c : Nat} {bs : List (Rat × Rat)} {s s' : Rat} {S : List Nat} (hb : Bd m bs) (hs : s ≤ s') (h : Near m c bs s S) : Near m c bs s' S :=
  ⟨h.nd, h.len, h.lt, fun t ht o ho hno => Rat.le_trans (h.ok t ht o ho hno) (Rat.mul_le_mul_of_nonneg_right hs (hb.nn t (h.lt t ht)))⟩
theorem near_sound {m c : Nat} {bs : List (Rat × Rat)} {s l : Rat} {T : List Nat} (hb : Bd m bs) (s0 : 0 ≤ s) (h : nearA bs c s l = some T) : Near m c bs s T := by
  unfold nearA at h
  split at h
  · cases h
  rename_i h1
  split at h
  · cases h
  rename_i h2
  cases h
  have n1 : c ≤ (ordA bs l).length := by omega
  have n2 : (wantA bs (s * l)).length ≤ c := by omega
  have sub : ∀ o ∈ wantA bs (s * l), o ∈ ordA bs l := fun o ho => Classical.byContradiction fun q => by
    have : o ∈ restA (wantA bs (s * l)) (ordA bs l) := List.mem_filter.mpr ⟨ho, by rw [decide_eq_false q]; rfl⟩
    have := List.length_pos_of_mem this
    omega
  have ordN : (ordA bs l).Nodup := (turn_nodup bs).sublist List.filter_sublist
  have wantN : (wantA bs (s * l)).Nodup := List.nodup_range.sublist List.filter_sublist
  have restN : (restA (ordA bs l) (wantA bs (s * l))).Nodup := ordN.sublist List.filter_sublist
  have mem : ∀ t, t ∈ sortN (wantA bs (s * l) ++ (restA (ordA bs l) (wantA bs (s * l))).take (c - (wantA bs (s * l)).length)) ↔ t ∈ wantA bs (s * l) ∨ t ∈ (restA (ordA bs l) (wantA bs (s * l))).take (c - (wantA bs (s * l)).length) := fun t => by
    rw [(sortN_perm _).mem_iff, List.mem_append]
  have inO : ∀ t, t ∈ sortN (wantA bs (s * l) ++ (restA (ordA bs l) (wantA bs (s * l))).take (c - (wantA bs (s * l)).length)) → t ∈ ordA bs l := fun t ht => by
    rcases (mem t).mp ht with q | q
    · exact sub t q
    · exact (List.mem_filter.mp (List.mem_of_mem_take q)).1
  have inO' : ∀ t ∈ ordA bs l, t < m ∧ l ≤ lo bs t := fun t ht => by
    obtain ⟨q1, q2⟩ := List.mem_filter.mp ht
    exact ⟨by rw [← hb.len]; exact turn_mem.mp q1, of_decide_eq_true q2⟩
  have disj : ∀ a ∈ wantA bs (s * l), ∀ b ∈ (restA (ordA bs l) (wantA bs (s * l))).take (c - (wantA bs (s * l)).length), a ≠ b := fun a ha b hb z => by
    have q := (List.mem_filter.mp (List.mem_of_mem_take hb)).2
    rw [← z, decide_eq_true ha] at q
    cases q
  refine ⟨(sortN_perm _).nodup_iff.mpr (List.nodup_append.mpr ⟨wantN, restN.sublist (List.take_sublist _ _), disj⟩), ?_, fun t ht => (inO' t (inO t ht)).1, fun t ht o ho hno => ?_⟩
  · rw [(sortN_perm _).length_eq, List.length_append, List.length_take]
    have cover : (ordA bs l).length ≤ (wantA bs (s * l) ++ restA (ordA bs l) (wantA bs (s * l))).length := nodup_len ordN fun x hx => by
      by_cases q : x ∈ wantA bs (s * l)
      · exact List.mem_append_left _ q
      · exact List.mem_append_right _ (List.mem_filter.mpr ⟨hx, by rw [decide_eq_false q]; rfl⟩)
    rw [List.length_append] at cover
    omega
  · have nw : o ∉ wantA bs (s * l) := fun q => hno ((mem o).mpr (.inl q))
    have q1 : hi bs o ≤ s * l := Rat.not_lt.mp fun z => nw (List.mem_filter.mpr ⟨List.mem_range.mpr (by rw [hb.len]; exact ho), decide_eq_true z⟩)
    exact Rat.le_trans q1 (Rat.mul_le_mul_of_nonneg_left (inO' t (inO t ht)).2 s0)
theorem least_of (f : Nat → Rat) : ∀ {S : List Nat}, S ≠ [] → ∃ t ∈ S, ∀ u ∈ S, f t ≤ f u
  | [], h => absurd rfl h
  | [a], _ => ⟨a, List.mem_cons_self, fun u hu => by rw [List.mem_singleton.mp hu]; exact Rat.le_refl⟩
  | a :: c :: r, _ => by
    obtain ⟨t, h1, h2⟩ := least_of f (S := c :: r) (by intro z; cases z)
    by_cases q : f a ≤ f t
    · exact ⟨a, List.mem_cons_self, fun u hu => by
        rcases List.mem_cons.mp hu with rfl | hu
        · exact Rat.le_refl
        · exact Rat.le_trans q (h2 u hu)⟩
    · exact ⟨t, List.mem_cons_of_mem _ h1, fun u hu => by
        rcases List.mem_cons.mp hu with rfl | hu
        · exact Rat.le_of_lt (Rat.not_le.mp q)
        · exact h2 u hu⟩
theorem near_some_of {m c : Nat} {bs : List (Rat × Rat)} {s : Rat} {S : List Nat} (hb : Bd m bs) (h : Near m c bs s S) : ∃ T, nearR bs c s = some T := by
  unfold nearR
  by_cases c0 : c = 0
  · exact ⟨[], if_pos c0⟩
  · rw [if_neg c0]
    obtain ⟨t, ht, hmin⟩ := least_of (lo bs) (S := S) (fun z => c0 (by rw [← h.len, z]; rfl))
    have tm := h.lt t ht
    have subO : ∀ u ∈ S, u ∈ ordA bs (lo bs t) := fun u hu => List.mem_filter.mpr ⟨turn_mem.mpr (by rw [hb.len]; exact h.lt u hu), decide_eq_true (hmin u hu)⟩
    have subW : ∀ u ∈ wantA bs (s * lo bs t), u ∈ S := fun u hu => Classical.byContradiction fun q => by
      obtain ⟨q1, q2⟩ := List.mem_filter.mp hu
      have um : u < m := by rw [← hb.len]; exact List.mem_range.mp q1
      exact absurd (h.ok t ht u um q) (Rat.not_le.mpr (of_decide_eq_true q2))
    have wantN : (wantA bs (s * lo bs t)).Nodup := List.nodup_range.sublist List.filter_sublist
    have l1 := nodup_len h.nd subO
    have l2 := nodup_len wantN subW
    have l3 : (restA (wantA bs (s * lo bs t)) (ordA bs (lo bs t))).length = 0 := by
      rw [List.length_eq_zero_iff]
      refine List.filter_eq_nil_iff.mpr fun u hu => ?_
      rw [decide_eq_true (subO u (subW u hu))]
      decide
    have hA : nearA bs c s (lo bs t) ≠ none := by
      unfold nearA
      rw [if_neg (by have := h.len; omega), if_neg (by omega)]
      intro z
      cases z
    cases q : (turnR bs).findSome? fun t => nearA bs c s (lo bs t) with
    | some T => exact ⟨T, rfl⟩
    | none =>
      have := List.findSome?_eq_none_iff.mp q t (turn_mem.mpr (by rw [hb.len]; exact tm))
      exact absurd this hA
theorem near_is {m c : Nat} {bs : List (Rat × Rat)} {s : Rat} {T : List Nat} (hb : Bd m bs) (s0 : 0 ≤ s) (h : nearR bs c s = some T) : Near m c bs s T := by
  unfold nearR at h
  split at h
  · rename_i z
    cases h
    exact ⟨.nil, z.symm, fun _ y => (by cases y), fun _ y => (by cases y)⟩
  · obtain ⟨t, _, ht⟩ := List.exists_of_findSome?_eq_some h
    exact near_sound hb s0 ht
/-! ### whole looks -/
theorem turn_whole {ws : List Rat} {bs : List (Rat × Rat)} (hl : bs.length = ws.length) (h1 : ∀ t, t < ws.length → lo bs t = W ws t ∧ hi bs t = W ws t) : turnR bs = orderR ws := by
  unfold turnR orderR sortBy
  rw [hl]
  refine sort_congr _ _ (fun o ho => by cases ho) ?_
  have : (List.range ws.length).Pairwise fun a b => a < b ∧ b < ws.length := by
    refine List.pairwise_iff_getElem.mpr fun i j hi hj hij => ?_
    rw [List.getElem_range, List.getElem_range]
    rw [List.length_range] at hj
    exact ⟨hij, hj⟩
  refine this.imp fun {o x} h => ?_
  obtain ⟨hox, hx⟩ := h
  obtain ⟨a1, a2⟩ := h1 o (Nat.lt_trans hox hx)
  obtain ⟨b1, b2⟩ := h1 x hx
  unfold goesR leW
  rw [a1, a2, b1, b2]
  by_cases q : W ws o = W ws x
  · rw [if_pos q, if_pos q, decide_eq_true hox, decide_eq_true (by rw [q]; exact Rat.le_refl)]
  · rw [if_neg q]
    refine decide_eq_decide.mpr ⟨Rat.le_of_lt, fun z => ?_⟩
    rcases Rat.le_iff_lt_or_eq.mp z with y | y
    · exact y
    · exact absurd y.symm q
theorem sure_whole {ws : List Rat} {bs : List (Rat × Rat)} (hl : bs.length = ws.length) (h1 : ∀ t, t < ws.length → lo bs t = W ws t ∧ hi bs t = W ws t) (c : Nat) : sureR bs (fewR bs c) = true := by
  rw [sure_iff]
  intro t ht o ho hno
  have a := few_ahead ht ho hno
  have tm := few_lt ht
  rw [hl] at tm ho
  obtain ⟨a1, a2⟩ := h1 t tm
  obtain ⟨b1, b2⟩ := h1 o ho
  rw [b2, a1]
  unfold TA at a
  rw [a1, b1] at a
  rcases a with a | ⟨a, _⟩
  · exact Rat.le_of_lt a
  · rw [a]; exact Rat.le_refl
end DL

set_option Elab.async false
set_option linter.all false
set_option maxRecDepth 100000
set_option maxHeartbeats 4000000
set_option exponentiation.threshold 3000
/-! Fn1: the law's parts are true: nested, stays, near. -/
namespace DL
open PySem
theorem eqv_all {α : Type} {f : α → PyData} (h : ∀ a, PyData.eqv (f a) (f a) = true) : ∀ xs : List α, PyData.eqvAll (xs.map f) (xs.map f) = true
  | [] => by simp only [List.map_nil, PyData.eqvAll]
  | x :: r => by simp only [List.map_cons, PyData.eqvAll, h x, eqv_all h r, Bool.and_self]
theorem eqv_list {α : Type} {f : α → PyData} (h : ∀ a, PyData.eqv (f a) (f a) = true) (xs : List α) : PyData.eqv (.list (xs.map f)) (.list (xs.map f)) = true := by
  simp only [PyData.eqv]
  exact eqv_all h xs
theorem eqv_frr (r : Rat) : PyData.eqv (frR r) (frR r) = true := by rw [eqv_fr]; exact decide_eq_true rfl
theorem eqv_bnd (p : Rat × Rat) : PyData.eqv (bndD p) (bndD p) = true := by
  show (PyData.eqv (frR p.1) (frR p.1) && (PyData.eqv (frR p.2) (frR p.2) && true)) = true
  rw [eqv_frr, eqv_frr]
  rfl
theorem shp_bnd (p : Rat × Rat) : Shp 2 (bndD p) := shp_tup fun d hd => by
  rcases List.mem_cons.mp hd with rfl | hd
  · exact shp_fr _
  · rw [List.mem_singleton.mp hd]
    exact shp_fr _
theorem ne_self {d : PyData} {n : Nat} (hn : n ≤ 64) (h : Shp n d) (e : PyData.eqv d d = true) : neD d d = some (.bool false) := by
  unfold neD
  rw [if_pos ⟨h.shaped hn, h.shaped hn⟩, e]
  rfl
/-! ### nested -/
section
variable {m : Nat} {b : List (List Rat)} {ds ds' : List Nat} {as as' : List (Nat × Nat)} {r : Rule}
theorem seen_ix (h : Bok m b) (hd : ds.length = b.length) {k t : Nat} (hk : k < b.length) (ht : t < m) : ∃ ro, ixD (seenD (seenR b ds as)) (natD k) = some ro ∧ ixD ro (natD t) = some (optD (sv b ds as k t)) := by
  have s := sok_of h hd as
  have e1 := some_getD (xs := seenR b ds as) (d := []) (k := k) (by rw [s.sn]; exact hk)
  refine ⟨_, ix_map (enc := orowD) e1, ?_⟩
  have e2 := some_getD (xs := (seenR b ds as).getD k []) (d := none) (k := t) (by rw [s.sm _ (List.mem_of_getElem? e1)]; exact ht)
  rw [seen_get h hd hk ht] at e2
  exact ix_map e2
theorem run_nest1 {B S1 S2 r0 r1 r2 k t w x y : PyData} {a1 a2 a3 a8 a9 a10 a11 a12 a13 a14 : DV} (h0 : ixD B k = some r0) (h1 : ixD r0 t = some w) (h2 : ixD S1 k = some r1) (h3 : ixD r1 t = some x) (h4 : ixD S2 k = some r2) (h5 : ixD r2 t = some y)
    (h6 : notNoneD x = some (.bool false) ∨ (notNoneD x = some (.bool true) ∧ neD (.list [x, y]) (.list [w, w]) = some (.bool false))) :
    B_law_nested_1 [.val B, a1, a2, a3, .val S1, .val S2, .val k, .val t, a8, a9, a10, a11, a12, a13, a14] = some (.nx [.val B, a1, a2, a3, .val S1, .val S2, .val k, .val t, .val w, .val (.list [x, y]), a10, a11, a12, a13, a14]) := by
  have e : ixD (.list [x, y]) (natD 0) = some x := ix_list _ 0
  rcases h6 with h6 | ⟨h6, h7⟩
  · simp only [B_law_nested_1, sSeq_ap, sIf_ap, bOf_ap, bAnd_ap, bOr_ap, bNot_ap, bYes_ap, fAnd_ap, fOr_ap, fNot_ap, fIf_ap, sPat_ap, pName_ap, pTup_ap, setAll, sSkip_ap, sRet_ap, sOwn_ap, sFrz_ap, frz, frz1, sApp_ap, sIns_ap, sDo_ap, fTup_ap, fLstN_ap, fList_ap, fCall_ap, fCons_ap, fNil_ap, f1_ap, f2_ap, fVar_ap, fC_ap, sFor_ap, List.foldl_cons, List.foldl_nil, List.set_cons_succ, List.set_cons_zero, List.getElem?_cons_zero, List.getElem?_cons_succ, Option.bind_some, fin_rt, fin_nx, Bool.not_true, Bool.not_false, wipeD, nought_fr, one_fr, int_0, int_1, int_2, int_3, int_4, int_8, int_12, len_list, len_tup, len_map, isi_list, isi_tup, isi_str, lt_nn, le_nn, gt_nn, ge_nn, eq_nn, ne_nn, add_nn, whole_n, List.length_map, decide_true, decide_false, leng0, leng1, leng2, leng3, leng4, if_true, if_false, eq_self, Nat.reduceEqDiff, Nat.reduceLT, Nat.reduceLeDiff, h0, h1, h2, h3, h4, h5, e, h6]
  · simp only [B_law_nested_1, sSeq_ap, sIf_ap, bOf_ap, bAnd_ap, bOr_ap, bNot_ap, bYes_ap, fAnd_ap, fOr_ap, fNot_ap, fIf_ap, sPat_ap, pName_ap, pTup_ap, setAll, sSkip_ap, sRet_ap, sOwn_ap, sFrz_ap, frz, frz1, sApp_ap, sIns_ap, sDo_ap, fTup_ap, fLstN_ap, fList_ap, fCall_ap, fCons_ap, fNil_ap, f1_ap, f2_ap, fVar_ap, fC_ap, sFor_ap, List.foldl_cons, List.foldl_nil, List.set_cons_succ, List.set_cons_zero, List.getElem?_cons_zero, List.getElem?_cons_succ, Option.bind_some, fin_rt, fin_nx, Bool.not_true, Bool.not_false, wipeD, nought_fr, one_fr, int_0, int_1, int_2, int_3, int_4, int_8, int_12, len_list, len_tup, len_map, isi_list, isi_tup, isi_str, lt_nn, le_nn, gt_nn, ge_nn, eq_nn, ne_nn, add_nn, whole_n, List.length_map, decide_true, decide_false, leng0, leng1, leng2, leng3, leng4, if_true, if_false, eq_self, Nat.reduceEqDiff, Nat.reduceLT, Nat.reduceLeDiff, h0, h1, h2, h3, h4, h5, e, h6, h7]
theorem nest_ne (w : Rat) : neD (.list [frR w, frR w]) (.list [frR w, frR w]) = some (.bool false) := ne_self (n := 2) (by decide) (shp_map (f := frR) shp_fr [w, w]) (eqv_list (f := frR) eqv_frr [w, w])
theorem nest_step2 (h : Bok m b) (hd : ds.length = b.length) (hd' : ds'.length = b.length) (hl : LeN ds ds') (ha : ∀ p ∈ as, p ∈ as') {k : Nat} (hk : k < b.length) {a1 a2 a3 x7 x8 x9 a10 a11 a12 a13 a14 : DV} :
    ∃ y7 y8 y9, B_law_nested_2 [.val (bookD b), a1, a2, a3, .val (seenD (seenR b ds as)), .val (seenD (seenR b ds' as')), .val (natD k), x7, x8, x9, a10, a11, a12, a13, a14] = some (.nx [.val (bookD b), a1, a2, a3, .val (seenD (seenR b ds as)), .val (seenD (seenR b ds' as')), .val (natD k), y7, y8, y9, a10, a11, a12, a13, a14]) := by
  have m2 := h.m2
  obtain ⟨r1, r2, r3⟩ := h.rowk hk
  have ek : ixD (bookD b) (natD k) = some (rowD (b.getD k [])) := ix_map (some_getD hk)
  obtain ⟨δ', h1, y7, y8, y9, h2⟩ := for_inv (enc := natD) (p := pName 7) (body := B_law_nested_1) (xs := List.range m) (δ := [.val (bookD b), a1, a2, a3, .val (seenD (seenR b ds as)), .val (seenD (seenR b ds' as')), .val (natD k), x7, x8, x9, a10, a11, a12, a13, a14])
    (fun pr δ => ∃ x7 x8 x9, δ = [.val (bookD b), a1, a2, a3, .val (seenD (seenR b ds as)), .val (seenD (seenR b ds' as')), .val (natD k), x7, x8, x9, a10, a11, a12, a13, a14]) ⟨_, _, _, rfl⟩ (by
      rintro pr t po δ e ⟨x7, x8, x9, rfl⟩
      obtain ⟨_, ht⟩ := range_at e
      obtain ⟨ro, g1, g2⟩ := seen_ix (as := as) h hd hk ht
      obtain ⟨ro', g3, g4⟩ := seen_ix (as := as') h hd' hk ht
      refine ⟨_, _, rfl, run_nest1 ek (ix_row (at_W (by rw [r2]; exact ht))) g1 g2 g3 g4 ?_, _, _, _, rfl⟩
      cases q : sv b ds as k t with
      | none => exact .inl rfl
      | some w =>
        obtain ⟨q1, q2⟩ := sv_grow hl ha q
        rw [q1, ← q2]
        exact .inr ⟨rfl, nest_ne w⟩)
  have e1 := dRange_ap (fCall lenD (fCons (f2 ixD (fVar 0) (fVar 6)) fNil)) [.val (bookD b), a1, a2, a3, .val (seenD (seenR b ds as)), .val (seenD (seenR b ds' as')), .val (natD k), x7, x8, x9, a10, a11, a12, a13, a14] (n := m) (by simp only [sSeq_ap, sIf_ap, bOf_ap, bAnd_ap, bOr_ap, bNot_ap, bYes_ap, fAnd_ap, fOr_ap, fNot_ap, fIf_ap, sPat_ap, pName_ap, pTup_ap, setAll, sSkip_ap, sRet_ap, sOwn_ap, sFrz_ap, frz, frz1, sApp_ap, sIns_ap, sDo_ap, fTup_ap, fLstN_ap, fList_ap, fCall_ap, fCons_ap, fNil_ap, f1_ap, f2_ap, fVar_ap, fC_ap, sFor_ap, List.foldl_cons, List.foldl_nil, List.set_cons_succ, List.set_cons_zero, List.getElem?_cons_zero, List.getElem?_cons_succ, Option.bind_some, fin_rt, fin_nx, Bool.not_true, Bool.not_false, wipeD, nought_fr, one_fr, int_0, int_1, int_2, int_3, int_4, int_8, int_12, len_list, len_tup, len_map, isi_list, isi_tup, isi_str, lt_nn, le_nn, gt_nn, ge_nn, eq_nn, ne_nn, add_nn, whole_n, List.length_map, decide_true, decide_false, leng0, leng1, leng2, leng3, leng4, if_true, if_false, eq_self, Nat.reduceEqDiff, Nat.reduceLT, Nat.reduceLeDiff, ek, len_row, r2]) (by omega)
  refine ⟨y7, y8, y9, ?_⟩
  rw [h2] at h1
  generalize seenD (seenR b ds as) = S1 at *
  generalize seenD (seenR b ds' as') = S2 at *
  simp only [B_law_nested_2, sSeq_ap, sIf_ap, bOf_ap, bAnd_ap, bOr_ap, bNot_ap, bYes_ap, fAnd_ap, fOr_ap, fNot_ap, fIf_ap, sPat_ap, pName_ap, pTup_ap, setAll, sSkip_ap, sRet_ap, sOwn_ap, sFrz_ap, frz, frz1, sApp_ap, sIns_ap, sDo_ap, fTup_ap, fLstN_ap, fList_ap, fCall_ap, fCons_ap, fNil_ap, f1_ap, f2_ap, fVar_ap, fC_ap, sFor_ap, List.foldl_cons, List.foldl_nil, List.set_cons_succ, List.set_cons_zero, List.getElem?_cons_zero, List.getElem?_cons_succ, Option.bind_some, fin_rt, fin_nx, Bool.not_true, Bool.not_false, wipeD, nought_fr, one_fr, int_0, int_1, int_2, int_3, int_4, int_8, int_12, len_list, len_tup, len_map, isi_list, isi_tup, isi_str, lt_nn, le_nn, gt_nn, ge_nn, eq_nn, ne_nn, add_nn, whole_n, List.length_map, decide_true, decide_false, leng0, leng1, leng2, leng3, leng4, if_true, if_false, eq_self, Nat.reduceEqDiff, Nat.reduceLT, Nat.reduceLeDiff, e1, h1]
theorem run_nest3 {B R S1 S2 t w : PyData} {l h l0 h0' : PyData} {ws : List PyData} {a2 a3 a4 a5 a6 a8 a9 a12 a13 a14 : DV} (h1 : ixD S2 t = some (.tuple [l, h])) (h2 : fComp (dVar 0) (pName 14) bYes (f2 ixD (fVar 14) (fVar 7)) [14] [.val B, .val R, a2, a3, a4, a5, a6, .val t, a8, a9, .val S1, .val S2, .val l, .val h, a14] = some ws)
    (h3 : F_law_worth [R, .list ws] = some w) (h4 : ixD S1 t = some (.tuple [l0, h0'])) (h5 : F_law_below [l, l0] = some (.bool false)) (h6 : F_law_below [h0', h] = some (.bool false)) (h7 : F_law_below [w, l] = some (.bool false)) (h8 : F_law_below [h, w] = some (.bool false)) :
    B_law_nested_3 [.val B, .val R, a2, a3, a4, a5, a6, .val t, a8, a9, .val S1, .val S2, a12, a13, a14] = some (.nx [.val B, .val R, a2, a3, a4, a5, a6, .val t, .val w, a9, .val S1, .val S2, .val l, .val h, a14]) := by
  simp only [B_law_nested_3, sSeq_ap, sIf_ap, bOf_ap, bAnd_ap, bOr_ap, bNot_ap, bYes_ap, fAnd_ap, fOr_ap, fNot_ap, fIf_ap, sPat_ap, pName_ap, pTup_ap, setAll, sSkip_ap, sRet_ap, sOwn_ap, sFrz_ap, frz, frz1, sApp_ap, sIns_ap, sDo_ap, fTup_ap, fLstN_ap, fList_ap, fCall_ap, fCons_ap, fNil_ap, f1_ap, f2_ap, fVar_ap, fC_ap, sFor_ap, List.foldl_cons, List.foldl_nil, List.set_cons_succ, List.set_cons_zero, List.getElem?_cons_zero, List.getElem?_cons_succ, Option.bind_some, fin_rt, fin_nx, Bool.not_true, Bool.not_false, wipeD, nought_fr, one_fr, int_0, int_1, int_2, int_3, int_4, int_8, int_12, len_list, len_tup, len_map, isi_list, isi_tup, isi_str, lt_nn, le_nn, gt_nn, ge_nn, eq_nn, ne_nn, add_nn, whole_n, List.length_map, decide_true, decide_false, leng0, leng1, leng2, leng3, leng4, if_true, if_false, eq_self, Nat.reduceEqDiff, Nat.reduceLT, Nat.reduceLeDiff, h1, h2, h3, h4, ix_0, ix_1, h5, h6, h7, h8]
theorem bd_of (h : Bok m b) (hr : Rok b.length r) (hd : ds.length = b.length) : Bd m (bbR b r ds as m) := by
  have q := bds_of h hr hd as
  refine ⟨q.len, fun t ht => ?_, fun t ht => (q.lo ht).nn⟩
  rw [lo_bb ht, hi_bb ht]
  exact Rat.le_trans (low_le h hr hd ht) (le_high h hr hd ht)
theorem nar_of (h : Bok m b) (hr : Rok b.length r) (hd : ds.length = b.length) (hd' : ds'.length = b.length) (hl : LeN ds ds') (ha : ∀ p ∈ as, p ∈ as') : Nar m (bbR b r ds as m) (bbR b r ds' as' m) := fun t ht => by
  rw [lo_bb ht, hi_bb ht, lo_bb ht, hi_bb ht]
  exact ⟨low_mono h hr hd hd' hl ha ht, high_mono h hr hd hd' hl ha ht⟩
theorem bnd_ix (h : Bok m b) (hr : Rok b.length r) (hd : ds.length = b.length) {t : Nat} (ht : t < m) : ixD (bndsD (bbR b r ds as m)) (natD t) = some (.tuple [frR (lowR r (seenR b ds as) t), frR (highR r (seenR b ds as) (lastR b ds) t)]) := ix_map (bb_get ht)
theorem Bo.nlaw {a c : Rat} (ha : Bo a) (hc : Bo c) (h : c ≤ a) : F_law_below [frR a, frR c] = some (.bool false) := by
  rw [fl_below ha.sz hc.sz (by decide) (by decide), decide_eq_false (Rat.not_lt.mpr h)]
theorem col_row (t : Nat) : PyData.list (b.map fun row => frR (W row t)) = rowD (b.map fun row => W row t) := by
  unfold rowD
  rw [List.map_map]
  rfl
theorem at_worth (h : Bok m b) (hr : Rok b.length r) {t : Nat} (ht : t < m) : F_law_worth [ruleD r, .list (b.map fun row => frR (W row t))] = some (frR (worthAt b r t)) ∧ Bo (worthAt b r t) := by
  have hw : ∀ x ∈ b.map (fun row => W row t), Wo x := fun x hx => by
    obtain ⟨row, hrow, rfl⟩ := List.mem_map.mp hx
    exact W_wo (h.wo row hrow) (by rw [h.row row hrow]; exact ht)
  rw [col_row]
  exact ⟨fl_worth hr (List.length_map _) h.n1 h.n2 hw, (f_worth hr (List.length_map _) h.n1 h.n2 hw).2⟩
theorem nest_step3 (h : Bok m b) (hr : Rok b.length r) (hd : ds.length = b.length) (hd' : ds'.length = b.length) (hl : LeN ds ds') (ha : ∀ p ∈ as, p ∈ as') {t : Nat} (ht : t < m) {a2 a3 a4 a5 a6 a8 a9 a12 a13 a14 : DV} :
    ∃ y8 y12 y13, B_law_nested_3 [.val (bookD b), .val (ruleD r), a2, a3, a4, a5, a6, .val (natD t), a8, a9, .val (bndsD (bbR b r ds as m)), .val (bndsD (bbR b r ds' as' m)), a12, a13, a14] = some (.nx [.val (bookD b), .val (ruleD r), a2, a3, a4, a5, a6, .val (natD t), y8, a9, .val (bndsD (bbR b r ds as m)), .val (bndsD (bbR b r ds' as' m)), y12, y13, a14]) := by
  have q := bds_of h hr hd as
  have q' := bds_of h hr hd' as'
  have b1 := q.lo ht
  have b2 := q.hi ht
  have b3 := q'.lo ht
  have b4 := q'.hi ht
  rw [lo_bb ht] at b1 b3
  rw [hi_bb ht] at b2 b4
  obtain ⟨w1, w2⟩ := at_worth h hr ht
  refine ⟨_, _, _, run_nest3 (bnd_ix h hr hd' ht) (comp_map (enc := rowD) _ b rfl (by have := h.n2; omega) fun row hrow => ⟨_, rfl, ?_⟩) w1 (bnd_ix h hr hd ht) (b3.nlaw b1 (low_mono h hr hd hd' hl ha ht)) (b2.nlaw b4 (high_mono h hr hd hd' hl ha ht)) (w2.nlaw b3 (low_le h hr hd' ht)) (b4.nlaw w2 (le_high h hr hd' ht))⟩
  exact ix_row (at_W (by rw [h.row row hrow]; exact ht))
theorem run_nested {B R L M S1 S2 D1 D2 c1 c2 : PyData} {n m s1 s2 : Nat} {δ1 δ2 : DEnv} {x6 x7 x8 x9 y7 y8 y12 y13 y14 : DV} (h1 : F_seen_worths [B, L] = some S1) (h2 : F_seen_worths [B, M] = some S2)
    (h3 : dRange1 (fCall lenD (fCons (fVar 0) fNil)) [.val B, .val R, .val L, .val M, .val S1, .val S2, .no, .no, .no, .no, .no, .no, .no, .no, .no] = some ((List.range n).map natD))
    (h4 : forD (pName 6) B_law_nested_2 ((List.range n).map natD) [.val B, .val R, .val L, .val M, .val S1, .val S2, .no, .no, .no, .no, .no, .no, .no, .no, .no] = some (.nx δ1)) (h5 : δ1 = [.val B, .val R, .val L, .val M, .val S1, .val S2, x6, x7, x8, x9, .no, .no, .no, .no, .no])
    (h6 : F_worth_bounds [B, R, L] = some D1) (h7 : F_worth_bounds [B, R, M] = some D2)
    (h8 : dRange1 (fCall lenD (fCons (f2 ixD (fVar 0) (fC (natD 0))) fNil)) [.val B, .val R, .val L, .val M, .val S1, .val S2, x6, x7, x8, x9, .val D1, .val D2, .no, .no, .no] = some ((List.range m).map natD))
    (h9 : forD (pName 7) B_law_nested_3 ((List.range m).map natD) [.val B, .val R, .val L, .val M, .val S1, .val S2, x6, x7, x8, x9, .val D1, .val D2, .no, .no, .no] = some (.nx δ2)) (h10 : δ2 = [.val B, .val R, .val L, .val M, .val S1, .val S2, x6, y7, y8, x9, .val D1, .val D2, y12, y13, y14])
    (h11 : F_count_of [B, M] = some (.tuple [natD s2, c2])) (h12 : F_count_of [B, L] = some (.tuple [natD s1, c1])) (h13 : s1 ≤ s2) : F_law_nested [B, R, L, M] = some (.bool true) := by
  have d : decide (s1 ≤ s2) = true := decide_eq_true h13
  rw [r_law_nested]
  simp only [B_law_nested, sSeq_ap, sIf_ap, bOf_ap, bAnd_ap, bOr_ap, bNot_ap, bYes_ap, fAnd_ap, fOr_ap, fNot_ap, fIf_ap, sPat_ap, pName_ap, pTup_ap, setAll, sSkip_ap, sRet_ap, sOwn_ap, sFrz_ap, frz, frz1, sApp_ap, sIns_ap, sDo_ap, fTup_ap, fLstN_ap, fList_ap, fCall_ap, fCons_ap, fNil_ap, f1_ap, f2_ap, fVar_ap, fC_ap, sFor_ap, List.foldl_cons, List.foldl_nil, List.set_cons_succ, List.set_cons_zero, List.getElem?_cons_zero, List.getElem?_cons_succ, Option.bind_some, fin_rt, fin_nx, Bool.not_true, Bool.not_false, wipeD, nought_fr, one_fr, int_0, int_1, int_2, int_3, int_4, int_8, int_12, len_list, len_tup, len_map, isi_list, isi_tup, isi_str, lt_nn, le_nn, gt_nn, ge_nn, eq_nn, ne_nn, add_nn, whole_n, List.length_map, decide_true, decide_false, leng0, leng1, leng2, leng3, leng4, if_true, if_false, eq_self, Nat.reduceEqDiff, Nat.reduceLT, Nat.reduceLeDiff, h1, h2, h3, h4, h5, h6, h7, h8, h9, h10, h11, h12, ix_0, d]
theorem f_nested (h : Bok m b) (hr : Rok b.length r) (hl1 : Lok b.length m ds as) (hl2 : Lok b.length m ds' as') (hl : LeN ds ds') (ha : ∀ p ∈ as, p ∈ as') : F_law_nested [bookD b, ruleD r, looksD ds as, looksD ds' as'] = some (.bool true) := by
  have n2 := h.n2
  have m2 := h.m2
  obtain ⟨r0, g1, g2, g3⟩ := h.hd
  obtain ⟨δ1, h1, x6, x7, x8, x9, h2⟩ := for_inv (enc := natD) (p := pName 6) (body := B_law_nested_2) (xs := List.range b.length) (δ := [.val (bookD b), .val (ruleD r), .val (looksD ds as), .val (looksD ds' as'), .val (seenD (seenR b ds as)), .val (seenD (seenR b ds' as')), .no, .no, .no, .no, .no, .no, .no, .no, .no])
    (fun pr δ => ∃ x6 x7 x8 x9, δ = [.val (bookD b), .val (ruleD r), .val (looksD ds as), .val (looksD ds' as'), .val (seenD (seenR b ds as)), .val (seenD (seenR b ds' as')), x6, x7, x8, x9, .no, .no, .no, .no, .no]) ⟨_, _, _, _, rfl⟩ (by
      rintro pr k po δ e ⟨x6, x7, x8, x9, rfl⟩
      obtain ⟨_, hk⟩ := range_at e
      obtain ⟨y7, y8, y9, q⟩ := nest_step2 (a1 := .val (ruleD r)) (a2 := .val (looksD ds as)) (a3 := .val (looksD ds' as')) (x7 := x7) (x8 := x8) (x9 := x9) (a10 := .no) (a11 := .no) (a12 := .no) (a13 := .no) (a14 := .no) h hl1.dn hl2.dn hl ha hk
      exact ⟨_, _, rfl, q, _, _, _, _, rfl⟩)
  obtain ⟨δ2, h3, y7, y8, y12, y13, h4⟩ := for_inv (enc := natD) (p := pName 7) (body := B_law_nested_3) (xs := List.range m) (δ := [.val (bookD b), .val (ruleD r), .val (looksD ds as), .val (looksD ds' as'), .val (seenD (seenR b ds as)), .val (seenD (seenR b ds' as')), x6, x7, x8, x9, .val (bndsD (bbR b r ds as m)), .val (bndsD (bbR b r ds' as' m)), .no, .no, .no])
    (fun pr δ => ∃ y7 y8 y12 y13, δ = [.val (bookD b), .val (ruleD r), .val (looksD ds as), .val (looksD ds' as'), .val (seenD (seenR b ds as)), .val (seenD (seenR b ds' as')), x6, y7, y8, x9, .val (bndsD (bbR b r ds as m)), .val (bndsD (bbR b r ds' as' m)), y12, y13, .no]) ⟨_, _, _, _, rfl⟩ (by
      rintro pr t po δ e ⟨y7, y8, y12, y13, rfl⟩
      obtain ⟨_, ht⟩ := range_at e
      obtain ⟨z8, z12, z13, q⟩ := nest_step3 (a2 := .val (looksD ds as)) (a3 := .val (looksD ds' as')) (a4 := .val (seenD (seenR b ds as))) (a5 := .val (seenD (seenR b ds' as'))) (a6 := x6) (a8 := y8) (a9 := x9) (a12 := y12) (a13 := y13) (a14 := .no) h hr hl1.dn hl2.dn hl ha ht
      exact ⟨_, _, rfl, q, _, _, _, _, rfl⟩)
  obtain ⟨c1, e1⟩ := f_count_of h hl1
  obtain ⟨c2, e2⟩ := f_count_of h hl2
  exact run_nested (f_seen_worths h hl1) (f_seen_worths h hl2) (dRange_ap _ _ (run_len (len_book b)) (by omega)) h1 h2 (f_worth_bounds h hr hl1) (f_worth_bounds h hr hl2) (dRange_ap _ _ (by simp only [sSeq_ap, sIf_ap, bOf_ap, bAnd_ap, bOr_ap, bNot_ap, bYes_ap, fAnd_ap, fOr_ap, fNot_ap, fIf_ap, sPat_ap, pName_ap, pTup_ap, setAll, sSkip_ap, sRet_ap, sOwn_ap, sFrz_ap, frz, frz1, sApp_ap, sIns_ap, sDo_ap, fTup_ap, fLstN_ap, fList_ap, fCall_ap, fCons_ap, fNil_ap, f1_ap, f2_ap, fVar_ap, fC_ap, sFor_ap, List.foldl_cons, List.foldl_nil, List.set_cons_succ, List.set_cons_zero, List.getElem?_cons_zero, List.getElem?_cons_succ, Option.bind_some, fin_rt, fin_nx, Bool.not_true, Bool.not_false, wipeD, nought_fr, one_fr, int_0, int_1, int_2, int_3, int_4, int_8, int_12, len_list, len_tup, len_map, isi_list, isi_tup, isi_str, lt_nn, le_nn, gt_nn, ge_nn, eq_nn, ne_nn, add_nn, whole_n, List.length_map, decide_true, decide_false, leng0, leng1, leng2, leng3, leng4, if_true, if_false, eq_self, Nat.reduceEqDiff, Nat.reduceLT, Nat.reduceLeDiff, ix_book g1, len_row, g3]) (by omega)) h3 h4 e2 e1 hl.sum
/-! ### stays -/
theorem run_stays {rest : FS} {B R c L M n r0 Ls As T2 : PyData} {U' : List Nat} {o : Option (List Nat)} (h1 : F_sure_few [B, R, c, L] = some (optT o)) (h2 : ∀ T, o = some T → F_other_book rest [B, R, natsD T, M] = some .none ∧ F_sure_few [B, R, c, M] = some (natsD U') ∧ F_seen_paper [B, R, c, M] = some (.tuple [Ls, As, T2]) ∧ ixD B (natD 0) = some r0 ∧ lenD [r0] = some n ∧ F_judge_paper [n, R, c, .tuple [Ls, As, natsD T]] = some (.bool true)) :
    F_law_stays rest [B, R, c, L, M] = some (.bool true) := by
  rw [r_law_stays]
  cases o with
  | none =>
    have e : isNoneD (optT none) = some (.bool true) := rfl
    simp only [B_law_stays, sSeq_ap, sIf_ap, bOf_ap, bAnd_ap, bOr_ap, bNot_ap, bYes_ap, fAnd_ap, fOr_ap, fNot_ap, fIf_ap, sPat_ap, pName_ap, pTup_ap, setAll, sSkip_ap, sRet_ap, sOwn_ap, sFrz_ap, frz, frz1, sApp_ap, sIns_ap, sDo_ap, fTup_ap, fLstN_ap, fList_ap, fCall_ap, fCons_ap, fNil_ap, f1_ap, f2_ap, fVar_ap, fC_ap, sFor_ap, List.foldl_cons, List.foldl_nil, List.set_cons_succ, List.set_cons_zero, List.getElem?_cons_zero, List.getElem?_cons_succ, Option.bind_some, fin_rt, fin_nx, Bool.not_true, Bool.not_false, wipeD, nought_fr, one_fr, int_0, int_1, int_2, int_3, int_4, int_8, int_12, len_list, len_tup, len_map, isi_list, isi_tup, isi_str, lt_nn, le_nn, gt_nn, ge_nn, eq_nn, ne_nn, add_nn, whole_n, List.length_map, decide_true, decide_false, leng0, leng1, leng2, leng3, leng4, if_true, if_false, eq_self, Nat.reduceEqDiff, Nat.reduceLT, Nat.reduceLeDiff, h1, e]
  | some T =>
    obtain ⟨g1, g2, g3, g4, g5, g6⟩ := h2 T rfl
    have e : isNoneD (optT (some T)) = some (.bool false) := rfl
    have e' : optT (some T) = natsD T := rfl
    have e2 : notNoneD .none = some (.bool false) := rfl
    have e3 : isNoneD (natsD U') = some (.bool false) := rfl
    have e4 : isBlD (.bool true) (.bool true) = some (.bool true) := rfl
    rw [e'] at h1 e
    simp only [B_law_stays, sSeq_ap, sIf_ap, bOf_ap, bAnd_ap, bOr_ap, bNot_ap, bYes_ap, fAnd_ap, fOr_ap, fNot_ap, fIf_ap, sPat_ap, pName_ap, pTup_ap, setAll, sSkip_ap, sRet_ap, sOwn_ap, sFrz_ap, frz, frz1, sApp_ap, sIns_ap, sDo_ap, fTup_ap, fLstN_ap, fList_ap, fCall_ap, fCons_ap, fNil_ap, f1_ap, f2_ap, fVar_ap, fC_ap, sFor_ap, List.foldl_cons, List.foldl_nil, List.set_cons_succ, List.set_cons_zero, List.getElem?_cons_zero, List.getElem?_cons_succ, Option.bind_some, fin_rt, fin_nx, Bool.not_true, Bool.not_false, wipeD, nought_fr, one_fr, int_0, int_1, int_2, int_3, int_4, int_8, int_12, len_list, len_tup, len_map, isi_list, isi_tup, isi_str, lt_nn, le_nn, gt_nn, ge_nn, eq_nn, ne_nn, add_nn, whole_n, List.length_map, decide_true, decide_false, leng0, leng1, leng2, leng3, leng4, if_true, if_false, eq_self, Nat.reduceEqDiff, Nat.reduceLT, Nat.reduceLeDiff, h1, e, g1, e2, g2, e3, g3, g4, g5, g6, e4]
theorem f_stays (rest : FS) {c : Nat} (h : Bok m b) (hr : Rok b.length r) (hl1 : Lok b.length m ds as) (hl2 : Lok b.length m ds' as') (hl : LeN ds ds') (ha : ∀ p ∈ as, p ∈ as') (hc : c ≤ m) : F_law_stays rest [bookD b, ruleD r, natD c, looksD ds as, looksD ds' as'] = some (.bool true) := by
  obtain ⟨r0, g1, g2, g3⟩ := h.hd
  have b1 := bd_of (as := as) h hr hl1.dn
  have b2 := bd_of (as := as') h hr hl2.dn
  have e1 := f_sure_few h hr hl1 hc
  have e2 := f_sure_few h hr hl2 hc
  unfold sureB at e1 e2
  by_cases q : sureR (bbR b r ds as m) (fewR (bbR b r ds as m) c) = true
  · have tm : ∀ t ∈ fewR (bbR b r ds as m) c, t < m := fun t ht => by rw [← b1.len]; exact few_lt ht
    have s2 := sure_nar b1.len b2.len (nar_of h hr hl1.dn hl2.dn hl ha) tm q
    have tl : (fewR (bbR b r ds as m) c).length = c := few_len (by rw [b1.len]; exact hc)
    have s3 := sure_first b2 hc (few_nodup _ _) tl tm s2
    rw [if_pos q] at e1
    rw [if_pos s3] at e2
    have hT : sureB (bbR b r ds' as' m) c = some (fewR (bbR b r ds' as' m) c) := if_pos s3
    have pp := f_paper h hr hl2 hc hT
    have jj := f_judge h hr hl2 hc tl (few_rise _ _) tm s2
    refine run_stays (U' := fewR (bbR b r ds' as' m) c) (n := natD m) (r0 := rowD r0) (Ls := linesPD (linesP b ds')) (As := askPD (askP b as')) (T2 := natsD (fewR (bbR b r ds' as' m) c)) e1 fun T hTe => ?_
    cases hTe
    exact ⟨f_other rest h hr hl2 (few_rise _ _) tm s2, e2, pp, ix_book g1, by rw [len_row, g3], jj⟩
  · rw [if_neg q] at e1
    exact run_stays (U' := []) (n := .none) (r0 := .none) (Ls := .none) (As := .none) (T2 := .none) e1 fun T hTe => by cases hTe
end
end DL

set_option Elab.async false
set_option linter.all false
set_option maxRecDepth 100000
set_option maxHeartbeats 4000000
set_option exponentiation.threshold 3000
/-! Fn2: the law's parts are true: near, whole. -/
namespace DL
open PySem
section
variable {m : Nat} {b : List (List Rat)} {ds ds' : List Nat} {as as' : List (Nat × Nat)} {r : Rule}
theorem run_near1 {s S T t o b1 b2 x y z : PyData} {a0 a1 a2 a3 a4 : DV} {bo : Bool} (h1 : notInD o T = some (.bool bo)) (h2 : bo = true → ixD S t = some b1 ∧ ixD b1 (natD 0) = some x ∧ F_law_mul [s, x] = some y ∧ ixD S o = some b2 ∧ ixD b2 (natD 1) = some z ∧ F_law_below [y, z] = some (.bool false)) :
    B_law_near_1 [a0, a1, a2, a3, a4, .val s, .val T, .val S, .val t, .val o] = some (.nx [a0, a1, a2, a3, a4, .val s, .val T, .val S, .val t, .val o]) := by
  cases bo with
  | false => simp only [B_law_near_1, sSeq_ap, sIf_ap, bOf_ap, bAnd_ap, bOr_ap, bNot_ap, bYes_ap, fAnd_ap, fOr_ap, fNot_ap, fIf_ap, sPat_ap, pName_ap, pTup_ap, setAll, sSkip_ap, sRet_ap, sOwn_ap, sFrz_ap, frz, frz1, sApp_ap, sIns_ap, sDo_ap, fTup_ap, fLstN_ap, fList_ap, fCall_ap, fCons_ap, fNil_ap, f1_ap, f2_ap, fVar_ap, fC_ap, sFor_ap, List.foldl_cons, List.foldl_nil, List.set_cons_succ, List.set_cons_zero, List.getElem?_cons_zero, List.getElem?_cons_succ, Option.bind_some, fin_rt, fin_nx, Bool.not_true, Bool.not_false, wipeD, nought_fr, one_fr, int_0, int_1, int_2, int_3, int_4, int_8, int_12, len_list, len_tup, len_map, isi_list, isi_tup, isi_str, lt_nn, le_nn, gt_nn, ge_nn, eq_nn, ne_nn, add_nn, whole_n, List.length_map, decide_true, decide_false, leng0, leng1, leng2, leng3, leng4, if_true, if_false, eq_self, Nat.reduceEqDiff, Nat.reduceLT, Nat.reduceLeDiff, h1]
  | true =>
    obtain ⟨g1, g2, g3, g4, g5, g6⟩ := h2 rfl
    simp only [B_law_near_1, sSeq_ap, sIf_ap, bOf_ap, bAnd_ap, bOr_ap, bNot_ap, bYes_ap, fAnd_ap, fOr_ap, fNot_ap, fIf_ap, sPat_ap, pName_ap, pTup_ap, setAll, sSkip_ap, sRet_ap, sOwn_ap, sFrz_ap, frz, frz1, sApp_ap, sIns_ap, sDo_ap, fTup_ap, fLstN_ap, fList_ap, fCall_ap, fCons_ap, fNil_ap, f1_ap, f2_ap, fVar_ap, fC_ap, sFor_ap, List.foldl_cons, List.foldl_nil, List.set_cons_succ, List.set_cons_zero, List.getElem?_cons_zero, List.getElem?_cons_succ, Option.bind_some, fin_rt, fin_nx, Bool.not_true, Bool.not_false, wipeD, nought_fr, one_fr, int_0, int_1, int_2, int_3, int_4, int_8, int_12, len_list, len_tup, len_map, isi_list, isi_tup, isi_str, lt_nn, le_nn, gt_nn, ge_nn, eq_nn, ne_nn, add_nn, whole_n, List.length_map, decide_true, decide_false, leng0, leng1, leng2, leng3, leng4, if_true, if_false, eq_self, Nat.reduceEqDiff, Nat.reduceLT, Nat.reduceLeDiff, h1, g1, g2, g3, g4, g5, g6]
theorem run_near2 {S : PyData} {ds : List PyData} {a0 a1 a2 a3 a4 a5 a6 a8 x9 y9 : DV} {δ' : DEnv} (h1 : dRange1 (fCall lenD (fCons (fVar 7) fNil)) [a0, a1, a2, a3, a4, a5, a6, .val S, a8, x9] = some ds) (h2 : forD (pName 9) B_law_near_1 ds [a0, a1, a2, a3, a4, a5, a6, .val S, a8, x9] = some (.nx δ')) :
    B_law_near_2 [a0, a1, a2, a3, a4, a5, a6, .val S, a8, x9] = some (.nx δ') := by
  simp only [B_law_near_2, sSeq_ap, sIf_ap, bOf_ap, bAnd_ap, bOr_ap, bNot_ap, bYes_ap, fAnd_ap, fOr_ap, fNot_ap, fIf_ap, sPat_ap, pName_ap, pTup_ap, setAll, sSkip_ap, sRet_ap, sOwn_ap, sFrz_ap, frz, frz1, sApp_ap, sIns_ap, sDo_ap, fTup_ap, fLstN_ap, fList_ap, fCall_ap, fCons_ap, fNil_ap, f1_ap, f2_ap, fVar_ap, fC_ap, sFor_ap, List.foldl_cons, List.foldl_nil, List.set_cons_succ, List.set_cons_zero, List.getElem?_cons_zero, List.getElem?_cons_succ, Option.bind_some, fin_rt, fin_nx, Bool.not_true, Bool.not_false, wipeD, nought_fr, one_fr, int_0, int_1, int_2, int_3, int_4, int_8, int_12, len_list, len_tup, len_map, isi_list, isi_tup, isi_str, lt_nn, le_nn, gt_nn, ge_nn, eq_nn, ne_nn, add_nn, whole_n, List.length_map, decide_true, decide_false, leng0, leng1, leng2, leng3, leng4, if_true, if_false, eq_self, Nat.reduceEqDiff, Nat.reduceLT, Nat.reduceLeDiff, h1, h2]
theorem near_step2 {bs : List (Rat × Rat)} {c : Nat} {s : Rat} {T : List Nat} {a0 a1 a2 a3 a4 x9 : DV} (hb : Bds m bs) (hs : Slk s) (hn : Near m c bs s T) {t : Nat} (ht : t ∈ T) :
    ∃ y9, B_law_near_2 [a0, a1, a2, a3, a4, .val (frR s), .val (natsD T), .val (bndsD bs), .val (natD t), x9] = some (.nx [a0, a1, a2, a3, a4, .val (frR s), .val (natsD T), .val (bndsD bs), .val (natD t), y9]) := by
  have m2 := hb.m2
  have tm := hn.lt t ht
  obtain ⟨δ', h1, y9, h2⟩ := for_inv (enc := natD) (p := pName 9) (body := B_law_near_1) (xs := List.range m) (δ := [a0, a1, a2, a3, a4, .val (frR s), .val (natsD T), .val (bndsD bs), .val (natD t), x9])
    (fun pr δ => ∃ x9, δ = [a0, a1, a2, a3, a4, .val (frR s), .val (natsD T), .val (bndsD bs), .val (natD t), x9]) ⟨_, rfl⟩ (by
      rintro pr o po δ e ⟨x9, rfl⟩
      obtain ⟨_, ho⟩ := range_at e
      have g1 : notInD (natD o) (natsD T) = some (.bool (!decide (o ∈ T))) := notin_n _ _
      have bl := hb.lo tm
      have q := fl_mul hs.nn bl.nn hs.sz bl.sz (by decide) (by decide)
      obtain ⟨_, q2⟩ := f_times hs.nn bl.nn hs.sz bl.sz (by decide) (by decide)
      refine ⟨_, _, rfl, run_near1 g1 fun hno => ⟨hb.ix tm, bnd_0 _, q, hb.ix ho, bnd_1 _, ?_⟩, _, rfl⟩
      have no : o ∉ T := fun z => by rw [decide_eq_true z] at hno; cases hno
      rw [fl_below q2 (hb.hi ho).sz (by decide) (by decide), decide_eq_false (Rat.not_lt.mpr (hn.ok t ht o ho no))])
  have e1 := dRange_ap (fCall lenD (fCons (fVar 7) fNil)) [a0, a1, a2, a3, a4, .val (frR s), .val (natsD T), .val (bndsD bs), .val (natD t), x9] (n := m) (by simp only [sSeq_ap, sIf_ap, bOf_ap, bAnd_ap, bOr_ap, bNot_ap, bYes_ap, fAnd_ap, fOr_ap, fNot_ap, fIf_ap, sPat_ap, pName_ap, pTup_ap, setAll, sSkip_ap, sRet_ap, sOwn_ap, sFrz_ap, frz, frz1, sApp_ap, sIns_ap, sDo_ap, fTup_ap, fLstN_ap, fList_ap, fCall_ap, fCons_ap, fNil_ap, f1_ap, f2_ap, fVar_ap, fC_ap, sFor_ap, List.foldl_cons, List.foldl_nil, List.set_cons_succ, List.set_cons_zero, List.getElem?_cons_zero, List.getElem?_cons_succ, Option.bind_some, fin_rt, fin_nx, Bool.not_true, Bool.not_false, wipeD, nought_fr, one_fr, int_0, int_1, int_2, int_3, int_4, int_8, int_12, len_list, len_tup, len_map, isi_list, isi_tup, isi_str, lt_nn, le_nn, gt_nn, ge_nn, eq_nn, ne_nn, add_nn, whole_n, List.length_map, decide_true, decide_false, leng0, leng1, leng2, leng3, leng4, if_true, if_false, eq_self, Nat.reduceEqDiff, Nat.reduceLT, Nat.reduceLeDiff, len_bnds, hb.len]) (by omega)
  rw [h2] at h1
  exact ⟨y9, run_near2 (y9 := y9) e1 h1⟩
theorem run_law_near {B R c L M s S s2 : PyData} {o : Option (List Nat)} {T2 T3 : List Nat} (h1 : F_near_few [B, R, c, L, s] = some (optT o)) (h2 : ∀ T, o = some T → F_worth_bounds [B, R, M] = some S ∧ (∃ δ' x8 x9, forD (pName 8) B_law_near_2 (T.map natD) [.val B, .val R, .val c, .val L, .val M, .val s, .val (natsD T), .val S, .no, .no] = some (.nx δ') ∧ δ' = [.val B, .val R, .val c, .val L, .val M, .val s, .val (natsD T), .val S, x8, x9]) ∧
      F_near_few [B, R, c, M, s] = some (natsD T2) ∧ F_law_add [s, .tuple [natD 1, natD 2]] = some s2 ∧ F_near_few [B, R, c, L, s2] = some (natsD T3)) : F_law_near [B, R, c, L, M, s] = some (.bool true) := by
  rw [r_law_near]
  cases o with
  | none =>
    have e : isNoneD (optT none) = some (.bool true) := rfl
    simp only [B_law_near, sSeq_ap, sIf_ap, bOf_ap, bAnd_ap, bOr_ap, bNot_ap, bYes_ap, fAnd_ap, fOr_ap, fNot_ap, fIf_ap, sPat_ap, pName_ap, pTup_ap, setAll, sSkip_ap, sRet_ap, sOwn_ap, sFrz_ap, frz, frz1, sApp_ap, sIns_ap, sDo_ap, fTup_ap, fLstN_ap, fList_ap, fCall_ap, fCons_ap, fNil_ap, f1_ap, f2_ap, fVar_ap, fC_ap, sFor_ap, List.foldl_cons, List.foldl_nil, List.set_cons_succ, List.set_cons_zero, List.getElem?_cons_zero, List.getElem?_cons_succ, Option.bind_some, fin_rt, fin_nx, Bool.not_true, Bool.not_false, wipeD, nought_fr, one_fr, int_0, int_1, int_2, int_3, int_4, int_8, int_12, len_list, len_tup, len_map, isi_list, isi_tup, isi_str, lt_nn, le_nn, gt_nn, ge_nn, eq_nn, ne_nn, add_nn, whole_n, List.length_map, decide_true, decide_false, leng0, leng1, leng2, leng3, leng4, if_true, if_false, eq_self, Nat.reduceEqDiff, Nat.reduceLT, Nat.reduceLeDiff, h1, e]
  | some T =>
    obtain ⟨g1, ⟨δ', x8, x9, g2, g3⟩, g4, g5, g6⟩ := h2 T rfl
    have e : isNoneD (natsD T) = some (.bool false) := rfl
    have e2 : isNoneD (natsD T2) = some (.bool false) := rfl
    have e3 : notNoneD (natsD T3) = some (.bool true) := rfl
    have e4 : dList (fVar 6) [.val B, .val R, .val c, .val L, .val M, .val s, .val (natsD T), .val S, .no, .no] = some (T.map natD) := rfl
    have e5 : optT (some T) = natsD T := rfl
    rw [e5] at h1
    simp only [B_law_near, sSeq_ap, sIf_ap, bOf_ap, bAnd_ap, bOr_ap, bNot_ap, bYes_ap, fAnd_ap, fOr_ap, fNot_ap, fIf_ap, sPat_ap, pName_ap, pTup_ap, setAll, sSkip_ap, sRet_ap, sOwn_ap, sFrz_ap, frz, frz1, sApp_ap, sIns_ap, sDo_ap, fTup_ap, fLstN_ap, fList_ap, fCall_ap, fCons_ap, fNil_ap, f1_ap, f2_ap, fVar_ap, fC_ap, sFor_ap, List.foldl_cons, List.foldl_nil, List.set_cons_succ, List.set_cons_zero, List.getElem?_cons_zero, List.getElem?_cons_succ, Option.bind_some, fin_rt, fin_nx, Bool.not_true, Bool.not_false, wipeD, nought_fr, one_fr, int_0, int_1, int_2, int_3, int_4, int_8, int_12, len_list, len_tup, len_map, isi_list, isi_tup, isi_str, lt_nn, le_nn, gt_nn, ge_nn, eq_nn, ne_nn, add_nn, whole_n, List.length_map, decide_true, decide_false, leng0, leng1, leng2, leng3, leng4, if_true, if_false, eq_self, Nat.reduceEqDiff, Nat.reduceLT, Nat.reduceLeDiff, h1, e, g1, e4, g2, g3, g4, e2, g5, g6, e3]
theorem half_fr : PyData.tuple [natD 1, natD 2] = frR (mkRat 1 2) := by kernel_rfl
theorem f_law_near {c : Nat} {s : Rat} (h : Bok m b) (hr : Rok b.length r) (hl1 : Lok b.length m ds as) (hl2 : Lok b.length m ds' as') (hl : LeN ds ds') (ha : ∀ p ∈ as, p ∈ as') (hc : c ≤ m) (hs1 : 1 ≤ s) (hs2 : Sz 8 s) : F_law_near [bookD b, ruleD r, natD c, looksD ds as, looksD ds' as', frR s] = some (.bool true) := by
  have hs : Slk s := ⟨hs1, hs2.up (by decide)⟩
  have b1 := bd_of (as := as) h hr hl1.dn
  have b2 := bd_of (as := as') h hr hl2.dn
  have d2 := bds_of h hr hl2.dn as'
  have h0 : (0 : Rat) ≤ mkRat 1 2 := by decide
  have hz : Sz 2 (mkRat 1 2) := ⟨by decide, by decide⟩
  have ad := fl_add hs.nn h0 hs2 hz (by decide) (by decide)
  obtain ⟨_, az⟩ := f_sum hs.nn h0 hs2 hz (by decide) (by decide)
  have le : s ≤ s + mkRat 1 2 := by
    have := Rat.add_le_add_left (c := s) |>.mpr h0
    rw [Rat.add_zero] at this
    exact this
  have hs3 : Slk (s + mkRat 1 2) := ⟨Rat.le_trans hs1 le, az.up (by decide)⟩
  have e1 := f_near h hr hl1 hc hs
  cases q : nearR (bbR b r ds as m) c s with
  | none =>
    rw [q] at e1
    exact run_law_near (S := .none) (s2 := .none) (T2 := []) (T3 := []) e1 fun T z => by cases z
  | some T =>
    rw [q] at e1
    have n1 := near_is b1 hs.nn q
    have n2 := n1.nar hs.nn (nar_of h hr hl1.dn hl2.dn hl ha)
    obtain ⟨T2, q2⟩ := near_some_of b2 n2
    obtain ⟨T3, q3⟩ := near_some_of b1 (n1.more b1 le)
    have e2 := f_near h hr hl2 hc hs
    have e3 := f_near h hr hl1 hc hs3
    rw [q2] at e2
    rw [q3] at e3
    refine run_law_near (S := bndsD (bbR b r ds' as' m)) (s2 := frR (s + mkRat 1 2)) (T2 := T2) (T3 := T3) e1 fun T' hT' => ?_
    cases hT'
    refine ⟨f_worth_bounds h hr hl2, ?_, e2, by rw [half_fr]; exact ad, e3⟩
    obtain ⟨δ', h1, x8, x9, h2⟩ := for_inv (enc := natD) (p := pName 8) (body := B_law_near_2) (xs := T) (δ := [.val (bookD b), .val (ruleD r), .val (natD c), .val (looksD ds as), .val (looksD ds' as'), .val (frR s), .val (natsD T), .val (bndsD (bbR b r ds' as' m)), .no, .no])
      (fun pr δ => ∃ x8 x9, δ = [.val (bookD b), .val (ruleD r), .val (natD c), .val (looksD ds as), .val (looksD ds' as'), .val (frR s), .val (natsD T), .val (bndsD (bbR b r ds' as' m)), x8, x9]) ⟨_, _, rfl⟩ (by
        rintro pr t po δ e ⟨x8, x9, rfl⟩
        obtain ⟨y9, st⟩ := near_step2 (a0 := .val (bookD b)) (a1 := .val (ruleD r)) (a2 := .val (natD c)) (a3 := .val (looksD ds as)) (a4 := .val (looksD ds' as')) (x9 := x9) d2 hs n2 (t := t) (by rw [e]; exact List.mem_append_right _ List.mem_cons_self)
        exact ⟨_, _, rfl, st, _, _, rfl⟩)
    exact ⟨δ', x8, x9, h1, h2⟩
/-! ### whole looks -/
def wsR (b : List (List Rat)) (r : Rule) (m : Nat) : List Rat := (List.range m).map (worthAt b r)
theorem W_ws {t : Nat} (ht : t < m) : W (wsR b r m) t = worthAt b r t := by
  unfold W wsR
  refine getD_of ?_
  rw [List.getElem?_map, List.getElem?_range ht]
  rfl
/-- where all is seen the bounds are the worths -/
theorem bb_whole (h : Bok m b) (hd : ds.length = b.length) (hs : ∀ k t, k < b.length → t < m → t ∈ readR (b.getD k []) (ds.getD k 0) ∨ (k, t) ∈ as) : bbR b r ds as m = (wsR b r m).map fun w => (w, w) := by
  have s := sok_of h hd as
  have fill : ∀ others : List Rat, others.length = b.length → ∀ t, t < m → fillR (colR (seenR b ds as) t) others = b.map fun row => W row t := fun others ho t ht => by
    have hl : (fillR (colR (seenR b ds as) t) others).length = b.length := by
      unfold fillR colR
      rw [List.length_map, List.length_zip, List.length_map, s.sn, ho, Nat.min_self]
    refine List.ext_getElem (by rw [hl, List.length_map]) fun k h1 h2 => ?_
    rw [hl] at h1
    have e1 := fill_get (as := as) h hd ho h1 ht
    have e2 := wrow_get (b := b) (t := t) h1
    unfold sv at e1
    rw [if_pos (hs k t h1 ht)] at e1
    have e3 := e1.trans e2.symm
    rw [List.getD_eq_getElem?_getD, List.getD_eq_getElem?_getD, List.getElem?_eq_getElem (by rw [hl]; exact h1), List.getElem?_eq_getElem h2] at e3
    exact e3
  unfold bbR bndR wsR
  rw [List.map_map]
  refine List.map_congr_left fun t ht => ?_
  have tm := List.mem_range.mp ht
  unfold lowR highR
  rw [fill _ (by rw [List.length_map, s.sn]) t tm, fill _ s.ln t tm]
  rfl
theorem run_wrow {B R t : PyData} {ws : List PyData} {w : PyData} {a2 a3 a4 a5 a6 a7 a8 a10 a11 : DV} (h1 : fComp (dVar 0) (pName 10) bYes (f2 ixD (fVar 10) (fVar 9)) [10] [.val B, .val R, a2, a3, a4, a5, a6, a7, a8, .val t, a10, a11] = some ws) (h2 : F_law_worth [R, .list ws] = some w) :
    (fCall F_law_worth (fCons (fVar 1) (fCons (fList (fComp (dVar 0) (pName 10) bYes (f2 ixD (fVar 10) (fVar 9)) [10])) fNil))) [.val B, .val R, a2, a3, a4, a5, a6, a7, a8, .val t, a10, a11] = some w := by
  simp only [sSeq_ap, sIf_ap, bOf_ap, bAnd_ap, bOr_ap, bNot_ap, bYes_ap, fAnd_ap, fOr_ap, fNot_ap, fIf_ap, sPat_ap, pName_ap, pTup_ap, setAll, sSkip_ap, sRet_ap, sOwn_ap, sFrz_ap, frz, frz1, sApp_ap, sIns_ap, sDo_ap, fTup_ap, fLstN_ap, fList_ap, fCall_ap, fCons_ap, fNil_ap, f1_ap, f2_ap, fVar_ap, fC_ap, sFor_ap, List.foldl_cons, List.foldl_nil, List.set_cons_succ, List.set_cons_zero, List.getElem?_cons_zero, List.getElem?_cons_succ, Option.bind_some, fin_rt, fin_nx, Bool.not_true, Bool.not_false, wipeD, nought_fr, one_fr, int_0, int_1, int_2, int_3, int_4, int_8, int_12, len_list, len_tup, len_map, isi_list, isi_tup, isi_str, lt_nn, le_nn, gt_nn, ge_nn, eq_nn, ne_nn, add_nn, whole_n, List.length_map, decide_true, decide_false, leng0, leng1, leng2, leng3, leng4, if_true, if_false, eq_self, Nat.reduceEqDiff, Nat.reduceLT, Nat.reduceLeDiff, h1, h2]
theorem run_ev {k m : PyData} {e ts : List PyData} {x6 : DV} {a0 a1 a2 a4 a5 a8 a9 a10 a11 : DV} {rest : FS} (hx : x6 = .own e ∨ x6 = .val (.list e)) (h1 : fComp (dRange1 (fVar 3)) (pName 9) bYes (fTup (fCons (fVar 7) (fCons (fVar 9) fNil))) [9] [a0, a1, a2, .val m, a4, a5, .val (.list e), .val k, a8, a9, a10, a11] = some ts) {out : PyData} (h2 : addD (.list e) (.list ts) = some out) :
    B_law_whole_1 rest [a0, a1, a2, .val m, a4, a5, x6, .val k, a8, a9, a10, a11] = some (.nx [a0, a1, a2, .val m, a4, a5, .val out, .val k, a8, a9, a10, a11]) := by
  rcases hx with rfl | rfl
  · simp only [B_law_whole_1, sSeq_ap, sIf_ap, bOf_ap, bAnd_ap, bOr_ap, bNot_ap, bYes_ap, fAnd_ap, fOr_ap, fNot_ap, fIf_ap, sPat_ap, pName_ap, pTup_ap, setAll, sSkip_ap, sRet_ap, sOwn_ap, sFrz_ap, frz, frz1, sApp_ap, sIns_ap, sDo_ap, fTup_ap, fLstN_ap, fList_ap, fCall_ap, fCons_ap, fNil_ap, f1_ap, f2_ap, fVar_ap, fC_ap, sFor_ap, List.foldl_cons, List.foldl_nil, List.set_cons_succ, List.set_cons_zero, List.getElem?_cons_zero, List.getElem?_cons_succ, Option.bind_some, fin_rt, fin_nx, Bool.not_true, Bool.not_false, wipeD, nought_fr, one_fr, int_0, int_1, int_2, int_3, int_4, int_8, int_12, len_list, len_tup, len_map, isi_list, isi_tup, isi_str, lt_nn, le_nn, gt_nn, ge_nn, eq_nn, ne_nn, add_nn, whole_n, List.length_map, decide_true, decide_false, leng0, leng1, leng2, leng3, leng4, if_true, if_false, eq_self, Nat.reduceEqDiff, Nat.reduceLT, Nat.reduceLeDiff, h1, h2]
  · simp only [B_law_whole_1, sSeq_ap, sIf_ap, bOf_ap, bAnd_ap, bOr_ap, bNot_ap, bYes_ap, fAnd_ap, fOr_ap, fNot_ap, fIf_ap, sPat_ap, pName_ap, pTup_ap, setAll, sSkip_ap, sRet_ap, sOwn_ap, sFrz_ap, frz, frz1, sApp_ap, sIns_ap, sDo_ap, fTup_ap, fLstN_ap, fList_ap, fCall_ap, fCons_ap, fNil_ap, f1_ap, f2_ap, fVar_ap, fC_ap, sFor_ap, List.foldl_cons, List.foldl_nil, List.set_cons_succ, List.set_cons_zero, List.getElem?_cons_zero, List.getElem?_cons_succ, Option.bind_some, fin_rt, fin_nx, Bool.not_true, Bool.not_false, wipeD, nought_fr, one_fr, int_0, int_1, int_2, int_3, int_4, int_8, int_12, len_list, len_tup, len_map, isi_list, isi_tup, isi_str, lt_nn, le_nn, gt_nn, ge_nn, eq_nn, ne_nn, add_nn, whole_n, List.length_map, decide_true, decide_false, leng0, leng1, leng2, leng3, leng4, if_true, if_false, eq_self, Nat.reduceEqDiff, Nat.reduceLT, Nat.reduceLeDiff, h1, h2]
theorem AskI.row {k : Nat} (h : AskI m k 0 as) (hm : m ≤ 12) : AskI m (k + 1) 0 (as ++ (List.range m).map fun t => (k, t)) := by
  have key : ∀ n, n ≤ m → AskI m k n (as ++ (List.range n).map fun t => (k, t)) := by
    intro n
    induction n with
    | zero =>
      intro _
      rw [List.range_zero, List.map_nil, List.append_nil]
      exact h
    | succ n ih =>
      intro hn
      rw [List.range_succ, List.map_append, ← List.append_assoc]
      exact (ih (by omega)).put (by omega)
  exact (key m (Nat.le_refl m)).next hm
theorem run_whole2 {rest : FS} {B R c L S T : PyData} {ws : List PyData} {a3 a6 a7 a9 a10 a11 : DV} {vs : List PyData} (h1 : F_worth_bounds [B, R, L] = some S) (h2 : fComp (dVar 4) (pName 11) bYes (fTup (fCons (fVar 11) (fCons (fVar 11) fNil))) [11] [.val B, .val R, .val c, a3, .val (.list ws), .val T, a6, a7, .val L, a9, a10, a11] = some vs) (h3 : neD S (.list vs) = some (.bool false))
    (h4 : F_sure_few [B, R, c, L] = some T) (h5 : neD T T = some (.bool false)) (h6 : F_other_book rest [B, R, T, L] = some .none) : B_law_whole_2 rest [.val B, .val R, .val c, a3, .val (.list ws), .val T, a6, a7, .val L, a9, a10, a11] = some (.nx [.val B, .val R, .val c, a3, .val (.list ws), .val T, a6, a7, .val L, a9, a10, a11]) := by
  have e2 : notNoneD .none = some (.bool false) := rfl
  simp only [B_law_whole_2, sSeq_ap, sIf_ap, bOf_ap, bAnd_ap, bOr_ap, bNot_ap, bYes_ap, fAnd_ap, fOr_ap, fNot_ap, fIf_ap, sPat_ap, pName_ap, pTup_ap, setAll, sSkip_ap, sRet_ap, sOwn_ap, sFrz_ap, frz, frz1, sApp_ap, sIns_ap, sDo_ap, fTup_ap, fLstN_ap, fList_ap, fCall_ap, fCons_ap, fNil_ap, f1_ap, f2_ap, fVar_ap, fC_ap, sFor_ap, List.foldl_cons, List.foldl_nil, List.set_cons_succ, List.set_cons_zero, List.getElem?_cons_zero, List.getElem?_cons_succ, Option.bind_some, fin_rt, fin_nx, Bool.not_true, Bool.not_false, wipeD, nought_fr, one_fr, int_0, int_1, int_2, int_3, int_4, int_8, int_12, len_list, len_tup, len_map, isi_list, isi_tup, isi_str, lt_nn, le_nn, gt_nn, ge_nn, eq_nn, ne_nn, add_nn, whole_n, List.length_map, decide_true, decide_false, leng0, leng1, leng2, leng3, leng4, if_true, if_false, eq_self, Nat.reduceEqDiff, Nat.reduceLT, Nat.reduceLeDiff, h1, h2, h3, h4, h5, h6, e2]
theorem eqv_nat (n : Nat) : PyData.eqv (natD n) (natD n) = true := by rw [eqv_n]; exact decide_eq_true rfl
theorem whole_step2 {rest : FS} {c : Nat} {a3 a6 a7 a9 a10 a11 : DV} (h : Bok m b) (hr : Rok b.length r) (hl : Lok b.length m ds as) (hc : c ≤ m) (hs : ∀ k t, k < b.length → t < m → t ∈ readR (b.getD k []) (ds.getD k 0) ∨ (k, t) ∈ as) :
    B_law_whole_2 rest [.val (bookD b), .val (ruleD r), .val (natD c), a3, .val (rowD (wsR b r m)), .val (natsD (sortN ((orderR (wsR b r m)).take c))), a6, a7, .val (looksD ds as), a9, a10, a11] =
      some (.nx [.val (bookD b), .val (ruleD r), .val (natD c), a3, .val (rowD (wsR b r m)), .val (natsD (sortN ((orderR (wsR b r m)).take c))), a6, a7, .val (looksD ds as), a9, a10, a11]) := by
  have m2 := h.m2
  have wl : (wsR b r m).length = m := by unfold wsR; rw [List.length_map, List.length_range]
  have bb := bb_whole (r := r) h hl.dn hs
  have bd := bd_of (as := as) h hr hl.dn
  have hb : (bbR b r ds as m).length = (wsR b r m).length := by rw [bd.len, wl]
  have at' : ∀ t, t < (wsR b r m).length → lo (bbR b r ds as m) t = W (wsR b r m) t ∧ hi (bbR b r ds as m) t = W (wsR b r m) t := fun t ht => by
    have e : (bbR b r ds as m)[t]? = some (W (wsR b r m) t, W (wsR b r m) t) := by
      rw [bb, List.getElem?_map, at_W ht]
      rfl
    unfold lo hi
    rw [getD_of e]
    exact ⟨rfl, rfl⟩
  have fw : fewR (bbR b r ds as m) c = sortN ((orderR (wsR b r m)).take c) := by
    unfold fewR
    rw [turn_whole hb at']
  have su := sure_whole hb at' c
  have tm : ∀ t ∈ fewR (bbR b r ds as m) c, t < m := fun t ht => by rw [← bd.len]; exact few_lt ht
  have e1 := f_sure_few h hr hl hc
  unfold sureB at e1
  rw [if_pos su] at e1
  have e2 := f_other rest h hr hl (few_rise _ c) tm su
  rw [fw] at e1 e2
  have e0 : rowD (wsR b r m) = .list ((wsR b r m).map frR) := rfl
  have c1 : fComp (dVar 4) (pName 11) bYes (fTup (fCons (fVar 11) (fCons (fVar 11) fNil))) [11] [.val (bookD b), .val (ruleD r), .val (natD c), a3, .val (.list ((wsR b r m).map frR)), .val (natsD (sortN ((orderR (wsR b r m)).take c))), a6, a7, .val (looksD ds as), a9, a10, a11] = some ((wsR b r m).map fun w => bndD (w, w)) :=
    comp_map (enc := frR) _ _ rfl (by omega) fun w hw => ⟨_, rfl, rfl⟩
  have e3 : bndsD (bbR b r ds as m) = .list ((wsR b r m).map fun w => bndD (w, w)) := by
    rw [bb]
    unfold bndsD
    rw [List.map_map]
    rfl
  have e4 : neD (bndsD (bbR b r ds as m)) (.list ((wsR b r m).map fun w => bndD (w, w))) = some (.bool false) := by
    rw [e3]
    exact ne_self (n := 3) (by decide) (shp_map (f := fun w => bndD (w, w)) (fun w => shp_bnd _) _) (eqv_list (f := fun w => bndD (w, w)) (fun w => eqv_bnd _) _)
  have e5 : neD (natsD (sortN ((orderR (wsR b r m)).take c))) (natsD (sortN ((orderR (wsR b r m)).take c))) = some (.bool false) := ne_self (n := 1) (by decide) (shp_map (f := natD) shp_n _) (eqv_list (f := natD) eqv_nat _)
  exact run_whole2 (f_worth_bounds h hr hl) c1 e4 e1 e5 e2
theorem run_whole {rest : FS} {B R c r0 T n W1 T1 : PyData} {ws : List PyData} {m' : Nat} {ks : List PyData} {δ1 δ2 : DEnv} {L1 L2 : PyData} {e : List PyData} {x6 x7 : DV} (h1 : ixD B (natD 0) = some r0) (h2 : lenD [r0] = some (natD m'))
    (h3 : fComp (dRange1 (fVar 3)) (pName 9) bYes (fCall F_law_worth (fCons (fVar 1) (fCons (fList (fComp (dVar 0) (pName 10) bYes (f2 ixD (fVar 10) (fVar 9)) [10])) fNil))) [9] [.val B, .val R, .val c, .val (natD m'), .no, .no, .no, .no, .no, .no, .no, .no] = some ws)
    (h4 : F_law_order [.list ws] = some W1) (h5 : toD W1 c = some T1) (h6 : sortedD [T1] = some T) (h7 : dRange1 (fCall lenD (fCons (fVar 0) fNil)) [.val B, .val R, .val c, .val (natD m'), .val (.list ws), .val T, .own [], .no, .no, .no, .no, .no] = some ks)
    (h8 : forD (pName 7) (B_law_whole_1 rest) ks [.val B, .val R, .val c, .val (natD m'), .val (.list ws), .val T, .own [], .no, .no, .no, .no, .no] = some (.nx δ1)) (h9 : δ1 = [.val B, .val R, .val c, .val (natD m'), .val (.list ws), .val T, x6, x7, .no, .no, .no, .no]) (hx : x6 = .own e ∨ x6 = .val (.list e))
    (hn : lenD [B] = some n) (h10 : mulD (.list [natD m']) n = some L1) (h11 : mulD (.list [natD 0]) n = some L2)
    (h12 : forD (pName 8) (B_law_whole_2 rest) [.tuple [L1, .list []], .tuple [L2, .list e]] [.val B, .val R, .val c, .val (natD m'), .val (.list ws), .val T, .val (.list e), x7, .no, .no, .no, .no] = some (.nx δ2)) :
    F_law_whole rest [B, R, c] = some (.bool true) := by
  have e1 : dList (fList (fLstN (fCons (fTup (fCons (f2 mulD (fList (fLstN (fCons (fVar 3) fNil))) (fCall lenD (fCons (fVar 0) fNil))) (fCons (fList (fLstN (fNil))) fNil))) (fCons (fTup (fCons (f2 mulD (fList (fLstN (fCons (fC (natD 0)) fNil))) (fCall lenD (fCons (fVar 0) fNil))) (fCons (fVar 6) fNil))) fNil)))) [.val B, .val R, .val c, .val (natD m'), .val (.list ws), .val T, .val (.list e), x7, .no, .no, .no, .no] = some [.tuple [L1, .list []], .tuple [L2, .list e]] := by
    simp only [dList_ap, sSeq_ap, sIf_ap, bOf_ap, bAnd_ap, bOr_ap, bNot_ap, bYes_ap, fAnd_ap, fOr_ap, fNot_ap, fIf_ap, sPat_ap, pName_ap, pTup_ap, setAll, sSkip_ap, sRet_ap, sOwn_ap, sFrz_ap, frz, frz1, sApp_ap, sIns_ap, sDo_ap, fTup_ap, fLstN_ap, fList_ap, fCall_ap, fCons_ap, fNil_ap, f1_ap, f2_ap, fVar_ap, fC_ap, sFor_ap, List.foldl_cons, List.foldl_nil, List.set_cons_succ, List.set_cons_zero, List.getElem?_cons_zero, List.getElem?_cons_succ, Option.bind_some, fin_rt, fin_nx, Bool.not_true, Bool.not_false, wipeD, nought_fr, one_fr, int_0, int_1, int_2, int_3, int_4, int_8, int_12, len_list, len_tup, len_map, isi_list, isi_tup, isi_str, lt_nn, le_nn, gt_nn, ge_nn, eq_nn, ne_nn, add_nn, whole_n, List.length_map, decide_true, decide_false, leng0, leng1, leng2, leng3, leng4, if_true, if_false, eq_self, Nat.reduceEqDiff, Nat.reduceLT, Nat.reduceLeDiff, hn, h10, h11]
  rw [r_law_whole]
  rcases hx with rfl | rfl
  · simp only [B_law_whole, sSeq_ap, sIf_ap, bOf_ap, bAnd_ap, bOr_ap, bNot_ap, bYes_ap, fAnd_ap, fOr_ap, fNot_ap, fIf_ap, sPat_ap, pName_ap, pTup_ap, setAll, sSkip_ap, sRet_ap, sOwn_ap, sFrz_ap, frz, frz1, sApp_ap, sIns_ap, sDo_ap, fTup_ap, fLstN_ap, fList_ap, fCall_ap, fCons_ap, fNil_ap, f1_ap, f2_ap, fVar_ap, fC_ap, sFor_ap, List.foldl_cons, List.foldl_nil, List.set_cons_succ, List.set_cons_zero, List.getElem?_cons_zero, List.getElem?_cons_succ, Option.bind_some, fin_rt, fin_nx, Bool.not_true, Bool.not_false, wipeD, nought_fr, one_fr, int_0, int_1, int_2, int_3, int_4, int_8, int_12, len_list, len_tup, len_map, isi_list, isi_tup, isi_str, lt_nn, le_nn, gt_nn, ge_nn, eq_nn, ne_nn, add_nn, whole_n, List.length_map, decide_true, decide_false, leng0, leng1, leng2, leng3, leng4, if_true, if_false, eq_self, Nat.reduceEqDiff, Nat.reduceLT, Nat.reduceLeDiff, h1, h2, h3, h4, h5, h6, h7, h8, h9, e1, h12]
  · simp only [B_law_whole, sSeq_ap, sIf_ap, bOf_ap, bAnd_ap, bOr_ap, bNot_ap, bYes_ap, fAnd_ap, fOr_ap, fNot_ap, fIf_ap, sPat_ap, pName_ap, pTup_ap, setAll, sSkip_ap, sRet_ap, sOwn_ap, sFrz_ap, frz, frz1, sApp_ap, sIns_ap, sDo_ap, fTup_ap, fLstN_ap, fList_ap, fCall_ap, fCons_ap, fNil_ap, f1_ap, f2_ap, fVar_ap, fC_ap, sFor_ap, List.foldl_cons, List.foldl_nil, List.set_cons_succ, List.set_cons_zero, List.getElem?_cons_zero, List.getElem?_cons_succ, Option.bind_some, fin_rt, fin_nx, Bool.not_true, Bool.not_false, wipeD, nought_fr, one_fr, int_0, int_1, int_2, int_3, int_4, int_8, int_12, len_list, len_tup, len_map, isi_list, isi_tup, isi_str, lt_nn, le_nn, gt_nn, ge_nn, eq_nn, ne_nn, add_nn, whole_n, List.length_map, decide_true, decide_false, leng0, leng1, leng2, leng3, leng4, if_true, if_false, eq_self, Nat.reduceEqDiff, Nat.reduceLT, Nat.reduceLeDiff, h1, h2, h3, h4, h5, h6, h7, h8, h9, e1, h12]
theorem mul_rep (v n : Nat) (hn : n ≤ 100) : mulD (.list [natD v]) (natD n) = some (natsD (List.replicate n v)) := by
  show (if [natD v].length ≤ 100 ∧ 0 ≤ (n : Int) ∧ (n : Int) ≤ 100 then some (PyData.list (List.replicate (n : Int).toNat [natD v]).flatten) else none) = _
  rw [if_pos ⟨show (1 : Nat) ≤ 100 by decide, by omega, by omega⟩, Int.toNat_natCast]
  unfold natsD
  congr 2
  rw [List.map_replicate]
  induction n with
  | zero => rfl
  | succ n ih =>
    rw [List.replicate_succ, List.flatten_cons, ih (by omega), List.replicate_succ]
    rfl
theorem f_whole_law (rest : FS) {c : Nat} (h : Bok m b) (hr : Rok b.length r) (hc : c ≤ m) : F_law_whole rest [bookD b, ruleD r, natD c] = some (.bool true) := by
  have n2 := h.n2
  have m2 := h.m2
  obtain ⟨r0, g1, g2, g3⟩ := h.hd
  have wl : (wsR b r m).length = m := by unfold wsR; rw [List.length_map, List.length_range]
  have wb : ∀ w ∈ wsR b r m, Bo w := fun w hw => by
    obtain ⟨t, ht, rfl⟩ := List.mem_map.mp hw
    exact (at_worth h hr (List.mem_range.mp ht)).2
  have c3 : fComp (dRange1 (fVar 3)) (pName 9) bYes (fCall F_law_worth (fCons (fVar 1) (fCons (fList (fComp (dVar 0) (pName 10) bYes (f2 ixD (fVar 10) (fVar 9)) [10])) fNil))) [9] [.val (bookD b), .val (ruleD r), .val (natD c), .val (natD m), .no, .no, .no, .no, .no, .no, .no, .no] = some ((wsR b r m).map frR) := by
    have ew : (wsR b r m).map frR = (List.range m).map fun t => frR (worthAt b r t) := by unfold wsR; rw [List.map_map]; rfl
    rw [ew]
    refine comp_map (enc := natD) _ (List.range m) (dRange_ap _ _ rfl (by omega)) (by rw [List.length_range]; omega) fun t ht => ⟨_, rfl, ?_⟩
    have tm := List.mem_range.mp ht
    exact run_wrow (comp_map (enc := rowD) _ b rfl (by omega) fun row hrow => ⟨_, rfl, ix_row (at_W (by rw [h.row row hrow]; exact tm))⟩) (at_worth h hr tm).1
  have e4 : F_law_order [.list ((wsR b r m).map frR)] = some (natsD (orderR (wsR b r m))) := fl_order wb (by omega)
  have e5 : toD (natsD (orderR (wsR b r m))) (natD c) = some (natsD ((orderR (wsR b r m)).take c)) := to_map _ _ _
  have e6 : sortedD [natsD ((orderR (wsR b r m)).take c)] = some (natsD (sortN ((orderR (wsR b r m)).take c))) := f_sorted (by rw [List.length_take, order_len]; omega)
  have e7 := dRange_ap (fCall lenD (fCons (fVar 0) fNil)) [.val (bookD b), .val (ruleD r), .val (natD c), .val (natD m), .val (.list ((wsR b r m).map frR)), .val (natsD (sortN ((orderR (wsR b r m)).take c))), .own [], .no, .no, .no, .no, .no] (n := b.length) (run_len (len_book b)) (by omega)
  obtain ⟨δ1, h8, x6, x7, as, h9, hx, hi, hj⟩ := for_inv (enc := natD) (p := pName 7) (body := B_law_whole_1 rest) (xs := List.range b.length) (δ := [.val (bookD b), .val (ruleD r), .val (natD c), .val (natD m), .val (.list ((wsR b r m).map frR)), .val (natsD (sortN ((orderR (wsR b r m)).take c))), .own [], .no, .no, .no, .no, .no])
    (fun pr δ => ∃ x6 x7, ∃ as : List (Nat × Nat), δ = [.val (bookD b), .val (ruleD r), .val (natD c), .val (natD m), .val (.list ((wsR b r m).map frR)), .val (natsD (sortN ((orderR (wsR b r m)).take c))), x6, x7, .no, .no, .no, .no] ∧ (x6 = .own (as.map pairD) ∨ x6 = .val (.list (as.map pairD))) ∧ AskI m pr.length 0 as ∧ ∀ k t, k < pr.length → t < m → (k, t) ∈ as)
    ⟨_, _, [], rfl, .inl rfl, ⟨.nil, fun _ z => (by cases z), Nat.zero_le _⟩, fun k t z _ => absurd z (Nat.not_lt_zero _)⟩ (by
      rintro pr k po δ e ⟨x6, x7, as, rfl, hx, hi, hj⟩
      obtain ⟨rfl, hk⟩ := range_at e
      have ct : fComp (dRange1 (fVar 3)) (pName 9) bYes (fTup (fCons (fVar 7) (fCons (fVar 9) fNil))) [9] [.val (bookD b), .val (ruleD r), .val (natD c), .val (natD m), .val (.list ((wsR b r m).map frR)), .val (natsD (sortN ((orderR (wsR b r m)).take c))), .val (.list (as.map pairD)), .val (natD pr.length), .no, .no, .no, .no] = some ((List.range m).map fun t => pairD (pr.length, t)) :=
        comp_map (enc := natD) _ (List.range m) (dRange_ap _ _ rfl (by omega)) (by rw [List.length_range]; omega) fun t ht => ⟨_, rfl, rfl⟩
      have ad : addD (.list (as.map pairD)) (.list ((List.range m).map fun t => pairD (pr.length, t))) = some (.list ((as ++ (List.range m).map fun t => (pr.length, t)).map pairD)) := by
        have al := hi.al
        show (if (as.map pairD).length + ((List.range m).map fun t => pairD (pr.length, t)).length ≤ 1000 then some (PyData.list (as.map pairD ++ (List.range m).map fun t => pairD (pr.length, t))) else none) = _
        rw [if_pos (by rw [List.length_map, List.length_map, List.length_range]; omega), List.map_append, List.map_map]
        rfl
      refine ⟨_, _, rfl, run_ev hx ct ad, _, _, as ++ (List.range m).map fun t => (pr.length, t), rfl, .inr rfl, by rw [List.length_append]; exact hi.row m2, fun k t hk' ht' => ?_⟩
      rw [List.length_append] at hk'
      have hk2 : k < pr.length + 1 := hk'
      by_cases z : k = pr.length
      · rw [z]
        exact List.mem_append_right _ (List.mem_map.mpr ⟨t, List.mem_range.mpr ht', rfl⟩)
      · exact List.mem_append_left _ (hj k t (by omega) ht'))
  rw [List.length_range] at hi hj
  have l1 : Lok b.length m (List.replicate b.length m) [] := ⟨List.length_replicate, fun d hd => by rw [(List.mem_replicate.mp hd).2]; exact Nat.le_refl m, fun _ z => (by cases z), .nil, by decide⟩
  have l2 : Lok b.length m (List.replicate b.length 0) as := hi.lok n2 List.length_replicate fun d hd => by rw [(List.mem_replicate.mp hd).2]; exact Nat.zero_le m
  have s1 : ∀ k t, k < b.length → t < m → t ∈ readR (b.getD k []) ((List.replicate b.length m).getD k 0) ∨ (k, t) ∈ ([] : List (Nat × Nat)) := fun k t hk ht => by
    obtain ⟨r1, r2, r3⟩ := h.rowk hk
    have ed : (List.replicate b.length m).getD k 0 = m := getD_of (by rw [List.getElem?_replicate, if_pos hk])
    rw [ed]
    refine .inl ?_
    unfold readR
    rw [List.take_of_length_le (by rw [order_len, r2]; exact Nat.le_refl m)]
    exact order_mem.mpr (by rw [r2]; exact ht)
  have s2 : ∀ k t, k < b.length → t < m → t ∈ readR (b.getD k []) ((List.replicate b.length 0).getD k 0) ∨ (k, t) ∈ as := fun k t hk ht => .inr (hj k t hk ht)
  have w1 := whole_step2 (rest := rest) (c := c) (a3 := .val (natD m)) (a6 := .val (.list (as.map pairD))) (a7 := x7) (a9 := .no) (a10 := .no) (a11 := .no) h hr l1 hc s1
  have w2 := whole_step2 (rest := rest) (c := c) (a3 := .val (natD m)) (a6 := .val (.list (as.map pairD))) (a7 := x7) (a9 := .no) (a10 := .no) (a11 := .no) h hr l2 hc s2
  refine run_whole (L1 := natsD (List.replicate b.length m)) (L2 := natsD (List.replicate b.length 0)) (n := natD b.length) (e := as.map pairD) (ix_book g1) (by rw [len_row, g3]) c3 e4 e5 e6 e7 h8 h9 hx (len_book b) (mul_rep _ _ (by omega)) (mul_rep _ _ (by omega)) (δ2 := [.val (bookD b), .val (ruleD r), .val (natD c), .val (natD m), .val (rowD (wsR b r m)), .val (natsD (sortN ((orderR (wsR b r m)).take c))), .val (.list (as.map pairD)), x7, .val (looksD (List.replicate b.length 0) as), .no, .no, .no]) ?_
  show (B_law_whole_2 rest [.val (bookD b), .val (ruleD r), .val (natD c), .val (natD m), .val (rowD (wsR b r m)), .val (natsD (sortN ((orderR (wsR b r m)).take c))), .val (.list (as.map pairD)), x7, .val (looksD (List.replicate b.length m) []), .no, .no, .no]).bind _ = _
  rw [w1]
  show (B_law_whole_2 rest [.val (bookD b), .val (ruleD r), .val (natD c), .val (natD m), .val (rowD (wsR b r m)), .val (natsD (sortN ((orderR (wsR b r m)).take c))), .val (.list (as.map pairD)), x7, .val (looksD (List.replicate b.length 0) as), .no, .no, .no]).bind _ = _
  rw [w2]
  rfl
end
end DL

set_option Elab.async false
set_option linter.all false
set_option maxRecDepth 100000
set_option maxHeartbeats 4000000
set_option exponentiation.threshold 3000
/-! Fn3: what the law keeps as a text. -/
namespace DL
open PySem PyProof.Rows
/-- data whose text can be made: of some depth, of some bulk -/
structure Tk (n k : Nat) (d : PyData) : Prop where
  lay : d.canLay0 = true
  dep : d.depth ≤ n
  shw : d.showable = true
  lvs : d.leavesShort 14 = true
  cps : ∀ c ∈ d.shown.cps.toList, c < 0x110000
  blk : d.bulk ≤ k
theorem Tk.up {n k n' k' : Nat} {d : PyData} (h : Tk n k d) (hn : n ≤ n') (hk : k ≤ k') : Tk n' k' d := ⟨h.lay, Nat.le_trans h.dep hn, h.shw, h.lvs, h.cps, Nat.le_trans h.blk hk⟩
theorem tk_int {i : Int} (h : i.natAbs < 2 ^ 40) : Tk 0 0 (.int i) := by
  refine ⟨rfl, Nat.le_refl 0, ?_, ?_, fun c hc => Classical.byContradiction fun q => ?_, Nat.le_refl 0⟩
  · simp only [PyData.showable, decide_eq_true_eq]
    by_cases z : i.natAbs = 0
    · rw [z]
      decide
    · exact Nat.lt_trans ((Nat.log2_lt z).mpr h) (by decide)
  · simp only [PyData.leavesShort, decide_eq_true_eq]
    have e := int_text_length_le10 (k := 13) (a := i) (by decide) (Nat.lt_trans h (by decide))
    show (Str.ofString (toString i)).length ≤ 14
    rw [PySem.ofString_length]
    exact e
  · exact shown_int_free' (k := c) ⟨by omega, .inr (by omega)⟩ i hc
theorem tk_all {n k : Nat} : ∀ {ds : List PyData}, (∀ d ∈ ds, Tk n k d) → PyData.canLayAll0 ds = true ∧ PyData.depthAll ds ≤ n ∧ PyData.showableAll ds = true ∧ PyData.leavesShortAll 14 ds = true ∧ (∀ t ∈ PyData.shownAll ds, ∀ c ∈ t.cps.toList, c < 0x110000) ∧ PyData.bulkAll ds ≤ ds.length * (k + 1)
  | [], _ => ⟨rfl, Nat.zero_le _, rfl, rfl, fun t ht => (by simp only [PyData.shownAll] at ht; cases ht), Nat.zero_le _⟩
  | d :: r, h => by
    have h1 := h d List.mem_cons_self
    obtain ⟨q1, q2, q3, q4, q5, q6⟩ := tk_all (ds := r) fun e he => h e (List.mem_cons_of_mem _ he)
    refine ⟨by simp only [PyData.canLayAll0, h1.lay, q1, Bool.and_self], ?_, by simp only [PyData.showableAll, h1.shw, q3, Bool.and_self], by simp only [PyData.leavesShortAll, h1.lvs, q4, Bool.and_self], fun t ht => ?_, ?_⟩
    · simp only [PyData.depthAll]
      have := h1.dep
      omega
    · simp only [PyData.shownAll, List.mem_cons] at ht
      rcases ht with rfl | ht
      · exact h1.cps
      · exact q5 t ht
    · simp only [PyData.bulkAll, List.length_cons]
      have := h1.blk
      rw [Nat.add_mul]
      omega
theorem ofS_lt (s : String) (h : (Str.ofString s).cps.toList.all (fun c => decide (c < 0x110000)) = true) {c : Nat} (hc : c ∈ (Str.ofString s).cps.toList) : c < 0x110000 := of_decide_eq_true (List.all_eq_true.mp h c hc)
theorem tk_list {n k l : Nat} {ds : List PyData} (h : ∀ d ∈ ds, Tk n k d) (hl : ds.length ≤ l) : Tk (n + 1) (l * (k + 1)) (.list ds) := by
  obtain ⟨q1, q2, q3, q4, q5, q6⟩ := tk_all h
  have q7 : ds.length * (k + 1) ≤ l * (k + 1) := Nat.mul_le_mul_right _ hl
  refine ⟨by simp only [PyData.canLay0]; exact q1, by simp only [PyData.depth]; omega, by simp only [PyData.showable]; exact q3, by simp only [PyData.leavesShort]; exact q4, fun c hc => ?_, by simp only [PyData.bulk]; omega⟩
  rw [PyData.shown_list, mem_cps_append, mem_cps_append, mem_join] at hc
  rcases hc with (hc | ⟨t, ht, hc⟩ | ⟨_, hc⟩) | hc
  · exact ofS_lt _ (by decide) hc
  · exact q5 t ht c hc
  · exact ofS_lt _ (by decide) hc
  · exact ofS_lt _ (by decide) hc
theorem tk_tup {n k l : Nat} {ds : List PyData} (h : ∀ d ∈ ds, Tk n k d) (hl : ds.length ≤ l) : Tk (n + 1) (l * (k + 1)) (.tuple ds) := by
  obtain ⟨q1, q2, q3, q4, q5, q6⟩ := tk_all h
  have q7 : ds.length * (k + 1) ≤ l * (k + 1) := Nat.mul_le_mul_right _ hl
  refine ⟨by simp only [PyData.canLay0]; exact q1, by simp only [PyData.depth]; omega, by simp only [PyData.showable]; exact q3, by simp only [PyData.leavesShort]; exact q4, fun c hc => ?_, by simp only [PyData.bulk]; omega⟩
  rw [PyData.shown_tuple, mem_cps_append, mem_cps_append, mem_join] at hc
  rcases hc with (hc | ⟨t, ht, hc⟩ | ⟨_, hc⟩) | hc
  · exact ofS_lt _ (by decide) hc
  · exact q5 t ht c hc
  · exact ofS_lt _ (by decide) hc
  · split at hc
    · exact ofS_lt _ (by decide) hc
    · exact ofS_lt _ (by decide) hc
theorem tk_tup1 {n k : Nat} {a : PyData} (ha : Tk n k a) : Tk (n + 1) (1 * (k + 1)) (.tuple [a]) := tk_tup (l := 1) (ds := [a]) (fun d hd => by rw [List.mem_singleton.mp hd]; exact ha) (Nat.le_refl 1)
theorem tk_tup2 {n k : Nat} {a b : PyData} (ha : Tk n k a) (hb : Tk n k b) : Tk (n + 1) (2 * (k + 1)) (.tuple [a, b]) := tk_tup (l := 2) (ds := [a, b]) (fun d hd => by
  rcases List.mem_cons.mp hd with rfl | hd
  · exact ha
  · rw [List.mem_singleton.mp hd]; exact hb) (Nat.le_refl 2)
theorem tk_nat {n : Nat} (h : n < 2 ^ 40) : Tk 0 0 (natD n) := tk_int (by rw [Int.natAbs_natCast]; exact h)
theorem tk_fr {r : Rat} (h : Sz 40 r) : Tk 1 2 (frR r) := tk_tup2 (tk_int h.1) (tk_int (by rw [Int.natAbs_natCast]; exact h.2))
theorem tk_map {α : Type} {f : α → PyData} {n k l : Nat} {xs : List α} (h : ∀ x ∈ xs, Tk n k (f x)) (hl : xs.length ≤ l) : Tk (n + 1) (l * (k + 1)) (.list (xs.map f)) := tk_list (fun d hd => by
  obtain ⟨x, hx, rfl⟩ := List.mem_map.mp hd
  exact h x hx) (by rw [List.length_map]; exact hl)
theorem tk_book {m : Nat} {b : List (List Rat)} (h : Bok m b) : Tk 3 1000 (bookD b) :=
  (tk_map (f := rowD) (n := 2) (k := 36) (l := 4) (fun row hrow => (tk_map (f := frR) (n := 1) (k := 2) (l := 12) (fun w hw => tk_fr (h.wo row hrow w hw).sz) (by rw [h.row row hrow]; exact h.m2))) h.n2).up (by decide) (by decide)
theorem tk_str (s : String) (h1 : PyData.strOk (Str.ofString s) = true) (h2 : (PyData.shown (.str (Str.ofString s))).cps.toList.all (fun c => decide (c < 0x110000)) = true) (h3 : (Str.ofString s).cps.toList.all (fun c => decide (c < 16 ^ 8)) = true) (h4 : (Str.ofString s).cps.size ≤ 20) : Tk 0 20 (.str (Str.ofString s)) := by
  refine ⟨by simp only [PyData.canLay0]; exact h1, Nat.le_refl 0, rfl, by simp only [PyData.leavesShort]; exact h3, fun c hc => of_decide_eq_true (List.all_eq_true.mp h2 c hc), by simp only [PyData.bulk]; exact h4⟩
theorem tk_least : Tk 0 20 (.str "least") := tk_str _ (by kernel_rfl) (by kernel_rfl) (by kernel_rfl) (by decide)
theorem tk_greatest : Tk 0 20 (.str "greatest") := tk_str _ (by kernel_rfl) (by kernel_rfl) (by kernel_rfl) (by decide)
theorem tk_product : Tk 0 20 (.str "product") := tk_str _ (by kernel_rfl) (by kernel_rfl) (by kernel_rfl) (by decide)
theorem tk_middle : Tk 0 20 (.str "middle") := tk_str _ (by kernel_rfl) (by kernel_rfl) (by kernel_rfl) (by decide)
theorem tk_shares : Tk 0 20 (.str "shares") := tk_str _ (by kernel_rfl) (by kernel_rfl) (by kernel_rfl) (by decide)
theorem tk_rule {n : Nat} {r : Rule} (h : Rok n r) (n4 : n ≤ 4) : Tk 3 1000 (ruleD r) := by
  cases r with
  | least => exact (tk_tup1 tk_least).up (by decide) (by decide)
  | greatest => exact (tk_tup1 tk_greatest).up (by decide) (by decide)
  | product => exact (tk_tup1 tk_product).up (by decide) (by decide)
  | middle k =>
    obtain ⟨k1, k2⟩ := h
    have q : Tk 0 20 (natD k) := (tk_nat (by omega)).up (by decide) (by decide)
    exact (tk_tup2 tk_middle q).up (by decide) (by decide)
  | shares ws =>
    obtain ⟨k1, k2⟩ := h
    have q : Tk 2 20 (rowD ws) := (tk_map (f := frR) (n := 1) (k := 2) (l := 4) (fun w hw => tk_fr ((k2 w hw).2.up (by decide))) (by omega)).up (by decide) (by decide)
    have q2 : Tk 2 20 (.str "shares") := tk_shares.up (by decide) (by decide)
    exact (tk_tup2 q2 q).up (by decide) (by decide)
theorem tk_looks {n m : Nat} {ds : List Nat} {as : List (Nat × Nat)} (h : Lok n m ds as) (n4 : n ≤ 4) (m2 : m ≤ 12) : Tk 3 1000 (looksD ds as) := by
  have q1 : Tk 2 300 (natsD ds) := (tk_map (f := natD) (n := 0) (k := 0) (l := 4) (fun d hd => tk_nat (by have := h.dm d hd; omega)) (by rw [h.dn]; exact n4)).up (by decide) (by decide)
  have q2 : Tk 2 300 (pairsD as) := (tk_map (f := pairD) (n := 1) (k := 2) (l := 100) (fun p hp => by
    obtain ⟨q1, q2⟩ := h.an p hp
    exact tk_tup2 (tk_nat (by omega)) (tk_nat (by omega))) h.al).up (by decide) (by decide)
  exact (tk_tup2 q1 q2).up (by decide) (by decide)
theorem Tk.str {n k : Nat} {ds : List PyData} (h : Tk n k (.list ds)) (hn : n ≤ 20) (hk : k ≤ 10000) : strD [.list ds] = some (.str (PyData.shown (.list ds))) ∧ eqD (.str (PyData.shown (.list ds))) (.str (PyData.shown (.list ds))) = some (.bool true) := by
  have len : (PyData.shown (.list ds)).length ≤ sizeLine := by
    have e := PyData.shown_le_bulk 14 (by decide) (.list ds) h.lvs
    have b := h.blk
    have z : sizeLine = 16777216 := by decide
    rw [z]
    omega
  refine ⟨if_pos ⟨h.lay, h.shw, Nat.le_trans h.dep hn, len⟩, ?_⟩
  · have c : PyData.canLay0 (.str (PyData.shown (.list ds))) = true := by
      simp only [PyData.canLay0]
      show (PyData.shown (.list ds)).cps.all (· < 0x110000) = true
      rw [← Array.all_toList, List.all_eq_true]
      exact fun x hx => decide_eq_true (h.cps x hx)
    have s : SeqAt.shaped (.str (PyData.shown (.list ds))) = true := Shp.shaped (n := 0) ⟨c, Nat.le_refl 0⟩ (by decide)
    unfold eqD
    rw [if_pos ⟨s, s⟩]
    simp only [PyData.eqv, beq_self_eq_true]
theorem tk_kept {m : Nat} {b : List (List Rat)} {r : Rule} {ds ds' : List Nat} {as as' : List (Nat × Nat)} (h : Bok m b) (hr : Rok b.length r) (hl1 : Lok b.length m ds as) (hl2 : Lok b.length m ds' as') : Tk 4 4004 (.list [bookD b, ruleD r, looksD ds as, looksD ds' as']) :=
  tk_list (l := 4) (n := 3) (k := 1000) (ds := [bookD b, ruleD r, looksD ds as, looksD ds' as']) (fun d hd => by
    rcases List.mem_cons.mp hd with rfl | hd
    · exact tk_book h
    rcases List.mem_cons.mp hd with rfl | hd
    · exact tk_rule hr h.n2
    rcases List.mem_cons.mp hd with rfl | hd
    · exact tk_looks hl1 h.n2 h.m2
    · rw [List.mem_singleton.mp hd]
      exact tk_looks hl2 h.n2 h.m2) (Nat.le_refl 4)
/-! ### the law -/
theorem run_law {rest : FS} {S B L R s M K : PyData} {n m v : Nat} {x1 : PyData} {r0 : PyData} (h1 : F_law_book [S, natD 0, natD 4, natD 12] = some B) (h2 : F_law_looks [S, .int 5, B] = some L) (h3 : F_law_cell [S, .int 7] = some x1) (h4 : lenD [B] = some (natD n)) (h5 : F_law_rule [x1, natD n] = some R) (h6 : F_law_cell [S, natD 8] = some (natD v))
    (h7 : ixD B (natD 0) = some r0) (h8 : lenD [r0] = some (natD m)) (h9 : F_law_frac [natD (7 + v / 13 % 22), natD 7] = some s) (h10 : F_law_more [S, .int 9, B, L] = some M) (h11 : strD [.list [B, R, L, M]] = some K) (h12 : F_law_nested [B, R, L, M] = some (.bool true)) (h13 : F_law_stays rest [B, R, natD (v % (m + 1)), L, M] = some (.bool true))
    (h14 : F_law_near [B, R, natD (v % (m + 1)), L, M, s] = some (.bool true)) (h15 : F_law_whole rest [B, R, natD (v % (m + 1))] = some (.bool true)) (h16 : eqD K K = some (.bool true)) : F_law rest [S] = some (.bool true) := by
  have e1 : modD (natD v) (natD (m + 1)) = some (natD (v % (m + 1))) := mod_nn (by omega)
  have e2 : divD (natD v) (.int 13) = some (natD (v / 13)) := div_nn (j := 13) (by decide) (by decide)
  have e3 : modD (natD (v / 13)) (.int 22) = some (natD (v / 13 % 22)) := mod_nn (j := 22) (by decide)
  have e4 : addD (.int 7) (natD (v / 13 % 22)) = some (natD (7 + v / 13 % 22)) := add_nn 7 _
  have e5 : F_law_frac [natD (7 + v / 13 % 22), .int 7] = some s := h9
  rw [r_law]
  cases d : decide (m ≤ 8) with
  | true => simp only [B_law, sSeq_ap, sIf_ap, bOf_ap, bAnd_ap, bOr_ap, bNot_ap, bYes_ap, fAnd_ap, fOr_ap, fNot_ap, fIf_ap, sPat_ap, pName_ap, pTup_ap, setAll, sSkip_ap, sRet_ap, sOwn_ap, sFrz_ap, frz, frz1, sApp_ap, sIns_ap, sDo_ap, fTup_ap, fLstN_ap, fList_ap, fCall_ap, fCons_ap, fNil_ap, f1_ap, f2_ap, fVar_ap, fC_ap, sFor_ap, List.foldl_cons, List.foldl_nil, List.set_cons_succ, List.set_cons_zero, List.getElem?_cons_zero, List.getElem?_cons_succ, Option.bind_some, fin_rt, fin_nx, Bool.not_true, Bool.not_false, wipeD, nought_fr, one_fr, int_0, int_1, int_2, int_3, int_4, int_8, int_12, len_list, len_tup, len_map, isi_list, isi_tup, isi_str, lt_nn, le_nn, gt_nn, ge_nn, eq_nn, ne_nn, add_nn, whole_n, List.length_map, decide_true, decide_false, leng0, leng1, leng2, leng3, leng4, if_true, if_false, eq_self, Nat.reduceEqDiff, Nat.reduceLT, Nat.reduceLeDiff, h1, h2, h3, h4, h5, h6, h7, h8, e1, e2, e3, e4, e5, h10, h11, h12, h13, d, h14, h15, h16]
  | false => simp only [B_law, sSeq_ap, sIf_ap, bOf_ap, bAnd_ap, bOr_ap, bNot_ap, bYes_ap, fAnd_ap, fOr_ap, fNot_ap, fIf_ap, sPat_ap, pName_ap, pTup_ap, setAll, sSkip_ap, sRet_ap, sOwn_ap, sFrz_ap, frz, frz1, sApp_ap, sIns_ap, sDo_ap, fTup_ap, fLstN_ap, fList_ap, fCall_ap, fCons_ap, fNil_ap, f1_ap, f2_ap, fVar_ap, fC_ap, sFor_ap, List.foldl_cons, List.foldl_nil, List.set_cons_succ, List.set_cons_zero, List.getElem?_cons_zero, List.getElem?_cons_succ, Option.bind_some, fin_rt, fin_nx, Bool.not_true, Bool.not_false, wipeD, nought_fr, one_fr, int_0, int_1, int_2, int_3, int_4, int_8, int_12, len_list, len_tup, len_map, isi_list, isi_tup, isi_str, lt_nn, le_nn, gt_nn, ge_nn, eq_nn, ne_nn, add_nn, whole_n, List.length_map, decide_true, decide_false, leng0, leng1, leng2, leng3, leng4, if_true, if_false, eq_self, Nat.reduceEqDiff, Nat.reduceLT, Nat.reduceLeDiff, h1, h2, h3, h4, h5, h6, h7, h8, e1, e2, e3, e4, e5, h10, h11, h12, h13, d, h15, h16]
theorem law_holds (rest : FS) (ns : List Int) : F_law rest [scrD ns] = some (.bool true) := by
  obtain ⟨m, b, e1, h⟩ := f_book ns
  obtain ⟨ds, as, e2, hl1⟩ := f_looks ns h
  obtain ⟨u, _, e3⟩ := f_cell ns 7
  obtain ⟨r, e5, hr⟩ := f_rule u b.length h.n1 h.n2
  obtain ⟨v, _, e6⟩ := f_cell ns 8
  obtain ⟨r0, g1, g2, g3⟩ := h.hd
  obtain ⟨ds', as', e10, hl2, hle, hsub⟩ := f_more ns h hl1
  have tk := tk_kept h hr hl1 hl2
  obtain ⟨k1, k2⟩ := tk.str (by decide) (by decide)
  have hc : v % (m + 1) ≤ m := by
    have : v % (m + 1) < m + 1 := Nat.mod_lt _ (by omega)
    omega
  have e9 := fl_frac (t := 7 + v / 13 % 22) (b := 7) (n := 3) (by decide) (by decide) (by decide)
  have s1 : (1 : Rat) ≤ mkRat ((7 + v / 13 % 22 : Nat) : Int) 7 := by
    rw [Rat.le_iff, num_mk _ _ (by decide), den_mk _ _ (by decide)]
    simp only [Rat.num_ofNat, Rat.den_ofNat]
    have : 7 / Nat.gcd (7 + v / 13 % 22) 7 ≤ (7 + v / 13 % 22) / Nat.gcd (7 + v / 13 % 22) 7 := Nat.div_le_div_right (by omega)
    omega
  have s2 : Sz 8 (mkRat ((7 + v / 13 % 22 : Nat) : Int) 7) := sz_mk (by decide) (by omega) (by decide)
  exact run_law e1 e2 e3 (len_book b) e5 e6 (ix_book g1) (by rw [len_row, g3]) e9 e10 k1 (f_nested h hr hl1 hl2 hle hsub) (f_stays rest h hr hl1 hl2 hle hsub hc) (f_law_near h hr hl1 hl2 hle hsub hc s1 s2) (f_whole_law rest h hr hc) k2
end DL

set_option Elab.async false
set_option linter.all false
set_option maxRecDepth 100000
set_option maxHeartbeats 4000000
/-! Lk2: the law, called where nothing is being shown. -/
namespace DL
open PySem PySem.Spec PyProof.Rows L2
section
variable {P : Program} {w : World} {K : PySem.W.Frag} {mg : Str → Option Value} {h : Heap} {base : Heap}
/-- as a def's promise, of calls where no text of an object is in the making -/
theorem law_kept {C : Ctx} {x : Str} {st : Stmt} {f : Addr} {fd : FuncData} {ps : List Str} {L : Nat} {sb : FS}
    (F : FunD K x x (defArgs st) (defBody st) (defScope st) [] [] f fd) (S : FnScope C.N ps (defScope st)) (hsc : C.sc = defScope st) (hfn : C.fnb = fun _ => true) (hb : PSsc C (defBody st) sb)
    (blt : ∀ x ∈ blts, mg x = none) (con : ∀ p ∈ C.con, ∃ v u, mg p.1 = some u ∧ RelV v u ∧ ∀ F, Dq K F v p.2) (tab : ∀ p ∈ C.tab, Ok P w K mg base L p)
    {A : Around} {out : List Env} {s : Shared} {H : Hp} {args : Args} {us : List Value} {vs : List V} {Q : VK} {X : XK}
    (hr : Room (L + 1) A) (hg : A.guards = some []) (e0 : Env0 P w K mg base A out s H) (bd : BindsTo s fd args (ps.zip us)) (hv : Vals vs us) (hs : spD K ps.length (runD ps.length C.N.length sb) vs H Q X) :
    codeAny (model P w) A (.call (.ref f) args) (CR CX0 out P w H s Q X) s := by
  obtain ⟨oc, od, dV, kV, doc, pm, an, cdv, ct, osl, rfl, lk, hcd, _, _⟩ := F.ex
  obtain ⟨ts, t1, t2⟩ := hb K
  have up : ∀ b o, base.get? b = some o → s.heap.get? b = some o := fun b o e => (e0.bs b o e).1
  have kin := e0.mod.kin.keeps up
  have nl := e0.mod.nolimit.keeps up
  have par : ∀ y ∈ ps.zip us, (defScope st).names.lookup y.1 = some .local ∨ ((defScope st).names.lookup y.1 = some .cell ∧ ((cellsFrom (s.heap.objs.size + 1) (defScope st).names []).lookup y.1).isSome = true) := by
    rintro ⟨n, v⟩ hy
    rcases S.par n (List.of_mem_zip hy).1 with q | q
    · exact Or.inl q
    · exact Or.inr ⟨q, PySem.W.cellsFrom_some _ _ _ (Or.inl q)⟩
  refine codeAny_call_function (Room.depth hr) (kin _ _ lk) rfl S.co S.gen rfl (PySem.W.codeRec_of kin hcd) (bd _ _ _ _ ?_)
  refine wpAny_newFunctionEnv_cells S.kind par fun env he s1 ic => ?_
  subst he
  refine ⟨nl.keeps ic.toInCall.keep, codeAny_func ?_⟩
  have hr' : Room L (A.deeper (envOfC x (defScope st) s.heap.objs.size f cdv)) := Room.deeper hr _
  have J := inv_start (CX := CX0) (P := P) (w := w) (K := K) (mg := mg) (base := base) (qual := x) (f := f) (cd := cdv) (E := X) S hr.hd e0 hs.1 hv ic
  have G : Good C (cxOf CX0 P w K mg base C.N x (defScope st) f cdv A out s H X).nox := by
    refine ⟨rfl, S.nd, hsc.symm, by rw [hsc]; exact S.kind, by rw [hfn]; rfl, rfl, rfl, ?_, blt, con, fun p hp => ?_, fun _ => ?_⟩
    · have z := hr'.un
      show (A.deeper (envOfC x (defScope st) s.heap.objs.size f cdv)).units + 70 < cLine
      omega
    · obtain ⟨f', fd', ps', a, b, c, d⟩ := tab p hp
      exact ⟨L, f', fd', ps', a, hr', b, c, d⟩
    · show (A.deeper (envOfC x (defScope st) s.heap.objs.size f cdv)).guards = some []
      exact hg
  have run := (PSs.nox (t2 _ G rfl)).run [] s1 (L2.start C.N vs) H _ J (body_ok (E := X) t1 hs)
  refine wpAny_mono run (fun fl s' q => ?_) fun _ _ q => q
  have fin : ∀ {σ' : L2.St} {H' : Hp} {v : V} {u : Value}, Inv (cxOf CX0 P w K mg base C.N x (defScope st) f cdv A out s H X) [] σ' H' s' → RelV v u → Q v H' → CE out P w H s Q u s' :=
    fun I r q => ⟨_, _, I.os, I.bare, I.base, I.hok, r, q⟩
  cases fl with
  | next =>
    obtain ⟨σ', H', I, q⟩ := q
    exact fin (v := .non) (u := .none) I rfl q
  | ret u =>
    obtain ⟨v, σ', H', I, r, q⟩ := q
    exact fin I r q
  | brk =>
    obtain ⟨_, _, _, z⟩ := q
    exact False.elim z
  | cont =>
    obtain ⟨_, _, _, z⟩ := q
    exact False.elim z
/-- the law's call, from its promise of the script as it stands -/
theorem law_goes {f a : Addr} {s : Shared} {vs : List Value} {ns : List Int} {mb : Str → Option Value}
    (kin : K.In s.heap) (hns : s.heap.Ns mainGlobals mg) (hb : s.heap.Ns builtinsNs mb) (hbb : ∀ x : Str, x ≠ "__name__" → mb x = bootBuiltins x) (nl : s.heap.NoLimit) (hgs : s.gens = #[])
    (ha : s.heap.get? a = some { cls := .type "list", data := .seq vs.toArray }) (hi : IntsAre vs ns) (hl : ns.length ≤ sizeLine)
    (run : ∀ (base : Heap) (H : Hp), K.In base → base.Ns mainGlobals mg → Env0 P w K mg base callerA [] s H → SqL K H a (ns.map V.int) →
      codeAny (model P w) callerA (.call (.ref f) ⟨[.ref a], []⟩) (CR CX0 [] P w H s (fun v _ => v = .bl true) (fun _ _ _ => False)) s) :
    codeAny (model P w) callerA (.call (.ref f) ⟨[.ref a], []⟩) (fun r s' => r = .ok (.ret (.bool true)) ∧ OldK s.heap s'.heap ∧ s'.os = s.os ∧ AllBare s'.gens) s := by
  have rv := vals_ints hi
  have ln := hi.length
  -- whatever the script is: H tracks nothing but it
  have main : ∀ H : Hp, SqL K H a (ns.map V.int) → HOk P w H s.heap → (∀ b o, H b = some o → b = a ∧ (∃ xs, o = .frz { cls := .type "list", data := .seq vs.toArray } (.lst xs)) ∧ K.lookup a = none) →
      codeAny (model P w) callerA (.call (.ref f) ⟨[.ref a], []⟩) (fun r s' => r = .ok (.ret (.bool true)) ∧ OldK s.heap s'.heap ∧ s'.os = s.os ∧ AllBare s'.gens) s := by
    intro H hS ok only
    have none_of : ∀ {b : Addr}, b ≠ a → H b = none := fun {b} hne => by
      cases q : H b with
      | none => rfl
      | some o => exact absurd (only b o q).1 hne
    have keepNs : ∀ {b : Addr} {m : Str → Option Value}, s.heap.Ns b m → (hidT s.heap H).Ns b m := by
      rintro b m ⟨o, es, ep, e, d, r⟩
      refine ⟨o, es, ep, hidT_get e (none_of fun z => ?_), d, r⟩
      rw [z, ha] at e
      cases e
      have d' : Data.seq vs.toArray _ = Data.dict es ep := d
      cases d'
    have kB : K.In (hidT s.heap H) := by
      intro b o e
      refine hidT_get (kin b o e) ?_
      cases q : H b with
      | none => rfl
      | some u =>
        obtain ⟨e1, _, e2⟩ := only b u q
        rw [e1, e2] at e
        cases e
    have md : Mod K mg (hidT s.heap H) := by
      refine ⟨kB, keepNs hns, ⟨mb, keepNs hb, hbb⟩, ?_⟩
      obtain ⟨mc, z1, z2⟩ := nl
      exact ⟨mc, keepNs z1, z2⟩
    have e0 : Env0 P w K mg (hidT s.heap H) callerA [] s H := by
      refine ⟨rfl, md, fun b o e => of_hidT e, Nat.le_of_eq (hidT_size _ _), trivial, fun b z => ?_, ok, .of_eq hgs⟩
      exact absurd (show b ∈ ([] : List Addr) from z) (by simp)
    refine codeAny_mono (run _ H kB (keepNs hns) e0 hS) fun r s' q => ?_
    cases r with
    | error e => exact (show False from q).elim
    | ok fl =>
      cases fl with
      | ret u =>
        obtain ⟨v, H', q1, q2, un, ok', r', q3⟩ := q
        have q3 : v = .bl true := q3
        subst q3
        obtain rfl : u = Value.bool true := r'
        refine ⟨rfl, OldK.of_keep fun b o e => ?_, q1, q2⟩
        cases hb : H b with
        | none => exact un.keep b o e hb (by intro z; exact absurd (show b ∈ ([] : List Addr) from z) (by simp)) (by simp)
        | some u =>
          obtain ⟨_, ⟨xs, ho⟩, _⟩ := only b u hb
          subst ho
          obtain ⟨g1, _⟩ := ok b _ hb
          obtain ⟨g2, _⟩ := ok' b _ (un.frzs b _ _ hb)
          rw [e] at g1
          cases g1
          exact g2
      | next => exact (show False from q).elim
      | brk => exact (show False from q).elim
      | cont => exact (show False from q).elim
  cases hk : K.lookup a with
  | some o =>
    have e := kin a o hk
    rw [ha] at e
    cases e
    refine main (fun _ => none) (Or.inr ⟨_, vs.toArray, _, hk, rfl, rfl, rfl, ?_, by simpa using rv⟩) (fun b o z => nomatch (show (none : Option HO) = some o from z)) (fun b o z => nomatch (show (none : Option HO) = some o from z))
    rw [List.size_toArray, ln]
    exact hl
  | none =>
    have at_ : ∀ {b : Addr} {o : HO}, (if b = a then some (HO.frz { cls := .type "list", data := .seq vs.toArray } (.lst (ns.map V.int))) else none) = some o → b = a ∧ o = HO.frz { cls := .type "list", data := .seq vs.toArray } (.lst (ns.map V.int)) := by
      intro b o z
      by_cases hb : b = a
      · rw [if_pos hb] at z
        exact ⟨hb, (Option.some.inj z).symm⟩
      · rw [if_neg hb] at z
        cases z
    refine main (fun b => if b = a then some (.frz { cls := .type "list", data := .seq vs.toArray } (.lst (ns.map V.int))) else none) (Or.inl (Or.inr ⟨_, if_pos rfl⟩)) (fun b o z => ?_) (fun b o z => ?_)
    · obtain ⟨rfl, rfl⟩ := at_ z
      exact ⟨ha, by rw [List.length_map]; exact hl, vs, _, rv, ha⟩
    · obtain ⟨h1, h2⟩ := at_ z
      exact ⟨h1, ⟨_, h2⟩, hk⟩
end
section
variable {P : Program} {w : World} {K : PySem.W.Frag} {mg : Str → Option Value} {h : Heap} {base : Heap}
theorem law_tab (E : Envr w K mg h) : ∀ p ∈ (C_law rest0).tab, Ok P w K mg base 8 p := List.forall_mem_cons.mpr ⟨(ok_law_book E).mono (by decide), List.forall_mem_cons.mpr ⟨(ok_law_looks E).mono (by decide), List.forall_mem_cons.mpr ⟨(ok_law_rule E).mono (by decide), List.forall_mem_cons.mpr ⟨(ok_law_cell E).mono (by decide), List.forall_mem_cons.mpr ⟨(ok_law_frac E).mono (by decide), List.forall_mem_cons.mpr ⟨(ok_law_more E).mono (by decide), List.forall_mem_cons.mpr ⟨(ok_law_stays E).mono (by decide), List.forall_mem_cons.mpr ⟨(ok_law_nested E).mono (by decide), List.forall_mem_cons.mpr ⟨(ok_law_near E).mono (by decide), List.forall_mem_cons.mpr ⟨(ok_law_whole E).mono (by decide), List.forall_mem_nil _⟩⟩⟩⟩⟩⟩⟩⟩⟩⟩
end
theorem law_true (ns : List Int) (h : ns.length ≤ 63) : F_law rest0 [scrD ns] = some (.bool true) := law_holds rest0 ns
end DL
open PySem PySem.W PySem.Calls PyProof.Rows
set_option maxHeartbeats 0 in
theorem PySem.Challenge.cw_bestheads_k90_whole_more_looks_tell_no_l_holds : PySem.Challenge.rw_bestheads_k90_whole_more_looks_tell_no_l.Holds := by
  w_on; o_law
  refine HandSHeadRun.head_any (r := Hd.R) (q := view Hd.R.prog [101]) (H := Hd.hk) (ob := Hd.ob) (M := 6000) (loose := Hd.names) (d := HandSHeadRun.topDef Hd.R.prog 101) (kwd := []) Hd.ob_eq
    (by kernel_rfl) (fun s => by kernel_rfl) Hd.run (by kernel_rfl) (by kernel_rfl) (by kernel_rfl) (by rfl) (by first | assumption | decide +kernel) (by decide +kernel) ⟨rfl, rfl, rfl, rfl, rfl, by decide +kernel⟩ ?hw ?hc
  case hw => w_witness2
  case hc =>
    refine Att.attach_call (n := 63) rfl (by kernel_rfl) fun w s₀ s₁ mg mb fa o pm cd doc a vs ns G Y ho hd hcd hmg hobj hints hlen hgens => ?_
    obtain ⟨K, KX, c⟩ := Y
    have E : DL.Envr w K mg s₁.heap := ⟨KX, G.T.g, c⟩
    have hmg2 : mg ("law" : PySem.Str) = some (.ref fa) := by
      have e : (HandSHeadRun.topDef Hd.R.prog 101).name = ("law" : PySem.Str) := by kernel_rfl
      rw [← e]
      exact hmg
    have e := hmg2.symm.trans (E.glo 69 (x := "law") rfl)
    cases e
    obtain ⟨fd, F⟩ := E.fun_ 69 (x := "law") (st := Hd.s_law) rfl
    have hb : DL.PSsc (DL.C_law DL.rest0) (L2.defBody Hd.s_law) (DL.B_law DL.rest0) := by
      rw [← DL.e_law]
      exact (DL.cBody (DL.C_law DL.rest0) (L2.defBody Hd.s_law)).2
    refine DL.law_goes (K := K) KX G.T.g G.T.b G.T.builtins G.T.nolimit hgens hobj hints (Nat.le_trans hlen (by decide)) fun base H kb nb e0 hS => ?_
    refine DL.law_kept (C := DL.C_law DL.rest0) (x := "law") (ps := ["_law_script"]) (L := 8) (us := [.ref a]) (vs := [.ref a]) F DL.S_law rfl rfl hb E.blt (fun _ z => nomatch z) ?tab ⟨rfl, by decide, by decide⟩ rfl e0 ?bd (.cons rfl .nil) ?sp
    case tab => exact DL.law_tab E
    case bd => exact L2.FunD.bindsA (ps := ["_law_script"]) F (fun _ _ _ _ _ _ us hl => match us, hl with | [_], _ => rfl) _ _ rfl
    case sp =>
      refine ⟨rfl, H, [DL.scrD ns], .bool true, L2.Same.refl H, .cons (.scr hS) .nil, DL.law_true ns hlen, fun v F' H' _ d => ?_⟩
      cases d
      rfl
