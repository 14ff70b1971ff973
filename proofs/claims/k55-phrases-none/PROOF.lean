import PyProof.Rows.All
import HandS.ForMost
import HandS.ForExc
import HandS.CallSlots
import HandS.ExcInit
import KE.DataEq
import HandS.FStr
import HandS.IsInst
import HandS.Wide
import HandS.WideMore
import HandS.Star
import HandS.ExcField
import KE.KExcIs
import HandS.ExcIs
import HandS.Zip
import HandS.Conv
import HandS.Style
import HandS.ReplaceLit
import HandS.ReplaceList
import PySem.Challenge.RW_pileshifts_k55_phrases_that_are_none
import HandS.Head0
import HandS.Head1
import HandS.Head2
import HandS.HeadEnd
import HandS.HeadHook1
import HandS.HeadHook2
import HandS.HeadHook3
import HandS.HeadHook4
set_option Elab.async false
set_option linter.all false
set_option maxRecDepth 100000
set_option maxHeartbeats 0
/-! D-layer: values of Python as plain data, over the hand layer. -/
namespace DL
open PySem PySem.Spec PyProof.Rows L2

abbrev D := PyData

mutual
inductive Rp (K : PySem.W.Frag) (F : Hp) : V → D → Prop
  | non : Rp K F .non .none
  | bl (b : Bool) : Rp K F (.bl b) (.bool b)
  | int (i : Int) : Rp K F (.int i) (.int i)
  | str (x : Str) : Rp K F (.str x) (.str x)
  | lst {a : Addr} {xs : List V} {ds : List D} : F a = some (.lst xs) → RpA K F xs ds → Rp K F (.ref a) (.list ds)
  | tup {a : Addr} {xs : List V} {ds : List D} : SqT K F a xs → RpA K F xs ds → Rp K F (.ref a) (.tuple ds)
inductive RpA (K : PySem.W.Frag) (F : Hp) : List V → List D → Prop
  | nil : RpA K F [] []
  | cons {v : V} {vs : List V} {d : D} {ds : List D} : Rp K F v d → RpA K F vs ds → RpA K F (v :: vs) (d :: ds)
end

theorem sm_seqT {K : PySem.W.Frag} {H H' : Hp} {a : Addr} {xs : List V} (e : Same H H') (h : SqT K H a xs) : SqT K H' a xs := by
  rcases h with (h | ⟨o, h⟩) | h
  · exact .inl (.inl (e _ _ h))
  · exact .inl (.inr ⟨o, e _ _ h⟩)
  · exact .inr h

section
variable {K : PySem.W.Frag} {F F' : Hp}
mutual
theorem Rp.mono (e : Same F F') : ∀ (d : D) {v : V}, Rp K F v d → Rp K F' v d
  | .none, _, h => by cases h; exact .non
  | .bool b, _, h => by cases h; exact .bl b
  | .int i, _, h => by cases h; exact .int i
  | .str x, _, h => by cases h; exact .str x
  | .list ds, _, h => by
    cases h with
    | lst h1 h2 => exact .lst (e _ _ h1) (RpA.mono e ds h2)
  | .tuple ds, _, h => by
    cases h with
    | tup h1 h2 => exact .tup (sm_seqT e h1) (RpA.mono e ds h2)
  | .dict _, _, h => by cases h
theorem RpA.mono (e : Same F F') : ∀ (ds : List D) {vs : List V}, RpA K F vs ds → RpA K F' vs ds
  | [], _, h => by cases h; exact .nil
  | d :: ds, _, h => by
    cases h with
    | cons h1 h2 => exact .cons (Rp.mono e d h1) (RpA.mono e ds h2)
end
mutual
theorem Rp.dp : ∀ (d : D) {v : V}, Rp K F v d → Dp K F v d
  | .none, _, h => by cases h; exact .non
  | .bool b, _, h => by cases h; exact .bl b
  | .int i, _, h => by cases h; exact .int i
  | .str x, _, h => by cases h; exact .str x
  | .list ds, _, h => by
    cases h with
    | lst h1 h2 => exact .lst (.of h1) (RpA.dp ds h2)
  | .tuple ds, _, h => by
    cases h with
    | tup h1 h2 => exact .tup h1 (RpA.dp ds h2)
  | .dict _, _, h => by cases h
theorem RpA.dp : ∀ (ds : List D) {vs : List V}, RpA K F vs ds → DpAll K F vs ds
  | [], _, h => by cases h; exact .nil
  | d :: ds, _, h => by
    cases h with
    | cons h1 h2 => exact .cons (Rp.dp d h1) (RpA.dp ds h2)
end
mutual
theorem Rp.plain : ∀ (d : D) {v : V}, Rp K F v d → d.plain = true
  | .none, _, h => by simp [PyData.plain]
  | .bool b, _, h => by simp [PyData.plain]
  | .int i, _, h => by simp [PyData.plain]
  | .str x, _, h => by simp [PyData.plain]
  | .list ds, _, h => by
    cases h with
    | lst h1 h2 => simp [PyData.plain]; exact RpA.plain ds h2
  | .tuple ds, _, h => by
    cases h with
    | tup h1 h2 => simp [PyData.plain]; exact RpA.plain ds h2
  | .dict _, _, h => by cases h
theorem RpA.plain : ∀ (ds : List D) {vs : List V}, RpA K F vs ds → PyData.plainAll ds = true
  | [], _, h => by simp [PyData.plainAll]
  | d :: ds, _, h => by
    cases h with
    | cons h1 h2 => simp [PyData.plainAll]; exact ⟨Rp.plain d h1, RpA.plain ds h2⟩
end
theorem RpA.length : ∀ {vs : List V} {ds : List D}, RpA K F vs ds → vs.length = ds.length
  | _, [], h => by cases h; rfl
  | _, _ :: _, h => by
    cases h with
    | cons h1 h2 => simp [RpA.length h2]
theorem RpA.append : ∀ {vs ws : List V} {ds es : List D}, RpA K F vs ds → RpA K F ws es → RpA K F (vs ++ ws) (ds ++ es)
  | _, _, [], _, h, h' => by cases h; exact h'
  | _, _, _ :: _, _, h, h' => by
    cases h with
    | cons h1 h2 => exact .cons h1 (RpA.append h2 h')
theorem RpA.one {v : V} {d : D} (h : Rp K F v d) : RpA K F [v] [d] := .cons h .nil
theorem RpA.get : ∀ {vs : List V} {ds : List D} {i : Nat} {d : D}, RpA K F vs ds → ds[i]? = some d → ∃ v, vs[i]? = some v ∧ Rp K F v d
  | _, [], _, _, h, e => by simp at e
  | _, _ :: _, 0, _, h, e => by
    cases h with
    | cons h1 h2 => simp at e; subst e; exact ⟨_, rfl, h1⟩
  | _, _ :: _, i + 1, _, h, e => by
    cases h with
    | cons h1 h2 =>
      obtain ⟨v, q, r⟩ := RpA.get (i := i) h2 (by simpa using e)
      exact ⟨v, by simpa using q, r⟩
theorem RpA.getV : ∀ {vs : List V} {ds : List D} {i : Nat} {v : V}, RpA K F vs ds → vs[i]? = some v → ∃ d, ds[i]? = some d ∧ Rp K F v d
  | [], _, _, _, h, e => by simp at e
  | _ :: _, _, 0, _, h, e => by
    cases h with
    | cons h1 h2 => simp at e; subst e; exact ⟨_, rfl, h1⟩
  | _ :: _, _, i + 1, _, h, e => by
    cases h with
    | cons h1 h2 =>
      obtain ⟨v, q, r⟩ := RpA.getV (i := i) h2 (by simpa using e)
      exact ⟨v, by simpa using q, r⟩
theorem RpA.set : ∀ {vs : List V} {ds : List D} {v : V} {d : D} (i : Nat), RpA K F vs ds → Rp K F v d → RpA K F (vs.set i v) (ds.set i d)
  | _, [], _, _, _, h, _ => by cases h; exact .nil
  | _, _ :: _, _, _, 0, h, r => by
    cases h with
    | cons h1 h2 => exact .cons r h2
  | _, _ :: _, _, _, i + 1, h, r => by
    cases h with
    | cons h1 h2 => exact .cons h1 (RpA.set i h2 r)
theorem RpA.take : ∀ {vs : List V} {ds : List D} (i : Nat), RpA K F vs ds → RpA K F (vs.take i) (ds.take i)
  | _, _, 0, h => .nil
  | _, [], _ + 1, h => by cases h; exact .nil
  | _, _ :: _, i + 1, h => by
    cases h with
    | cons h1 h2 => exact .cons h1 (RpA.take i h2)
theorem RpA.drop : ∀ {vs : List V} {ds : List D} (i : Nat), RpA K F vs ds → RpA K F (vs.drop i) (ds.drop i)
  | _, _, 0, h => h
  | _, [], _ + 1, h => by cases h; exact .nil
  | _, _ :: _, i + 1, h => by
    cases h with
    | cons h1 h2 => exact RpA.drop i h2
theorem RpA.eraseIdx : ∀ {vs : List V} {ds : List D} (i : Nat), RpA K F vs ds → RpA K F (vs.eraseIdx i) (ds.eraseIdx i)
  | _, [], _, h => by cases h; exact .nil
  | _, _ :: _, 0, h => by
    cases h with
    | cons h1 h2 => exact h2
  | _, _ :: _, i + 1, h => by
    cases h with
    | cons h1 h2 => exact .cons h1 (RpA.eraseIdx i h2)
theorem RpA.dropLast {vs : List V} {ds : List D} (h : RpA K F vs ds) : RpA K F vs.dropLast ds.dropLast := by
  rw [List.dropLast_eq_take, List.dropLast_eq_take, RpA.length h]
  exact RpA.take _ h
theorem RpA.reverse : ∀ {vs : List V} {ds : List D}, RpA K F vs ds → RpA K F vs.reverse ds.reverse
  | _, [], h => by cases h; exact .nil
  | _, _ :: _, h => by
    cases h with
    | cons h1 h2 => rw [List.reverse_cons, List.reverse_cons]; exact RpA.append (RpA.reverse h2) (.one h1)
end

/-! ### what is known of the slots -/
inductive Sl where
  | non
  | val (d : D)
  | own (t : Option Addr) (ds : List D)
  | raw (v : V)
abbrev En := List Sl

structure OwnAt (K : PySem.W.Frag) (P F H : Hp) (t : Option Addr) (a : Addr) (ds : List D) : Prop where
  ex : ∃ vs, H a = some (.lst vs) ∧ RpA K F vs ds
  nF : F a = none
  nP : P a = none
  tg : ∀ b, t = some b → b = a
structure IA (K : PySem.W.Frag) (P F H : Hp) (σ : L2.St) (n : En) : Prop where
  pf : Same P H
  ff : Same F H
  vl : ∀ (i : Nat) (d : D), n[i]? = some (Sl.val d) → ∃ v, σ[i]? = some (some v) ∧ Rp K F v d
  ow : ∀ (i : Nat) (t : Option Addr) (ds : List D), n[i]? = some (Sl.own t ds) → ∃ a, σ[i]? = some (some (.ref a)) ∧ OwnAt K P F H t a ds
  dj : ∀ (i j : Nat) (t u : Option Addr) (ds es : List D) (a : Addr), n[i]? = some (Sl.own t ds) → n[j]? = some (Sl.own u es) → σ[i]? = some (some (.ref a)) → σ[j]? = some (some (.ref a)) → i = j
  ln : σ.length = n.length
  rw : ∀ (i : Nat) (v : V), n[i]? = some (Sl.raw v) → σ[i]? = some (some v)
structure Gr (P F F' : Hp) : Prop where
  s : Same F F'
  n : ∀ a, P a ≠ none → F' a ≠ none → F a ≠ none
theorem Gr.refl (P F : Hp) : Gr P F F := ⟨Same.refl F, fun _ _ h => h⟩
theorem Gr.trans {P F F1 F2 : Hp} (a : Gr P F F1) (b : Gr P F1 F2) : Gr P F F2 := ⟨a.s.trans b.s, fun x h h2 => a.n x h (b.n x h h2)⟩
theorem sm_upd {F H : Hp} {a : Addr} {o : HO} (e : Same F H) (h : F a = none) : Same F (upd H a o) := fun b u q => by
  rw [upd_ne (ne_of_none q h)]
  exact e b u q
theorem sm_updB {F H : Hp} {a : Addr} {o : HO} (e : Same F H) : Same (upd F a o) (upd H a o) := fun b u q => by
  by_cases hb : b = a
  · rw [hb, upd_same] at q ⊢; exact q
  · rw [upd_ne hb] at q ⊢; exact e b u q
theorem sm_updI {F H : Hp} {a : Addr} {o : HO} (e : Same F H) (h : H a = some o) : Same (upd F a o) H := fun b u q => by
  by_cases hb : b = a
  · rw [hb, upd_same] at q; rw [hb, h]; exact q
  · rw [upd_ne hb] at q; exact e b u q
theorem Gr.new {P F : Hp} {a : Addr} {o : HO} (hF : F a = none) (hP : P a = none) : Gr P F (upd F a o) :=
  ⟨fun b u q => by rw [upd_ne (ne_of_none q hF)]; exact q, fun b h h2 => by
    by_cases hb : b = a
    · rw [hb] at h; exact absurd hP h
    · rw [upd_ne hb] at h2; exact h2⟩

section
variable {K : PySem.W.Frag} {P F H F' H' : Hp} {σ : L2.St} {n : En}
theorem IA.nP (I : IA K P F H σ n) {a : Addr} (h : H a = none) : P a = none := I.pf.free h
theorem IA.nF (I : IA K P F H σ n) {a : Addr} (h : H a = none) : F a = none := I.ff.free h
/-- the heap grows, the known part grows, the owned ones stay -/
theorem IA.grow (I : IA K P F H σ n) (g : Gr H F F') (s : Same H H') (f : Same F' H') : IA K P F' H' σ n where
  pf := I.pf.trans s
  ff := f
  vl := fun i d e => by
    obtain ⟨v, h1, h2⟩ := I.vl i d e
    exact ⟨v, h1, Rp.mono g.s d h2⟩
  ow := fun i t ds e => by
    obtain ⟨a, h1, ⟨vs, h2, h3⟩, h4, h5, h6⟩ := I.ow i t ds e
    refine ⟨a, h1, ⟨vs, s a _ h2, RpA.mono g.s ds h3⟩, ?_, h5, h6⟩
    cases q : F' a with
    | none => rfl
    | some o => exact absurd h4 (g.n a (by rw [h2]; exact fun z => by cases z) (by rw [q]; exact fun z => by cases z))
  dj := I.dj
  ln := I.ln
  rw := I.rw
theorem Gr.of {P H F F' : Hp} (g : Gr H F F') (s : Same P H) : Gr P F F' := ⟨g.s, fun a h h2 => g.n a (fun z => h (s.free z)) h2⟩
/-- a new frozen object -/
theorem IA.new (I : IA K P F H σ n) {p : Addr} {o : HO} (hp : H p = none) : IA K P (upd F p o) (upd H p o) σ n :=
  I.grow (Gr.new (I.nF hp) hp) (sm_upd (Same.refl H) hp) (sm_updB I.ff)
theorem IA.gnew (I : IA K P F H σ n) {p : Addr} {o : HO} (hp : H p = none) : Gr P F (upd F p o) := Gr.new (I.nF hp) (I.nP hp)
/-- a new object that is not known to the frozen part -/
theorem IA.newU (I : IA K P F H σ n) {p : Addr} {o : HO} (hp : H p = none) : IA K P F (upd H p o) σ n :=
  I.grow (Gr.refl H F) (sm_upd (Same.refl H) hp) (sm_upd I.ff (I.nF hp))
/-- forgetting -/
theorem IA.sub (I : IA K P F H σ n) {n' : En} (h : ∀ (i : Nat) (s : Sl), n'[i]? = some s → s = Sl.non ∨ n[i]? = some s) (hl : n'.length = n.length) : IA K P F H σ n' where
  ln := I.ln.trans hl.symm
  rw := fun i v e => by
    rcases h i _ e with z | z
    · cases z
    · exact I.rw i v z
  pf := I.pf
  ff := I.ff
  vl := fun i d e => by
    rcases h i _ e with z | z
    · cases z
    · exact I.vl i d z
  ow := fun i t d e => by
    rcases h i _ e with z | z
    · cases z
    · exact I.ow i t d z
  dj := fun i j t u ds es a e1 e2 => by
    rcases h i _ e1 with z | z
    · cases z
    · rcases h j _ e2 with y | y
      · cases y
      · exact I.dj i j t u ds es a z y
theorem set_get {α : Type} {l : List α} {i j : Nat} {x y : α} (h : (l.set i x)[j]? = some y) : (j = i ∧ y = x) ∨ (j ≠ i ∧ l[j]? = some y) := by
  by_cases e : i = j
  · subst e
    rw [List.getElem?_set] at h
    split at h
    · split at h
      · exact .inl ⟨rfl, (Option.some.inj h).symm⟩
      · cases h
    · exact absurd rfl ‹_›
  · rw [List.getElem?_set_ne e] at h
    exact .inr ⟨fun z => e z.symm, h⟩
theorem set_ne' {α : Type} {l : List α} {i j : Nat} {x : α} (h : j ≠ i) : (l.set i x)[j]? = l[j]? := List.getElem?_set_ne fun z => h z.symm
/-- an owned one is frozen -/
theorem IA.frz (I : IA K P F H σ n) {i : Nat} {t : Option Addr} {ds : List D} (e : n[i]? = some (Sl.own t ds)) :
    ∃ a F', σ[i]? = some (some (.ref a)) ∧ IA K P F' H σ (n.set i (Sl.val (.list ds))) ∧ Gr P F F' ∧ Rp K F' (.ref a) (.list ds) := by
  obtain ⟨a, h1, ⟨vs, h2, h3⟩, h4, h5, h6⟩ := I.ow i t ds e
  have g : Gr P F (upd F a (.lst vs)) := Gr.new h4 h5
  have r : Rp K (upd F a (.lst vs)) (.ref a) (.list ds) := .lst upd_same (RpA.mono g.s ds h3)
  refine ⟨a, upd F a (.lst vs), h1, ⟨I.pf, sm_updI I.ff h2, fun j d q => ?_, fun j u es q => ?_, fun j k t' u es fs b q1 q2 => ?_, by rw [List.length_set]; exact I.ln, fun j v q => by
    rcases set_get q with ⟨rfl, z⟩ | ⟨hj, z⟩
    · cases z
    · exact I.rw j v z⟩, g, r⟩
  · rcases set_get q with ⟨rfl, z⟩ | ⟨hj, z⟩
    · cases z; exact ⟨_, h1, r⟩
    · obtain ⟨v, y1, y2⟩ := I.vl j d z
      exact ⟨v, y1, Rp.mono g.s d y2⟩
  · rcases set_get q with ⟨rfl, z⟩ | ⟨hj, z⟩
    · cases z
    · obtain ⟨b, y1, ⟨ws, y2, y3⟩, y4, y5, y6⟩ := I.ow j u es z
      refine ⟨b, y1, ⟨ws, y2, RpA.mono g.s es y3⟩, ?_, y5, y6⟩
      rw [upd_ne (fun z' => by subst z'; exact hj (I.dj j i u t es ds b z e y1 h1))]
      exact y4
  · rcases set_get q1 with ⟨rfl, z⟩ | ⟨hj, z⟩
    · cases z
    · rcases set_get q2 with ⟨rfl, y⟩ | ⟨hk, y⟩
      · cases y
      · exact I.dj j k _ _ es fs b z y
/-- an owned one is changed -/
theorem IA.mut (I : IA K P F H σ n) {i : Nat} {t : Option Addr} {ds es : List D} {a : Addr} {ws : List V} (e : n[i]? = some (Sl.own t ds)) (ha : σ[i]? = some (some (.ref a))) (r : RpA K F ws es) :
    IA K P F (upd H a (.lst ws)) σ (n.set i (Sl.own t es)) := by
  obtain ⟨a', h1, ⟨vs, h2, h3⟩, h4, h5, h6⟩ := I.ow i t ds e
  obtain rfl : a = a' := by rw [ha] at h1; cases h1; rfl
  refine ⟨sm_upd I.pf h5, sm_upd I.ff h4, fun j d q => ?_, fun j u fs q => ?_, fun j k t' u es fs b q1 q2 => ?_, by rw [List.length_set]; exact I.ln, fun j v q => by
    rcases set_get q with ⟨rfl, z⟩ | ⟨hj, z⟩
    · cases z
    · exact I.rw j v z⟩
  · rcases set_get q with ⟨rfl, z⟩ | ⟨hj, z⟩
    · cases z
    · exact I.vl j d z
  · rcases set_get q with ⟨rfl, z⟩ | ⟨hj, z⟩
    · cases z
      exact ⟨a, h1, ⟨ws, upd_same, r⟩, h4, h5, h6⟩
    · obtain ⟨b, y1, ⟨us, y2, y3⟩, y4, y5, y6⟩ := I.ow j u fs z
      refine ⟨b, y1, ⟨us, ?_, y3⟩, y4, y5, y6⟩
      rw [upd_ne (fun z' => by subst z'; exact hj (I.dj j i u t fs ds b z e y1 ha))]
      exact y2
  · rcases set_get q1 with ⟨rfl, z⟩ | ⟨hj, z⟩
    · rcases set_get q2 with ⟨rfl, y⟩ | ⟨hk, y⟩
      · intros; rfl
      · exact I.dj j k _ _ ds fs b e y
    · rcases set_get q2 with ⟨rfl, y⟩ | ⟨hk, y⟩
      · exact I.dj j k _ _ _ ds b z e
      · exact I.dj j k _ _ _ _ b z y
/-- a slot is stored -/
theorem IA.set1 (I : IA K P F H σ n) {i : Nat} {v : V} {d : D} (hi : i < σ.length) (r : Rp K F v d) : IA K P F H (σ.set i (some v)) (n.set i (Sl.val d)) where
  ln := by rw [List.length_set, List.length_set]; exact I.ln
  rw := fun j v' q => by
    rcases set_get q with ⟨rfl, z⟩ | ⟨hj, z⟩
    · cases z
    · rw [set_ne' hj]; exact I.rw j v' z
  pf := I.pf
  ff := I.ff
  vl := fun j e q => by
    rcases set_get q with ⟨rfl, z⟩ | ⟨hj, z⟩
    · cases z
      exact ⟨v, by rw [List.getElem?_set_self hi], r⟩
    · rw [set_ne' hj]; exact I.vl j e z
  ow := fun j t e q => by
    rcases set_get q with ⟨rfl, z⟩ | ⟨hj, z⟩
    · cases z
    · rw [set_ne' hj]; exact I.ow j t e z
  dj := fun j k t u es fs b q1 q2 h1 h2 => by
    rcases set_get q1 with ⟨rfl, z⟩ | ⟨hj, z⟩
    · cases z
    · rcases set_get q2 with ⟨rfl, y⟩ | ⟨hk, y⟩
      · cases y
      · rw [set_ne' hj] at h1
        rw [set_ne' hk] at h2
        exact I.dj j k t u es fs b z y h1 h2
/-- a slot is stored, any value, nothing known -/
theorem IA.set (I : IA K P F H σ n) {i : Nat} {v : V} {d : D} (r : Rp K F v d) : IA K P F H (σ.set i (some v)) (n.set i (Sl.val d)) := by
  by_cases hi : i < σ.length
  · exact I.set1 hi r
  · rw [List.set_eq_of_length_le (by omega), List.set_eq_of_length_le (by have := I.ln; omega)]
    exact I
theorem IA.setN (I : IA K P F H σ n) {i : Nat} {v : Option V} : IA K P F H (σ.set i v) (n.set i Sl.non) where
  ln := by rw [List.length_set, List.length_set]; exact I.ln
  rw := fun j v' q => by
    rcases set_get q with ⟨rfl, z⟩ | ⟨hj, z⟩
    · cases z
    · rw [set_ne' hj]; exact I.rw j v' z
  pf := I.pf
  ff := I.ff
  vl := fun j e q => by
    rcases set_get q with ⟨rfl, z⟩ | ⟨hj, z⟩
    · cases z
    · rw [set_ne' hj]; exact I.vl j e z
  ow := fun j t e q => by
    rcases set_get q with ⟨rfl, z⟩ | ⟨hj, z⟩
    · cases z
    · rw [set_ne' hj]; exact I.ow j t e z
  dj := fun j k t u es fs b q1 q2 h1 h2 => by
    rcases set_get q1 with ⟨rfl, z⟩ | ⟨hj, z⟩
    · cases z
    · rcases set_get q2 with ⟨rfl, y⟩ | ⟨hk, y⟩
      · cases y
      · rw [set_ne' hj] at h1
        rw [set_ne' hk] at h2
        exact I.dj j k t u es fs b z y h1 h2
/-- a slot takes a new list of its own -/
theorem IA.setO1 (I : IA K P F H σ n) {i : Nat} {a : Addr} {vs : List V} {ds : List D} (hi : i < σ.length) (ha : H a = some (.lst vs)) (r : RpA K F vs ds) (nF : F a = none) (nP : P a = none)
    (fr : ∀ (j : Nat) (t : Option Addr) (es : List D), n[j]? = some (Sl.own t es) → σ[j]? ≠ some (some (.ref a))) : IA K P F H (σ.set i (some (.ref a))) (n.set i (Sl.own none ds)) where
  ln := by rw [List.length_set, List.length_set]; exact I.ln
  rw := fun j v' q => by
    rcases set_get q with ⟨rfl, z⟩ | ⟨hj, z⟩
    · cases z
    · rw [set_ne' hj]; exact I.rw j v' z
  pf := I.pf
  ff := I.ff
  vl := fun j e q => by
    rcases set_get q with ⟨rfl, z⟩ | ⟨hj, z⟩
    · cases z
    · rw [set_ne' hj]; exact I.vl j e z
  ow := fun j t e q => by
    rcases set_get q with ⟨rfl, z⟩ | ⟨hj, z⟩
    · cases z
      exact ⟨a, by rw [List.getElem?_set_self hi], ⟨vs, ha, r⟩, nF, nP, fun _ z => by cases z⟩
    · rw [set_ne' hj]; exact I.ow j t e z
  dj := fun j k t u es fs b q1 q2 h1 h2 => by
    rcases set_get q1 with ⟨rfl, z⟩ | ⟨hj, z⟩
    · rw [List.getElem?_set_self hi] at h1
      cases h1
      rcases set_get q2 with ⟨rfl, y⟩ | ⟨hk, y⟩
      · rfl
      · rw [set_ne' hk] at h2
        exact absurd h2 (fr k _ _ y)
    · rw [set_ne' hj] at h1
      rcases set_get q2 with ⟨rfl, y⟩ | ⟨hk, y⟩
      · rw [List.getElem?_set_self hi] at h2
        cases h2
        exact absurd h1 (fr j _ _ z)
      · rw [set_ne' hk] at h2
        exact I.dj j k t u es fs b z y h1 h2
theorem IA.setR (I : IA K P F H σ n) {i : Nat} {v : V} : IA K P F H (σ.set i (some v)) (n.set i (Sl.raw v)) := by
  have J := I.setN (i := i) (v := some v)
  by_cases hi : i < σ.length
  · have e : (n.set i (Sl.raw v)).set i Sl.non = n.set i Sl.non := by rw [List.set_set]
    refine ⟨J.pf, J.ff, fun j d q => ?_, fun j t d q => ?_, fun j k t u ds es a q1 q2 => ?_, by rw [List.length_set, List.length_set]; exact I.ln, fun j v' q => ?_⟩
    · rcases set_get q with ⟨rfl, z⟩ | ⟨hj, z⟩
      · cases z
      · exact J.vl j d (by rw [set_ne' hj]; exact z)
    · rcases set_get q with ⟨rfl, z⟩ | ⟨hj, z⟩
      · cases z
      · exact J.ow j t d (by rw [set_ne' hj]; exact z)
    · rcases set_get q1 with ⟨rfl, z⟩ | ⟨hj, z⟩
      · cases z
      · rcases set_get q2 with ⟨rfl, y⟩ | ⟨hk, y⟩
        · cases y
        · exact J.dj j k t u ds es a (by rw [set_ne' hj]; exact z) (by rw [set_ne' hk]; exact y)
    · rcases set_get q with ⟨rfl, z⟩ | ⟨hj, z⟩
      · cases z
        rw [List.getElem?_set_self hi]
      · rw [set_ne' hj]; exact I.rw j v' z
  · rw [List.set_eq_of_length_le (by omega), List.set_eq_of_length_le (by have := I.ln; omega)]
    exact I
theorem IA.setO (I : IA K P F H σ n) {i : Nat} {a : Addr} {vs : List V} {ds : List D} (ha : H a = some (.lst vs)) (r : RpA K F vs ds) (nF : F a = none) (nP : P a = none)
    (fr : ∀ (j : Nat) (t : Option Addr) (es : List D), n[j]? = some (Sl.own t es) → σ[j]? ≠ some (some (.ref a))) : IA K P F H (σ.set i (some (.ref a))) (n.set i (Sl.own none ds)) := by
  by_cases hi : i < σ.length
  · exact I.setO1 hi ha r nF nP fr
  · rw [List.set_eq_of_length_le (by omega), List.set_eq_of_length_le (by have := I.ln; omega)]
    exact I
end
end DL

/-! D-layer: expressions. -/
namespace DL
open PySem PySem.Spec PyProof.Rows L2

/-! ### readings over plain data -/
abbrev TEd := En → (D → En → Prop) → Prop
abbrev TTd := En → (Bool → En → Prop) → Prop
abbrev TAd := En → (List D → En → Prop) → Prop
structure Eds where
  nx : En → Prop
  rt : D → En → Prop
  bk : En → Prop := fun _ => False
  ct : En → Prop := fun _ => False
abbrev TSd := Eds → En → Prop

/-- what is assumed of exceptions, at the protected and the frozen part -/
structure Gd where
  p : Hp → Hp → Prop
  m : ∀ {P P' F F' : Hp}, p P F → Same P P' → Gr P F F' → p P' F'
def G0 : Gd := ⟨fun _ _ => True, fun _ _ _ => trivial⟩

def SndE (K : PySem.W.Frag) (G : Gd) (t : TE) (td : TEd) : Prop := ∀ (P F H : Hp) (σ : L2.St) (n : En) (Qd : D → En → Prop) (Q : VK), IA K P F H σ n → G.p P F → td n Qd →
  (∀ d n' v F' H', Qd d n' → IA K P F' H' σ n' → Gr P F F' → Rp K F' v d → Q v H') → t σ H Q
def SndT (K : PySem.W.Frag) (G : Gd) (t : TT) (td : TTd) : Prop := ∀ (P F H : Hp) (σ : L2.St) (n : En) (Qd : Bool → En → Prop) (Q : Bool → Hp → Prop), IA K P F H σ n → G.p P F → td n Qd →
  (∀ b n' F' H', Qd b n' → IA K P F' H' σ n' → Gr P F F' → Q b H') → t σ H Q
def SndA (K : PySem.W.Frag) (G : Gd) (t : TA) (td : TAd) : Prop := ∀ (P F H : Hp) (σ : L2.St) (n : En) (Qd : List D → En → Prop) (Q : List V → Hp → Prop), IA K P F H σ n → G.p P F → td n Qd →
  (∀ ds n' vs F' H', Qd ds n' → IA K P F' H' σ n' → Gr P F F' → RpA K F' vs ds → Q vs H') → t σ H Q
def PEd (X : Cx) (G : Gd) (e : Expr) (td : TEd) : Prop := ∃ t, PE X e t ∧ SndE X.K G t td
def PTd (X : Cx) (G : Gd) (e : Expr) (td : TTd) : Prop := ∃ t, PT X e t ∧ SndT X.K G t td
def PWd (X : Cx) (G : Gd) (e : Expr) (td : TTd) : Prop := ∃ t, PW X e t ∧ SndT X.K G t td
def PAd (X : Cx) (G : Gd) (es : List Expr) (td : TAd) : Prop := ∃ t, PA X es t ∧ SndA X.K G t td
theorem PWd.pt {X : Cx} {G : Gd} {e : Expr} {td : TTd} (h : PWd X G e td) : PTd X G e td := by
  obtain ⟨t, h1, h2⟩ := h
  exact ⟨t, h1.pt, h2⟩

section
variable {X : Cx} {G : Gd} {pos : Pos} {a b c e : Expr} {da db dc td : TEd}

/-! ### names, constants -/
def dVar (i : Nat) : TEd := fun n Q => match n[i]? with
  | some (Sl.val d) => Q d n
  | some (Sl.own _ ds) => Q (.list ds) (n.set i (Sl.val (.list ds)))
  | _ => False
theorem snd_var {K : PySem.W.Frag} {i : Nat} : SndE K G (tVar i) (dVar i) := by
  intro P F H σ n Qd Q I g h q
  unfold dVar at h
  split at h
  · rename_i d e
    obtain ⟨v, h1, h2⟩ := I.vl i d e
    exact ⟨v, h1, q d n v F H h I (Gr.refl P F) h2⟩
  · rename_i t ds e
    obtain ⟨a, F', h1, I', gr, r⟩ := I.frz e
    exact ⟨.ref a, h1, q _ _ _ F' H h I' gr r⟩
  · exact h.elim
theorem pdv (i : Nat) {x : Str} {pos : Pos} (hN : X.N[i]? = some x := by rfl) (hv : Vis X.env.scope x := by first | exact Or.inl rfl | exact Or.inr (Or.inl rfl) | exact Or.inr (Or.inr rfl)) (hd : (x == ("__debug__" : Str)) = false := by decide)
    (hcd : (x == ("__classdict__" : Str)) = false := by decide) : PEd X G (.Name x pos) (dVar i) := ⟨_, pe_var hN hv hd hcd, snd_var⟩
def dC (d : D) : TEd := fun n Q => Q d n
theorem snd_c {K : PySem.W.Frag} {v : V} {d : D} (r : ∀ F, Rp K F v d) : SndE K G (tC v) (dC d) := fun P F H σ n Qd Q I g h q => q d n v F H h I (Gr.refl P F) (r F)
theorem pd_int {i : Int} {j} : PEd X G (.Constant (.int i) j pos) (dC (.int i)) := ⟨_, pe_int, snd_c fun _ => .int i⟩
theorem pd_bl {b : Bool} {j} : PEd X G (.Constant (.bool b) j pos) (dC (.bool b)) := ⟨_, pe_bl, snd_c fun _ => .bl b⟩
theorem pd_non {j} : PEd X G (.Constant .none j pos) (dC .none) := ⟨_, pe_non, snd_c fun _ => .non⟩
theorem pd_str {x : Str} {j} : PEd X G (.Constant (.str x) j pos) (dC (.str x)) := ⟨_, pe_str, snd_c fun _ => .str x⟩
theorem pd_gint {x : Str} {i : Int} (hm : ∃ t, X.mg x = some (.int i t)) (hg : Gl X x := by rfl) (hd : (x == ("__debug__" : Str)) = false := by decide) : PEd X G (.Name x pos) (dC (.int i)) := let ⟨_, hm⟩ := hm; ⟨_, pe_glob (v := .int i) hg hm ⟨_, rfl⟩ hd, snd_c fun _ => .int i⟩
theorem pd_gstr {x : Str} {i : Str} (hm : ∃ t, X.mg x = some (.str i t)) (hg : Gl X x := by rfl) (hd : (x == ("__debug__" : Str)) = false := by decide) : PEd X G (.Name x pos) (dC (.str i)) := let ⟨_, hm⟩ := hm; ⟨_, pe_glob (v := .str i) hg hm ⟨_, rfl⟩ hd, snd_c fun _ => .str i⟩

/-! ### operators -/
abbrev RD2 := D → D → (D → Prop) → Prop
def SndR2 (K : PySem.W.Frag) (r : R2) (rd : RD2) : Prop := ∀ (P F H : Hp) (σ : L2.St) (n : En) (x y : D) (v u : V) (Qd : D → Prop) (Q : VK), IA K P F H σ n → Rp K F v x → Rp K F u y → rd x y Qd →
  (∀ d w F' H', Qd d → IA K P F' H' σ n → Gr P F F' → Rp K F' w d → Q w H') → r v u H Q
def dOp (rd : RD2) (da db : TEd) : TEd := fun n Q => da n fun x n1 => db n1 fun y n2 => rd x y fun z => Q z n2
theorem snd_op {K : PySem.W.Frag} {r : R2} {rd : RD2} {ta tb : TE} (hr : SndR2 K r rd) (ha : SndE K G ta da) (hb : SndE K G tb db) : SndE K G (tOp r ta tb) (dOp rd da db) := by
  intro P F H σ n Qd Q I g h q
  refine ha P F H σ n _ _ I g h fun x n1 v F1 H1 h1 I1 g1 r1 => ?_
  refine hb P F1 H1 σ n1 _ _ I1 (G.m g (Same.refl P) g1) h1 fun y n2 u F2 H2 h2 I2 g2 r2 => ?_
  exact hr P F2 H2 σ n2 x y v u _ _ I2 (Rp.mono g2.s x r1) r2 h2 fun d w F3 H3 h3 I3 g3 r3 => q d n2 w F3 H3 h3 I3 ((g1.trans g2).trans g3) r3
def dUn (rd : D → (D → Prop) → Prop) (da : TEd) : TEd := fun n Q => da n fun x n1 => rd x fun z => Q z n1
def SndR1 (K : PySem.W.Frag) (r : V → Hp → VK → Prop) (rd : D → (D → Prop) → Prop) : Prop := ∀ (P F H : Hp) (σ : L2.St) (n : En) (x : D) (v : V) (Qd : D → Prop) (Q : VK), IA K P F H σ n → Rp K F v x → rd x Qd →
  (∀ d w F' H', Qd d → IA K P F' H' σ n → Gr P F F' → Rp K F' w d → Q w H') → r v H Q
theorem snd_un {K : PySem.W.Frag} {r : V → Hp → VK → Prop} {rd : D → (D → Prop) → Prop} {ta : TE} (hr : SndR1 K r rd) (ha : SndE K G ta da) : SndE K G (tUn r ta) (dUn rd da) := by
  intro P F H σ n Qd Q I g h q
  refine ha P F H σ n _ _ I g h fun x n1 v F1 H1 h1 I1 g1 r1 => ?_
  exact hr P F1 H1 σ n1 x v _ _ I1 r1 h1 fun d w F3 H3 h3 I3 g3 r3 => q d n1 w F3 H3 h3 I3 (g1.trans g3) r3
theorem OpR.or {X : Cx} {f : Value → Value → Sem Value} {r r' : R2} (h : OpR X f r) (h' : OpR X f r') : OpR X f (fun x y H Q => r x y H Q ∨ r' x y H Q) := by
  intro pins s σ H x y v u Q I rx ry q
  rcases q with q | q
  · exact h pins s σ H x y v u Q I rx ry q
  · exact h' pins s σ H x y v u Q I rx ry q
theorem SndR2.or1 {K : PySem.W.Frag} {r r' : R2} {rd : RD2} (h : SndR2 K r rd) : SndR2 K (fun x y H Q => r x y H Q ∨ r' x y H Q) rd := fun P F H σ n x y v u Qd Q I rx ry hq q => .inl (h P F H σ n x y v u Qd Q I rx ry hq q)
theorem SndR2.or2 {K : PySem.W.Frag} {r r' : R2} {rd : RD2} (h : SndR2 K r' rd) : SndR2 K (fun x y H Q => r x y H Q ∨ r' x y H Q) rd := fun P F H σ n x y v u Qd Q I rx ry hq q => .inr (h P F H σ n x y v u Qd Q I rx ry hq q)

/-- + -/
def rdAdd : RD2 := fun x y Q => match x, y with
  | .int i, .int j => Q (.int (i + j))
  | .str s, .str t => s.length + t.length ≤ sizeLine ∧ Q (.str (s ++ t))
  | .list xs, .list ys => xs.length + ys.length ≤ sizeLine ∧ Q (.list (xs ++ ys))
  | _, _ => False
def rAddAll : R2 := fun x y H Q => (rI0 fun i j => .int (i + j)) x y H Q ∨ ((fun x y H Q => ∃ i j, x = .str i ∧ y = .str j ∧ i.length + j.length ≤ sizeLine ∧ Q (.str (i ++ j)) H) : R2) x y H Q ∨ rCat x y H Q
theorem op_addAll : OpR X (binaryOp .Add) rAddAll := OpR.or op_add (OpR.or op_add_str op_cat)
theorem snd_add {K : PySem.W.Frag} : SndR2 K rAddAll rdAdd := by
  intro P F H σ n x y v u Qd Q I rx ry h q
  unfold rdAdd at h
  split at h
  · cases rx; cases ry
    exact .inl ⟨_, _, rfl, rfl, q _ _ F H h I (Gr.refl P F) (.int _)⟩
  · cases rx; cases ry
    exact .inr (.inl ⟨_, _, rfl, rfl, h.1, q _ _ F H h.2 I (Gr.refl P F) (.str _)⟩)
  · cases rx with
    | @lst _ vs _ h1 h2 =>
      cases ry with
      | @lst _ ws _ h3 h4 =>
        refine .inr (.inr ⟨_, _, _, _, rfl, rfl, I.ff _ _ h1, I.ff _ _ h3, by rw [RpA.length h2, RpA.length h4]; exact h.1, fun p hp => ?_⟩)
        have g := I.gnew (o := .lst (vs ++ ws)) hp
        exact q _ _ _ _ h.2 (I.new hp) g (.lst upd_same (RpA.mono g.s _ (RpA.append h2 h4)))
  · exact h.elim
theorem pd_add (ha : PEd X G a da) (hb : PEd X G b db) : PEd X G (.BinOp a .Add b pos) (dOp rdAdd da db) := by
  obtain ⟨ta, h1, h2⟩ := ha
  obtain ⟨tb, h3, h4⟩ := hb
  exact ⟨_, pe_op op_addAll h1 h3, snd_op snd_add h2 h4⟩

def rdI (C : Int → Int → Prop) (g : Int → Int → Int) : RD2 := fun x y Q => match x, y with
  | .int i, .int j => C i j ∧ Q (.int (g i j))
  | _, _ => False
def rdI0 (g : Int → Int → Int) : RD2 := fun x y Q => match x, y with
  | .int i, .int j => Q (.int (g i j))
  | _, _ => False
theorem snd_I {K : PySem.W.Frag} {C : Int → Int → Prop} {g : Int → Int → Int} : SndR2 K (rI C fun i j => .int (g i j)) (rdI C g) := by
  intro P F H σ n x y v u Qd Q I rx ry h q
  unfold rdI at h
  split at h
  · cases rx; cases ry
    exact ⟨_, _, rfl, rfl, h.1, q _ _ F H h.2 I (Gr.refl P F) (.int _)⟩
  · exact h.elim
theorem snd_I0 {K : PySem.W.Frag} {g : Int → Int → Int} : SndR2 K (rI0 fun i j => .int (g i j)) (rdI0 g) := by
  intro P F H σ n x y v u Qd Q I rx ry h q
  unfold rdI0 at h
  split at h
  · cases rx; cases ry
    exact ⟨_, _, rfl, rfl, q _ _ F H h I (Gr.refl P F) (.int _)⟩
  · exact h.elim
/-- a comparison of ints -/
def rdB0 (g : Int → Int → Bool) : RD2 := fun x y Q => match x, y with
  | .int i, .int j => Q (.bool (g i j))
  | _, _ => False
theorem snd_B0 {K : PySem.W.Frag} {g : Int → Int → Bool} : SndR2 K (rI0 fun i j => .bl (g i j)) (rdB0 g) := by
  intro P F H σ n x y v u Qd Q I rx ry h q
  unfold rdB0 at h
  split at h
  · cases rx; cases ry
    exact ⟨_, _, rfl, rfl, q _ _ F H h I (Gr.refl P F) (.bl _)⟩
  · exact h.elim
theorem pd_op {op : Operator} {r : R2} {rd : RD2} (ho : OpR X (binaryOp op) r) (hs : SndR2 X.K r rd) (ha : PEd X G a da) (hb : PEd X G b db) : PEd X G (.BinOp a op b pos) (dOp rd da db) := by
  obtain ⟨ta, h1, h2⟩ := ha
  obtain ⟨tb, h3, h4⟩ := hb
  exact ⟨_, pe_op ho h1 h3, snd_op hs h2 h4⟩
theorem pd_sub (ha : PEd X G a da) (hb : PEd X G b db) : PEd X G (.BinOp a .Sub b pos) (dOp (rdI0 fun i j => i - j) da db) := pd_op op_sub snd_I0 ha hb
def rdNeg (x : D) (Q : D → Prop) : Prop := match x with
  | .int i => Q (.int (-i))
  | _ => False
theorem pd_neg (ha : PEd X G a da) : PEd X G (.UnaryOp .USub a pos) (dUn rdNeg da) := by
  obtain ⟨ta, h1, h2⟩ := ha
  refine ⟨_, pe_un un_neg h1, snd_un (fun P F H σ n x v Qd Q I rx h q => ?_) h2⟩
  cases x with
  | int i => cases rx; exact ⟨i, rfl, q _ _ F H h I (Gr.refl P F) (.int _)⟩
  | _ => exact h.elim

/-! ### comparisons -/
/-- a value's truth answers as a test -/
def dTest (td : TEd) : TTd := fun n Q => td n fun d n1 => match d with
  | .bool b => Q b n1
  | _ => False
theorem snd_test {K : PySem.W.Frag} {t : TE} (h : SndE K G t td) : SndT K G (tTest t) (dTest td) := by
  intro P F H σ n Qd Q I g hd q
  refine h P F H σ n _ _ I g hd fun d n1 v F1 H1 h1 I1 g1 r1 => ?_
  cases d with
  | bool b => cases r1; exact ⟨b, rfl, q b n1 F1 H1 h1 I1 g1⟩
  | _ => exact h1.elim
theorem pd_cmp {op : CmpOp} {r : R2} {rd : RD2} (ho : OpR X (compareOp op) r) (hs : SndR2 X.K r rd) (ha : PEd X G a da) (hb : PEd X G b db) (hm : behindInMarks op b = false) : PEd X G (.Compare a [op] [b] pos) (dOp rd da db) := by
  obtain ⟨ta, h1, h2⟩ := ha
  obtain ⟨tb, h3, h4⟩ := hb
  exact ⟨_, pe_cmpR ho h1 h3 hm, snd_op hs h2 h4⟩
theorem pdt_cmp {op : CmpOp} {r : R2} {rd : RD2} (ho : OpR X (compareOp op) r) (hs : SndR2 X.K r rd) (ha : PEd X G a da) (hb : PEd X G b db) (hm : behindInMarks op b = false) : PTd X G (.Compare a [op] [b] pos) (dTest (dOp rd da db)) := by
  obtain ⟨ta, h1, h2⟩ := ha
  obtain ⟨tb, h3, h4⟩ := hb
  exact ⟨_, pt_cmpR ho h1 h3 hm, snd_test (snd_op hs h2 h4)⟩

/-- == of data -/
def rEqP (K : PySem.W.Frag) : R2 := fun x y H Q => ∃ d e, Dp K H x d ∧ Dp K H y e ∧ d.plain = true ∧ e.plain = true ∧ min d.depth e.depth ≤ 128 ∧ Q (.bl (PyData.eqv d e)) H
def rNeP (K : PySem.W.Frag) : R2 := fun x y H Q => ∃ d e, Dp K H x d ∧ Dp K H y e ∧ d.plain = true ∧ e.plain = true ∧ min d.depth e.depth ≤ 128 ∧ Q (.bl (!PyData.eqv d e)) H
def rdEq : RD2 := fun x y Q => min x.depth y.depth ≤ 128 ∧ Q (.bool (PyData.eqv x y))
def rdNe : RD2 := fun x y Q => min x.depth y.depth ≤ 128 ∧ Q (.bool (!PyData.eqv x y))
theorem snd_eq {K : PySem.W.Frag} : SndR2 K (rEqP K) rdEq := by
  intro P F H σ n x y v u Qd Q I rx ry h q
  exact ⟨x, y, Rp.dp x (Rp.mono I.ff x rx), Rp.dp y (Rp.mono I.ff y ry), Rp.plain x rx, Rp.plain y ry, h.1, q _ _ F H h.2 I (Gr.refl P F) (.bl _)⟩
theorem snd_ne {K : PySem.W.Frag} : SndR2 K (rNeP K) rdNe := by
  intro P F H σ n x y v u Qd Q I rx ry h q
  exact ⟨x, y, Rp.dp x (Rp.mono I.ff x rx), Rp.dp y (Rp.mono I.ff y ry), Rp.plain x rx, Rp.plain y ry, h.1, q _ _ F H h.2 I (Gr.refl P F) (.bl _)⟩
theorem op_eqP (hu : X.A.units + 200 < cLine) : OpR X (compareOp .Eq) (rEqP X.K) := by
  intro pins s σ H x y v u Q I rx ry h
  obtain ⟨d, e, hd, he, pd, pe, dp, q⟩ := h
  obtain ⟨as, r1⟩ := Dp.reads I d x v hd rx
  obtain ⟨bs, r2⟩ := Dp.reads I e y u he ry
  exact SeqAt.eq_plain r1 r2 pd pe (by omega) ⟨.bl _, H, I, rfl, q⟩
theorem op_neP (hu : X.A.units + 200 < cLine) : OpR X (compareOp .NotEq) (rNeP X.K) := by
  intro pins s σ H x y v u Q I rx ry h
  obtain ⟨d, e, hd, he, pd, pe, dp, q⟩ := h
  obtain ⟨as, r1⟩ := Dp.reads I d x v hd rx
  obtain ⟨bs, r2⟩ := Dp.reads I e y u he ry
  exact SeqAt.ne_plain r1 r2 pd pe (by omega) ⟨.bl _, H, I, rfl, q⟩
theorem Room.u2 {k : Nat} {A : Around} (hr : Room k A) : A.units + 200 < cLine := by have := hr.un; omega
theorem pd_eq {k : Nat} (hr : Room k X.A) (ha : PEd X G a da) (hb : PEd X G b db) : PEd X G (.Compare a [.Eq] [b] pos) (dOp rdEq da db) := pd_cmp (op_eqP (Room.u2 hr)) snd_eq ha hb (nomark _)
theorem pd_ne {k : Nat} (hr : Room k X.A) (ha : PEd X G a da) (hb : PEd X G b db) : PEd X G (.Compare a [.NotEq] [b] pos) (dOp rdNe da db) := pd_cmp (op_neP (Room.u2 hr)) snd_ne ha hb (nomark _)
theorem pdt_eq {k : Nat} (hr : Room k X.A) (ha : PEd X G a da) (hb : PEd X G b db) : PTd X G (.Compare a [.Eq] [b] pos) (dTest (dOp rdEq da db)) := pdt_cmp (op_eqP (Room.u2 hr)) snd_eq ha hb (nomark _)
theorem pdt_ne {k : Nat} (hr : Room k X.A) (ha : PEd X G a da) (hb : PEd X G b db) : PTd X G (.Compare a [.NotEq] [b] pos) (dTest (dOp rdNe da db)) := pdt_cmp (op_neP (Room.u2 hr)) snd_ne ha hb (nomark _)
theorem pd_lt (ha : PEd X G a da) (hb : PEd X G b db) : PEd X G (.Compare a [.Lt] [b] pos) (dOp (rdB0 fun i j => decide (i < j)) da db) := pd_cmp op_lt snd_B0 ha hb (nomark _)
theorem pd_le (ha : PEd X G a da) (hb : PEd X G b db) : PEd X G (.Compare a [.LtE] [b] pos) (dOp (rdB0 fun i j => decide (i ≤ j)) da db) := pd_cmp op_le snd_B0 ha hb (nomark _)
theorem pd_gt (ha : PEd X G a da) (hb : PEd X G b db) : PEd X G (.Compare a [.Gt] [b] pos) (dOp (rdB0 fun i j => decide (j < i)) da db) := pd_cmp op_gt snd_B0 ha hb (nomark _)
theorem pd_ge (ha : PEd X G a da) (hb : PEd X G b db) : PEd X G (.Compare a [.GtE] [b] pos) (dOp (rdB0 fun i j => decide (j ≤ i)) da db) := pd_cmp op_ge snd_B0 ha hb (nomark _)
theorem pdt_lt (ha : PEd X G a da) (hb : PEd X G b db) : PTd X G (.Compare a [.Lt] [b] pos) (dTest (dOp (rdB0 fun i j => decide (i < j)) da db)) := pdt_cmp op_lt snd_B0 ha hb (nomark _)
theorem pdt_le (ha : PEd X G a da) (hb : PEd X G b db) : PTd X G (.Compare a [.LtE] [b] pos) (dTest (dOp (rdB0 fun i j => decide (i ≤ j)) da db)) := pdt_cmp op_le snd_B0 ha hb (nomark _)
theorem pdt_gt (ha : PEd X G a da) (hb : PEd X G b db) : PTd X G (.Compare a [.Gt] [b] pos) (dTest (dOp (rdB0 fun i j => decide (j < i)) da db)) := pdt_cmp op_gt snd_B0 ha hb (nomark _)
theorem pdt_ge (ha : PEd X G a da) (hb : PEd X G b db) : PTd X G (.Compare a [.GtE] [b] pos) (dTest (dOp (rdB0 fun i j => decide (j ≤ i)) da db)) := pdt_cmp op_ge snd_B0 ha hb (nomark _)
/-- is None -/
def isNone : D → Bool
  | .none => true
  | _ => false
def rdIsN : RD2 := fun x y Q => match y with
  | .none => Q (.bool (isNone x))
  | _ => False
def rdNotN : RD2 := fun x y Q => match y with
  | .none => Q (.bool (!isNone x))
  | _ => False
theorem isN_of {K : PySem.W.Frag} {F : Hp} {x : D} {v : V} (r : Rp K F v x) : decide (v = .non) = isNone x := by
  cases r <;> simp [isNone]
theorem snd_isN {K : PySem.W.Frag} : SndR2 K (fun x y H Q => y = .non ∧ Q (.bl (decide (x = .non))) H) rdIsN := by
  intro P F H σ n x y v u Qd Q I rx ry h q
  cases y with
  | none => cases ry; exact ⟨rfl, by rw [isN_of rx]; exact q _ _ F H h I (Gr.refl P F) (.bl _)⟩
  | _ => exact h.elim
theorem snd_notN {K : PySem.W.Frag} : SndR2 K (fun x y H Q => y = .non ∧ Q (.bl (!decide (x = .non))) H) rdNotN := by
  intro P F H σ n x y v u Qd Q I rx ry h q
  cases y with
  | none =>
    cases ry
    exact ⟨rfl, by rw [isN_of rx]; exact q _ _ F H h I (Gr.refl P F) (.bl _)⟩
  | _ => exact h.elim
theorem pdt_isN (ha : PEd X G a da) (hb : PEd X G b db) : PTd X G (.Compare a [.Is] [b] pos) (dTest (dOp rdIsN da db)) := pdt_cmp op_isN snd_isN ha hb (nomark _)
theorem pdt_notN (ha : PEd X G a da) (hb : PEd X G b db) : PTd X G (.Compare a [.IsNot] [b] pos) (dTest (dOp rdNotN da db)) := pdt_cmp op_notN snd_notN ha hb (nomark _)
theorem pd_isN (ha : PEd X G a da) (hb : PEd X G b db) : PEd X G (.Compare a [.Is] [b] pos) (dOp rdIsN da db) := pd_cmp op_isN snd_isN ha hb (nomark _)
theorem pd_notN (ha : PEd X G a da) (hb : PEd X G b db) : PEd X G (.Compare a [.IsNot] [b] pos) (dOp rdNotN da db) := pd_cmp op_notN snd_notN ha hb (nomark _)
/-- x in xs, for lists, tuples of data; a sign in a text -/
def rInP (K : PySem.W.Frag) (neg : Bool) : R2 := fun x y H Q => ∃ d e es, Dp K H x d ∧ Dp K H y e ∧ (e = .list es ∨ e = .tuple es) ∧ d.plain = true ∧ PyData.plainAll es = true ∧ min (PyData.depthAll es) d.depth ≤ 128 ∧ Q (.bl (if neg then !(es.any fun y => PyData.eqv y d) else es.any fun y => PyData.eqv y d)) H
theorem op_inP (hu : X.A.units + 200 < cLine) : OpR X (compareOp .In) (rInP X.K false) := by
  intro pins s σ H x y v u Q I rx ry h
  obtain ⟨d, e, es, hd, he, hk, pd, pe, dp, q⟩ := h
  obtain ⟨as, r1⟩ := Dp.reads I d x v hd rx
  obtain ⟨bs, r2⟩ := Dp.reads I e y u he ry
  rcases hk with rfl | rfl
  · exact SeqAt.in_list_data r2 r1 pe pd (by omega) ⟨.bl _, H, I, rfl, q⟩
  · exact SeqAt.in_tuple_data r2 r1 pe pd (by omega) ⟨.bl _, H, I, rfl, q⟩
theorem op_notInP (hu : X.A.units + 200 < cLine) : OpR X (compareOp .NotIn) (rInP X.K true) := by
  intro pins s σ H x y v u Q I rx ry h
  obtain ⟨d, e, es, hd, he, hk, pd, pe, dp, q⟩ := h
  obtain ⟨as, r1⟩ := Dp.reads I d x v hd rx
  obtain ⟨bs, r2⟩ := Dp.reads I e y u he ry
  rcases hk with rfl | rfl
  · exact SeqAt.notIn_list_data r2 r1 pe pd (by omega) ⟨.bl _, H, I, rfl, q⟩
  · exact SeqAt.notIn_tuple_data r2 r1 pe pd (by omega) ⟨.bl _, H, I, rfl, q⟩
def rInSg : R2 := fun x y H Q => ∃ (c : Nat) (z : Str), x = .str ⟨#[c]⟩ ∧ y = .str z ∧ Q (.bl (decide (c ∈ z.cps.toList))) H
def rNotInSg : R2 := fun x y H Q => ∃ (c : Nat) (z : Str), x = .str ⟨#[c]⟩ ∧ y = .str z ∧ Q (.bl (!decide (c ∈ z.cps.toList))) H
def rInAll (K : PySem.W.Frag) : R2 := fun x y H Q => rInP K false x y H Q ∨ rInSg x y H Q
def rNotInAll (K : PySem.W.Frag) : R2 := fun x y H Q => rInP K true x y H Q ∨ rNotInSg x y H Q
def inD (x : D) : List D → Bool := fun es => es.any fun y => PyData.eqv y x
def rdIn (neg : Bool) : RD2 := fun x y Q => match y with
  | .list es => min (PyData.depthAll es) x.depth ≤ 128 ∧ Q (.bool (if neg then !inD x es else inD x es))
  | .tuple es => min (PyData.depthAll es) x.depth ≤ 128 ∧ Q (.bool (if neg then !inD x es else inD x es))
  | .str z => ∃ c, x = .str ⟨#[c]⟩ ∧ Q (.bool (if neg then !decide (c ∈ z.cps.toList) else decide (c ∈ z.cps.toList)))
  | _ => False
theorem snd_inP {K : PySem.W.Frag} : SndR2 K (rInAll K) (rdIn false) := by
  intro P F H σ n x y v u Qd Q I rx ry h q
  unfold rdIn at h
  split at h
  · cases ry with
    | lst h1 h2 => exact .inl ⟨x, _, _, Rp.dp x (Rp.mono I.ff x rx), Rp.dp _ (Rp.mono I.ff _ (.lst h1 h2)), .inl rfl, Rp.plain x rx, RpA.plain _ h2, h.1, q _ _ F H h.2 I (Gr.refl P F) (.bl _)⟩
  · cases ry with
    | tup h1 h2 => exact .inl ⟨x, _, _, Rp.dp x (Rp.mono I.ff x rx), Rp.dp _ (Rp.mono I.ff _ (.tup h1 h2)), .inr rfl, Rp.plain x rx, RpA.plain _ h2, h.1, q _ _ F H h.2 I (Gr.refl P F) (.bl _)⟩
  · obtain ⟨c, rfl, h⟩ := h
    cases rx; cases ry
    exact .inr ⟨c, _, rfl, rfl, q _ _ F H h I (Gr.refl P F) (.bl _)⟩
  · exact h.elim
theorem snd_notInP {K : PySem.W.Frag} : SndR2 K (rNotInAll K) (rdIn true) := by
  intro P F H σ n x y v u Qd Q I rx ry h q
  unfold rdIn at h
  split at h
  · cases ry with
    | lst h1 h2 => exact .inl ⟨x, _, _, Rp.dp x (Rp.mono I.ff x rx), Rp.dp _ (Rp.mono I.ff _ (.lst h1 h2)), .inl rfl, Rp.plain x rx, RpA.plain _ h2, h.1, q _ _ F H h.2 I (Gr.refl P F) (.bl _)⟩
  · cases ry with
    | tup h1 h2 => exact .inl ⟨x, _, _, Rp.dp x (Rp.mono I.ff x rx), Rp.dp _ (Rp.mono I.ff _ (.tup h1 h2)), .inr rfl, Rp.plain x rx, RpA.plain _ h2, h.1, q _ _ F H h.2 I (Gr.refl P F) (.bl _)⟩
  · obtain ⟨c, rfl, h⟩ := h
    cases rx; cases ry
    exact .inr ⟨c, _, rfl, rfl, q _ _ F H h I (Gr.refl P F) (.bl _)⟩
  · exact h.elim
theorem op_inAll (hu : X.A.units + 200 < cLine) : OpR X (compareOp .In) (rInAll X.K) := OpR.or (op_inP hu) op_in_sign
theorem op_notInAll (hu : X.A.units + 200 < cLine) : OpR X (compareOp .NotIn) (rNotInAll X.K) := OpR.or (op_notInP hu) op_notIn_sign
theorem pd_in {k : Nat} (hr : Room k X.A) (ha : PEd X G a da) (hb : PEd X G b db) (hm : behindInMarks .In b = false := by with_unfolding_all rfl) : PEd X G (.Compare a [.In] [b] pos) (dOp (rdIn false) da db) := pd_cmp (op_inAll (Room.u2 hr)) snd_inP ha hb hm
theorem pd_notIn {k : Nat} (hr : Room k X.A) (ha : PEd X G a da) (hb : PEd X G b db) (hm : behindInMarks .NotIn b = false := by with_unfolding_all rfl) : PEd X G (.Compare a [.NotIn] [b] pos) (dOp (rdIn true) da db) := pd_cmp (op_notInAll (Room.u2 hr)) snd_notInP ha hb hm
theorem pdt_in {k : Nat} (hr : Room k X.A) (ha : PEd X G a da) (hb : PEd X G b db) (hm : behindInMarks .In b = false := by with_unfolding_all rfl) : PTd X G (.Compare a [.In] [b] pos) (dTest (dOp (rdIn false) da db)) := pdt_cmp (op_inAll (Room.u2 hr)) snd_inP ha hb hm
theorem pdt_notIn {k : Nat} (hr : Room k X.A) (ha : PEd X G a da) (hb : PEd X G b db) (hm : behindInMarks .NotIn b = false := by with_unfolding_all rfl) : PTd X G (.Compare a [.NotIn] [b] pos) (dTest (dOp (rdIn true) da db)) := pdt_cmp (op_notInAll (Room.u2 hr)) snd_notInP ha hb hm

/-- a op b op c -/
def dChain (rd rd' : RD2) (da db dc : TEd) : TEd := fun n Q => da n fun x n1 => db n1 fun y n2 => rd x y fun z => match z with
  | .bool true => dc n2 fun w n3 => rd' y w fun z' => Q z' n3
  | .bool false => Q (.bool false) n2
  | _ => False
theorem snd_chain {K : PySem.W.Frag} {r r' : R2} {rd rd' : RD2} {ta tb tc : TE} (hr : SndR2 K r rd) (hr' : SndR2 K r' rd') (ha : SndE K G ta da) (hb : SndE K G tb db) (hc : SndE K G tc dc) : SndE K G (tChain r r' ta tb tc) (dChain rd rd' da db dc) := by
  intro P F H σ n Qd Q I g h q
  refine ha P F H σ n _ _ I g h fun x n1 v F1 H1 h1 I1 g1 r1 => ?_
  refine hb P F1 H1 σ n1 _ _ I1 (G.m g (Same.refl P) g1) h1 fun y n2 u F2 H2 h2 I2 g2 r2 => ?_
  refine hr P F2 H2 σ n2 x y v u _ _ I2 (Rp.mono g2.s x r1) r2 h2 fun d w F3 H3 h3 I3 g3 r3 => ?_
  have g123 := (g1.trans g2).trans g3
  cases d with
  | bool b =>
    cases r3
    refine ⟨b, rfl, ?_⟩
    cases b with
    | true =>
      rw [if_pos rfl]
      refine hc P F3 H3 σ n2 _ _ I3 (G.m g (Same.refl P) g123) h3 fun z n3 w4 F4 H4 h4 I4 g4 r4 => ?_
      exact hr' P F4 H4 σ n3 y z u w4 _ _ I4 (Rp.mono (g3.trans g4).s y r2) r4 h4 fun d w F5 H5 h5 I5 g5 r5 => q d n3 w F5 H5 h5 I5 ((g123.trans g4).trans g5) r5
    | false =>
      rw [if_neg Bool.false_ne_true]
      exact q _ n2 _ F3 H3 h3 I3 g123 (.bl _)
  | _ => exact h3.elim
theorem pd_chain {op op' : CmpOp} {r r' : R2} {rd rd' : RD2} (ho : OpR X (compareOp op) r) (ho' : OpR X (compareOp op') r') (hs : SndR2 X.K r rd) (hs' : SndR2 X.K r' rd') (ha : PEd X G a da) (hb : PEd X G b db) (hc : PEd X G c dc)
    (hm : lastMarks [op, op'] [b, c] = false := by with_unfolding_all rfl) : PEd X G (.Compare a [op, op'] [b, c] pos) (dChain rd rd' da db dc) := by
  obtain ⟨ta, h1, h2⟩ := ha
  obtain ⟨tb, h3, h4⟩ := hb
  obtain ⟨tc, h5, h6⟩ := hc
  exact ⟨_, pe_chain ho ho' h1 h3 h5 hm, snd_chain hs hs' h2 h4 h6⟩
theorem pdt_chain {op op' : CmpOp} {r r' : R2} {rd rd' : RD2} (ho : OpR X (compareOp op) r) (ho' : OpR X (compareOp op') r') (hs : SndR2 X.K r rd) (hs' : SndR2 X.K r' rd') (ha : PEd X G a da) (hb : PEd X G b db) (hc : PEd X G c dc)
    (hm : lastMarks [op, op'] [b, c] = false := by with_unfolding_all rfl) : PTd X G (.Compare a [op, op'] [b, c] pos) (dTest (dChain rd rd' da db dc)) := by
  obtain ⟨ta, h1, h2⟩ := ha
  obtain ⟨tb, h3, h4⟩ := hb
  obtain ⟨tc, h5, h6⟩ := hc
  exact ⟨_, pt_chain ho ho' h1 h3 h5 hm, snd_test (snd_chain hs hs' h2 h4 h6)⟩

/-! ### truth, and, or, not, if -/
def truD (d : D) (Q : Bool → Prop) : Prop := match d with
  | .none => Q false
  | .bool b => Q b
  | .int i => Q (i != 0)
  | .str s => s.length ≤ sizeLine ∧ Q ((s.length : Int) != 0)
  | .list xs => Q (!xs.isEmpty)
  | .tuple xs => Q (!xs.isEmpty)
  | .dict _ => False
def dTru (td : TEd) : TTd := fun n Q => td n fun d n1 => truD d fun b => Q b n1
theorem RpA.isEmpty {K : PySem.W.Frag} {F : Hp} {vs : List V} {ds : List D} (h : RpA K F vs ds) : vs.isEmpty = ds.isEmpty := by
  cases h <;> rfl
theorem pdt_tru (ha : PEd X G a da) (he : ∀ whole, isTrue a X.env whole = (do let v ← whole; standAt a.pos; holding [v] (truthy v)) := by intro _; rfl) : PTd X G a (dTru da) := by
  obtain ⟨ta, h1, h2⟩ := ha
  refine ⟨_, pt_truth h1 he, ?_⟩
  intro P F H σ n Qd Q I g h q
  refine h2 P F H σ n _ _ I g h fun d n1 v F1 H1 h1 I1 g1 r1 => ?_
  cases d with
  | none => cases r1; exact ⟨_, rfl, q _ n1 F1 H1 h1 I1 g1⟩
  | bool b => cases r1; exact ⟨_, rfl, q _ n1 F1 H1 h1 I1 g1⟩
  | int i => cases r1; exact ⟨_, rfl, q _ n1 F1 H1 h1 I1 g1⟩
  | str s => cases r1; exact ⟨_, ⟨h1.1, rfl⟩, q _ n1 F1 H1 h1.2 I1 g1⟩
  | list xs =>
    cases r1 with
    | lst e1 e2 => exact ⟨_, .inl ⟨_, .of (I1.ff _ _ e1), rfl⟩, q _ n1 F1 H1 (by rw [RpA.isEmpty e2]; exact h1) I1 g1⟩
  | tuple xs =>
    cases r1 with
    | tup e1 e2 => exact ⟨_, .inr (.inl ⟨_, sm_seqT I1.ff e1, rfl⟩), q _ n1 F1 H1 (by rw [RpA.isEmpty e2]; exact h1) I1 g1⟩
  | dict _ => exact h1.elim
theorem snd_B {K : PySem.W.Frag} {t : TE} (h : SndE K G t td) : SndT K G (tB t) (dTest td) := by
  intro P F H σ n Qd Q I g hd q
  refine h P F H σ n _ _ I g hd fun d n1 v F1 H1 h1 I1 g1 r1 => ?_
  cases d with
  | bool b => cases r1; exact ⟨b, rfl, q b n1 F1 H1 h1 I1 g1⟩
  | _ => exact h1.elim
theorem pdt_val (ha : PEd X G e td) (he : ∀ whole, isTrue e X.env whole = (do let v ← whole; standAt e.pos; holding [v] (truthy v)) := by intro _; rfl) : PTd X G e (dTest td) := by
  obtain ⟨ta, h1, h2⟩ := ha
  exact ⟨_, pt_val h1 he, snd_B h2⟩
variable {A B C : TTd} {rest : List Expr}
def dAnd (A B : TTd) : TTd := fun n Q => A n fun c n1 => if c = true then B n1 Q else Q false n1
def dOr (A B : TTd) : TTd := fun n Q => A n fun c n1 => if c = true then Q true n1 else B n1 Q
def dNot (A : TTd) : TTd := fun n Q => A n fun c n1 => Q (!c) n1
theorem snd_and {K : PySem.W.Frag} {t u : TT} (ha : SndT K G t A) (hb : SndT K G u B) : SndT K G (tAnd t u) (dAnd A B) := by
  intro P F H σ n Qd Q I g h q
  refine ha P F H σ n _ _ I g h fun b n1 F1 H1 h1 I1 g1 => ?_
  cases b with
  | true =>
    rw [if_pos rfl] at h1 ⊢
    exact hb P F1 H1 σ n1 _ _ I1 (G.m g (Same.refl P) g1) h1 fun b n2 F2 H2 h2 I2 g2 => q b n2 F2 H2 h2 I2 (g1.trans g2)
  | false =>
    rw [if_neg Bool.false_ne_true] at h1 ⊢
    exact q _ n1 F1 H1 h1 I1 g1
theorem snd_or {K : PySem.W.Frag} {t u : TT} (ha : SndT K G t A) (hb : SndT K G u B) : SndT K G (tOr t u) (dOr A B) := by
  intro P F H σ n Qd Q I g h q
  refine ha P F H σ n _ _ I g h fun b n1 F1 H1 h1 I1 g1 => ?_
  cases b with
  | true =>
    rw [if_pos rfl] at h1 ⊢
    exact q _ n1 F1 H1 h1 I1 g1
  | false =>
    rw [if_neg Bool.false_ne_true] at h1 ⊢
    exact hb P F1 H1 σ n1 _ _ I1 (G.m g (Same.refl P) g1) h1 fun b n2 F2 H2 h2 I2 g2 => q b n2 F2 H2 h2 I2 (g1.trans g2)
theorem snd_not {K : PySem.W.Frag} {t : TT} (ha : SndT K G t A) : SndT K G (tNot t) (dNot A) := by
  intro P F H σ n Qd Q I g h q
  exact ha P F H σ n _ _ I g h fun b n1 F1 H1 h1 I1 g1 => q _ n1 F1 H1 h1 I1 g1
theorem pdw_and1 (ha : PTd X G a A) : PWd X G (.BoolOp .And [a] pos) A := by
  obtain ⟨t, h1, h2⟩ := ha
  exact ⟨_, pw_and1 h1, h2⟩
theorem pdw_or1 (ha : PTd X G a A) : PWd X G (.BoolOp .Or [a] pos) A := by
  obtain ⟨t, h1, h2⟩ := ha
  exact ⟨_, pw_or1 h1, h2⟩
theorem pdw_and (ha : PTd X G a A) (hb : PWd X G (.BoolOp .And (b :: rest) pos) B) : PWd X G (.BoolOp .And (a :: b :: rest) pos) (dAnd A B) := by
  obtain ⟨t, h1, h2⟩ := ha
  obtain ⟨u, h3, h4⟩ := hb
  exact ⟨_, pw_and h1 h3, snd_and h2 h4⟩
theorem pdw_or (ha : PTd X G a A) (hb : PWd X G (.BoolOp .Or (b :: rest) pos) B) : PWd X G (.BoolOp .Or (a :: b :: rest) pos) (dOr A B) := by
  obtain ⟨t, h1, h2⟩ := ha
  obtain ⟨u, h3, h4⟩ := hb
  exact ⟨_, pw_or h1 h3, snd_or h2 h4⟩
theorem pdt_not (ha : PTd X G a A) : PTd X G (.UnaryOp .Not a pos) (dNot A) := by
  obtain ⟨t, h1, h2⟩ := ha
  exact ⟨_, pt_not h1, snd_not h2⟩
/-- and, or of truth values, as values -/
def dAndV (da db : TEd) : TEd := fun n Q => da n fun x n1 => match x with
  | .bool true => db n1 Q
  | .bool false => Q (.bool false) n1
  | _ => False
def dOrV (da db : TEd) : TEd := fun n Q => da n fun x n1 => match x with
  | .bool true => Q (.bool true) n1
  | .bool false => db n1 Q
  | _ => False
def dNotV (da : TEd) : TEd := fun n Q => da n fun x n1 => match x with
  | .bool b => Q (.bool (!b)) n1
  | _ => False
theorem pd_one {op} (ha : PEd X G a da) : PEd X G (.BoolOp op [a] pos) da := by
  obtain ⟨t, h1, h2⟩ := ha
  exact ⟨_, pe_one h1, h2⟩
theorem pd_and (ha : PEd X G a da) (hb : PEd X G (.BoolOp .And (b :: rest) pos) db) : PEd X G (.BoolOp .And (a :: b :: rest) pos) (dAndV da db) := by
  obtain ⟨t, h1, h2⟩ := ha
  obtain ⟨u, h3, h4⟩ := hb
  refine ⟨_, pe_and h1 h3, ?_⟩
  intro P F H σ n Qd Q I g h q
  refine h2 P F H σ n _ _ I g h fun d n1 v F1 H1 h1 I1 g1 r1 => ?_
  cases d with
  | bool b =>
    cases r1
    refine ⟨b, rfl, ?_⟩
    cases b with
    | true =>
      rw [if_pos rfl]
      exact h4 P F1 H1 σ n1 _ _ I1 (G.m g (Same.refl P) g1) h1 fun d n2 w F2 H2 h2 I2 g2 r2 => q d n2 w F2 H2 h2 I2 (g1.trans g2) r2
    | false =>
      rw [if_neg Bool.false_ne_true]
      exact q _ n1 _ F1 H1 h1 I1 g1 (.bl _)
  | _ => exact h1.elim
theorem pd_or (ha : PEd X G a da) (hb : PEd X G (.BoolOp .Or (b :: rest) pos) db) : PEd X G (.BoolOp .Or (a :: b :: rest) pos) (dOrV da db) := by
  obtain ⟨t, h1, h2⟩ := ha
  obtain ⟨u, h3, h4⟩ := hb
  refine ⟨_, pe_or h1 h3, ?_⟩
  intro P F H σ n Qd Q I g h q
  refine h2 P F H σ n _ _ I g h fun d n1 v F1 H1 h1 I1 g1 r1 => ?_
  cases d with
  | bool b =>
    cases r1
    refine ⟨b, rfl, ?_⟩
    cases b with
    | true =>
      rw [if_pos rfl]
      exact q _ n1 _ F1 H1 h1 I1 g1 (.bl _)
    | false =>
      rw [if_neg Bool.false_ne_true]
      exact h4 P F1 H1 σ n1 _ _ I1 (G.m g (Same.refl P) g1) h1 fun d n2 w F2 H2 h2 I2 g2 r2 => q d n2 w F2 H2 h2 I2 (g1.trans g2) r2
  | _ => exact h1.elim
theorem pd_not (ha : PEd X G a da) : PEd X G (.UnaryOp .Not a pos) (dNotV da) := by
  obtain ⟨t, h1, h2⟩ := ha
  refine ⟨_, pe_not h1, ?_⟩
  intro P F H σ n Qd Q I g h q
  refine h2 P F H σ n _ _ I g h fun d n1 v F1 H1 h1 I1 g1 r1 => ?_
  cases d with
  | bool b => cases r1; exact ⟨b, rfl, q _ n1 _ F1 H1 h1 I1 g1 (.bl _)⟩
  | _ => exact h1.elim
def dIf (A : TTd) (da db : TEd) : TEd := fun n Q => A n fun c n1 => if c = true then da n1 Q else db n1 Q
theorem pd_if (hc : PTd X G c A) (ha : PEd X G a da) (hb : PEd X G b db) : PEd X G (.IfExp c a b pos) (dIf A da db) := by
  obtain ⟨t, h1, h2⟩ := hc
  obtain ⟨u, h3, h4⟩ := ha
  obtain ⟨w, h5, h6⟩ := hb
  refine ⟨_, pe_ifExp h1 h3 h5, ?_⟩
  intro P F H σ n Qd Q I g h q
  refine h2 P F H σ n _ _ I g h fun b n1 F1 H1 h1 I1 g1 => ?_
  cases b with
  | true =>
    rw [if_pos rfl] at h1 ⊢
    exact h4 P F1 H1 σ n1 _ _ I1 (G.m g (Same.refl P) g1) h1 fun d n2 w F2 H2 h2 I2 g2 r2 => q d n2 w F2 H2 h2 I2 (g1.trans g2) r2
  | false =>
    rw [if_neg Bool.false_ne_true] at h1 ⊢
    exact h6 P F1 H1 σ n1 _ _ I1 (G.m g (Same.refl P) g1) h1 fun d n2 w F2 H2 h2 I2 g2 r2 => q d n2 w F2 H2 h2 I2 (g1.trans g2) r2

/-! ### argument lists, displays -/
variable {es : List Expr} {dt : TAd}
def dNil : TAd := fun n Q => Q [] n
def dCons (da : TEd) (dt : TAd) : TAd := fun n Q => da n fun d n1 => dt n1 fun ds n2 => Q (d :: ds) n2
theorem pad_nil : PAd X G [] dNil := ⟨_, pa_nil, fun P F H σ n Qd Q I g h q => q [] n [] F H h I (Gr.refl P F) .nil⟩
theorem snd_cons {K : PySem.W.Frag} {t : TE} {u : TA} (ha : SndE K G t da) (hb : SndA K G u dt) : SndA K G (tCons t u) (dCons da dt) := by
  intro P F H σ n Qd Q I g h q
  refine ha P F H σ n _ _ I g h fun d n1 v F1 H1 h1 I1 g1 r1 => ?_
  exact hb P F1 H1 σ n1 _ _ I1 (G.m g (Same.refl P) g1) h1 fun ds n2 vs F2 H2 h2 I2 g2 r2 => q _ n2 _ F2 H2 h2 I2 (g1.trans g2) (.cons (Rp.mono g2.s d r1) r2)
theorem pad_cons (ha : PEd X G e da) (hb : PAd X G es dt) (hs : starEach (e :: es) X.env = (false, eval e X.env) :: starEach es X.env := by rfl) : PAd X G (e :: es) (dCons da dt) := by
  obtain ⟨t, h1, h2⟩ := ha
  obtain ⟨u, h3, h4⟩ := hb
  exact ⟨_, pa_cons h1 h3 hs, snd_cons h2 h4⟩
def dTup (dt : TAd) : TEd := fun n Q => dt n fun ds n1 => ds.length ≤ sizeLine ∧ Q (.tuple ds) n1
def dLst (dt : TAd) : TEd := fun n Q => dt n fun ds n1 => ds.length ≤ sizeLine ∧ Q (.list ds) n1
theorem pd_tup {x1} (h : PAd X G es dt) : PEd X G (.Tuple es x1 pos) (dTup dt) := by
  obtain ⟨t, h1, h2⟩ := h
  refine ⟨_, pe_tup h1, ?_⟩
  intro P F H σ n Qd Q I g h q
  refine h2 P F H σ n _ _ I g h fun ds n1 vs F1 H1 h1 I1 g1 r1 => ⟨by rw [RpA.length r1]; exact h1.1, fun p hp => ?_⟩
  have gn := I1.gnew (o := .tup vs) hp
  exact q _ n1 _ _ _ h1.2 (I1.new hp) (g1.trans gn) (.tup (.of upd_same) (RpA.mono gn.s _ r1))
/-- a new list that nothing else holds yet -/
def SndN (K : PySem.W.Frag) (G : Gd) (t : TE) (td : TAd) : Prop := ∀ (P F H : Hp) (σ : L2.St) (n : En) (Qd : List D → En → Prop) (Q : VK), IA K P F H σ n → G.p P F → td n Qd →
  (∀ ds n' a vs F' H', Qd ds n' → IA K P F' H' σ n' → Gr P F F' → H' a = some (.lst vs) → RpA K F' vs ds → F' a = none → P a = none → (∀ (j : Nat) (t : Option Addr) (es : List D), n'[j]? = some (Sl.own t es) → σ[j]? ≠ some (some (.ref a))) → Q (.ref a) H') → t σ H Q
def PNd (X : Cx) (G : Gd) (e : Expr) (td : TAd) : Prop := ∃ t, PE X e t ∧ SndN X.K G t td
theorem IA.frzNew {K : PySem.W.Frag} {P F H : Hp} {σ : L2.St} {n : En} (I : IA K P F H σ n) {a : Addr} {vs : List V} {ds : List D} (e : H a = some (.lst vs)) (r : RpA K F vs ds) (nF : F a = none) (nP : P a = none) (fr : ∀ (j : Nat) (t : Option Addr) (es : List D), n[j]? = some (Sl.own t es) → σ[j]? ≠ some (some (.ref a))) :
    IA K P (upd F a (.lst vs)) H σ n ∧ Gr P F (upd F a (.lst vs)) ∧ Rp K (upd F a (.lst vs)) (.ref a) (.list ds) := by
  have g : Gr P F (upd F a (.lst vs)) := Gr.new nF nP
  refine ⟨⟨I.pf, sm_updI I.ff e, fun i d h => ?_, fun i t es h => ?_, I.dj, I.ln, I.rw⟩, g, .lst upd_same (RpA.mono g.s ds r)⟩
  · obtain ⟨v, h1, h2⟩ := I.vl i d h
    exact ⟨v, h1, Rp.mono g.s d h2⟩
  · obtain ⟨b, h1, ⟨ws, h2, h3⟩, h4, h5, h6⟩ := I.ow i t es h
    refine ⟨b, h1, ⟨ws, h2, RpA.mono g.s es h3⟩, ?_, h5, h6⟩
    rw [upd_ne (fun z => by subst z; exact fr i t es h h1)]
    exact h4
def dFrz (dt : TAd) : TEd := fun n Q => dt n fun ds n1 => Q (.list ds) n1
theorem PNd.frz (h : PNd X G e dt) : PEd X G e (dFrz dt) := by
  obtain ⟨t, h1, h2⟩ := h
  refine ⟨t, h1, ?_⟩
  intro P F H σ n Qd Q I g h q
  refine h2 P F H σ n _ _ I g h fun ds n1 a vs F1 H1 h1 I1 g1 e r nF nP fr => ?_
  obtain ⟨I2, g2, r2⟩ := I1.frzNew e r nF nP fr
  exact q _ n1 _ _ _ h1 I2 (g1.trans g2) r2
theorem IA.ownNe {K : PySem.W.Frag} {P F H : Hp} {σ : L2.St} {n : En} (I : IA K P F H σ n) {p : Addr} (hp : H p = none) {o : HO} : ∀ (j : Nat) (t : Option Addr) (es : List D), n[j]? = some (Sl.own t es) → σ[j]? ≠ some (some (.ref p)) := fun j t es e z => by
  obtain ⟨b, h1, ⟨ws, h2, h3⟩, h4, h5, h6⟩ := I.ow j t es e
  rw [h1] at z
  cases z
  rw [hp] at h2
  cases h2
def dNewL (dt : TAd) : TAd := fun n Q => dt n fun ds n1 => ds.length ≤ sizeLine ∧ Q ds n1
theorem pn_lst (h : PAd X G es dt) : PNd X G (.List es pos) (dNewL dt) := by
  obtain ⟨t, h1, h2⟩ := h
  refine ⟨_, pe_lst h1, ?_⟩
  intro P F H σ n Qd Q I g h q
  refine h2 P F H σ n _ _ I g h fun ds n1 vs F1 H1 h1 I1 g1 r1 => ⟨by rw [RpA.length r1]; exact h1.1, fun p hp => ?_⟩
  exact q _ n1 _ _ _ _ h1.2 (I1.newU hp) g1 upd_same r1 (I1.nF hp) (I1.nP hp) (I1.ownNe (o := .lst vs) hp)
theorem pd_lst (h : PAd X G es dt) : PEd X G (.List es pos) (dFrz (dNewL dt)) := (pn_lst h).frz
end
end DL

/-! D-layer: statements, loops, comprehensions. -/
namespace DL
open PySem PySem.Spec PyProof.Rows L2

structure EdOk (K : PySem.W.Frag) (P F : Hp) (Dd : Eds) (Dn : Ends) : Prop where
  nx : ∀ n' σ' F' H', Dd.nx n' → IA K P F' H' σ' n' → Gr P F F' → Dn.nx σ' H'
  rt : ∀ d n' σ' v F' H', Dd.rt d n' → IA K P F' H' σ' n' → Gr P F F' → Rp K F' v d → Dn.rt v H'
  bk : ∀ n' σ' F' H', Dd.bk n' → IA K P F' H' σ' n' → Gr P F F' → Dn.bk σ' H'
  ct : ∀ n' σ' F' H', Dd.ct n' → IA K P F' H' σ' n' → Gr P F F' → Dn.ct σ' H'
theorem EdOk.gr {K : PySem.W.Frag} {P F F1 : Hp} {Dd : Eds} {Dn : Ends} (h : EdOk K P F Dd Dn) (g : Gr P F F1) : EdOk K P F1 Dd Dn :=
  ⟨fun n' σ' F' H' a b c => h.nx n' σ' F' H' a b (g.trans c), fun d n' σ' v F' H' a b c => h.rt d n' σ' v F' H' a b (g.trans c), fun n' σ' F' H' a b c => h.bk n' σ' F' H' a b (g.trans c), fun n' σ' F' H' a b c => h.ct n' σ' F' H' a b (g.trans c)⟩
def SndS (K : PySem.W.Frag) (G : Gd) (t : TS) (td : TSd) : Prop := ∀ (P F H : Hp) (σ : L2.St) (n : En) (Dd : Eds) (Dn : Ends), IA K P F H σ n → G.p P F → td Dd n → EdOk K P F Dd Dn → t Dn σ H
def PSd (X : Cx) (G : Gd) (st : Stmt) (td : TSd) : Prop := ∃ t, PS X st t ∧ SndS X.K G t td
def PSsd (X : Cx) (G : Gd) (st : List Stmt) (td : TSd) : Prop := ∃ t, PSs X st t ∧ SndS X.K G t td

section
variable {X : Cx} {G : Gd} {pos : Pos} {e : Expr} {st : Stmt} {rest : List Stmt} {td ud : TSd} {de : TEd} {dt : TAd}
def dNext : TSd := fun D n => D.nx n
def dSeq (td ud : TSd) : TSd := fun D n => td { D with nx := ud D } n
theorem psd_nil : PSsd X G [] dNext := ⟨_, pss_nil, fun P F H σ n Dd Dn I g h q => q.nx n σ F H h I (Gr.refl P F)⟩
theorem snd_seq {K : PySem.W.Frag} {t u : TS} (h1 : SndS K G t td) (h2 : SndS K G u ud) : SndS K G (tSeq t u) (dSeq td ud) := by
  intro P F H σ n Dd Dn I g h q
  exact h1 P F H σ n { Dd with nx := ud Dd } _ I g h ⟨fun n' σ' F' H' a b c => h2 P F' H' σ' n' Dd Dn b (G.m g (Same.refl P) c) a (q.gr c), q.rt, q.bk, q.ct⟩
theorem psd_cons (h1 : PSd X G st td) (h2 : PSsd X G rest ud) : PSsd X G (st :: rest) (dSeq td ud) := by
  obtain ⟨t, a, b⟩ := h1
  obtain ⟨u, c, d⟩ := h2
  exact ⟨_, pss_cons a c, snd_seq b d⟩
theorem psd_one (h1 : PSd X G st td) : PSsd X G [st] td := by
  obtain ⟨t, a, b⟩ := h1
  exact ⟨_, pss_one a, b⟩
theorem psd_pass : PSd X G (.Pass pos) dNext := ⟨_, ps_pass, fun P F H σ n Dd Dn I g h q => q.nx n σ F H h I (Gr.refl P F)⟩
def dBreak : TSd := fun D n => D.bk n
def dCont : TSd := fun D n => D.ct n
theorem psd_break : PSd X G (.Break pos) dBreak := ⟨_, ps_break, fun P F H σ n Dd Dn I g h q => q.bk n σ F H h I (Gr.refl P F)⟩
theorem psd_cont : PSd X G (.Continue pos) dCont := ⟨_, ps_continue, fun P F H σ n Dd Dn I g h q => q.ct n σ F H h I (Gr.refl P F)⟩
def dNever : TSd := fun _ _ => False
theorem psd_never : PSd X G st dNever := ⟨_, ps_never, fun P F H σ n Dd Dn I g h q => h.elim⟩
theorem pssd_never : PSsd X G rest dNever := ⟨_, pss_never, fun P F H σ n Dd Dn I g h q => h.elim⟩
def dRet (de : TEd) : TSd := fun D n => de n D.rt
theorem psd_ret (h : PEd X G e de) : PSd X G (.Return (some e) pos) (dRet de) := by
  obtain ⟨t, a, b⟩ := h
  exact ⟨_, ps_ret a, fun P F H σ n Dd Dn I g h q => b P F H σ n _ _ I g h fun d n' v F' H' h1 I1 g1 r1 => q.rt d n' σ v F' H' h1 I1 g1 r1⟩
def dRetN : TSd := fun D n => D.rt .none n
theorem psd_retN : PSd X G (.Return none pos) dRetN := ⟨_, ps_retN, fun P F H σ n Dd Dn I g h q => q.rt _ n σ _ F H h I (Gr.refl P F) .non⟩
def dDrop (de : TEd) : TSd := fun D n => de n fun _ n1 => D.nx n1
theorem psd_expr (h : PEd X G e de) (hs : swapsWith e none pos.line X.env = pure false := by rfl) : PSd X G (.Expr e pos) (dDrop de) := by
  obtain ⟨t, a, b⟩ := h
  exact ⟨_, ps_expr a hs, fun P F H σ n Dd Dn I g h q => b P F H σ n _ _ I g h fun d n' v F' H' h1 I1 g1 r1 => q.nx n' σ F' H' h1 I1 g1⟩
def dIfS (A : TTd) (td ud : TSd) : TSd := fun D n => A n fun b n1 => if b = true then td D n1 else ud D n1
theorem psd_if {c : Expr} {a b : List Stmt} {A : TTd} (hc : PTd X G c A) (h1 : PSsd X G a td) (h2 : PSsd X G b ud) : PSd X G (.If c a b pos) (dIfS A td ud) := by
  obtain ⟨tc, a1, b1⟩ := hc
  obtain ⟨t, a2, b2⟩ := h1
  obtain ⟨u, a3, b3⟩ := h2
  refine ⟨_, ps_if a1 a2 a3, ?_⟩
  intro P F H σ n Dd Dn I g h q
  refine b1 P F H σ n _ _ I g h fun b n1 F1 H1 h1 I1 g1 => ?_
  cases b with
  | true =>
    rw [if_pos rfl] at h1 ⊢
    exact b2 P F1 H1 σ n1 _ _ I1 (G.m g (Same.refl P) g1) h1 (q.gr g1)
  | false =>
    rw [if_neg Bool.false_ne_true] at h1 ⊢
    exact b3 P F1 H1 σ n1 _ _ I1 (G.m g (Same.refl P) g1) h1 (q.gr g1)

/-! ### targets -/
abbrev TGd := D → En → (En → Prop) → Prop
abbrev TGsd := List D → En → (En → Prop) → Prop
/-- a target of names: the slots at js change -/
def SndG (K : PySem.W.Frag) (js : List Nat) (g : TG) (gd : TGd) : Prop := ∀ (P F H : Hp) (σ : L2.St) (n : En) (d : D) (v : V) (Qd : En → Prop) (Q : L2.St → Hp → Prop), IA K P F H σ n → Rp K F v d → gd d n Qd →
  (∀ n' σ', Qd n' → IA K P F H σ' n' → (∀ j, j ∉ js → σ'[j]? = σ[j]?) → σ'.length = σ.length → Q σ' H) → g v σ H Q
def SndGs (K : PySem.W.Frag) (js : List Nat) (g : TGs) (gd : TGsd) : Prop := ∀ (P F H : Hp) (σ : L2.St) (n : En) (d : List D) (v : List V) (Qd : En → Prop) (Q : L2.St → Hp → Prop), IA K P F H σ n → RpA K F v d → gd d n Qd →
  (∀ n' σ', Qd n' → IA K P F H σ' n' → (∀ j, j ∉ js → σ'[j]? = σ[j]?) → σ'.length = σ.length → Q σ' H) → g v σ H Q
def PGd (X : Cx) (js : List Nat) (e : Expr) (gd : TGd) : Prop := ∃ g, PG X e g ∧ SndG X.K js g gd
def PGsd (X : Cx) (js : List Nat) (es : List Expr) (gd : TGsd) : Prop := ∃ g, PGs X es g ∧ SndGs X.K js g gd
def gdName (i : Nat) : TGd := fun d n Q => Q (n.set i (Sl.val d))
theorem pgd_name (i : Nat) {x : Str} (hN : X.N.Nodup) (hi : X.N[i]? = some x := by rfl) (hx : Loc X.env.scope x := by first | exact Or.inl rfl | exact Or.inr rfl) (hf : X.fn x = true ∨ X.env.scope.names.lookup x = some .local := by first | exact .inl rfl | exact .inr rfl) : PGd X [i] (.Name x pos) (gdName i) := by
  refine ⟨_, pg_name hN hi hx hf, ?_⟩
  intro P F H σ n d v Qd Q I r h q
  refine q _ _ h (I.set r) (fun j hj => ?_) (List.length_set)
  exact set_ne' (by simpa using hj)
def gdNil : TGsd := fun ds n Q => ds = [] ∧ Q n
def gdCons (g : TGd) (gs : TGsd) : TGsd := fun ds n Q => match ds with
  | d :: r => g d n fun n1 => gs r n1 Q
  | [] => False
theorem pgsd_nil : PGsd X [] [] gdNil := by
  refine ⟨_, pgs_nil, ?_⟩
  intro P F H σ n d v Qd Q I r h q
  obtain ⟨rfl, h⟩ := h
  cases r
  exact ⟨rfl, q _ _ h I (fun _ _ => rfl) rfl⟩
theorem pgsd_cons {es : List Expr} {js ks : List Nat} {g : TGd} {gs : TGsd} (h1 : PGd X js e g) (h2 : PGsd X ks es gs)
    (hs : (assignEach (e :: es) X.env).map (·.2) = assign e X.env :: (assignEach es X.env).map (·.2) := by rfl) : PGsd X (js ++ ks) (e :: es) (gdCons g gs) := by
  obtain ⟨t, a1, b1⟩ := h1
  obtain ⟨u, a2, b2⟩ := h2
  refine ⟨_, pgs_cons a1 a2 hs, ?_⟩
  intro P F H σ n d v Qd Q I r h q
  cases r with
  | nil => exact h.elim
  | cons r1 r2 =>
    refine ⟨_, _, rfl, b1 P F H σ n _ _ _ _ I r1 h fun n1 σ1 h1 I1 s1 l1 => ?_⟩
    refine b2 P F H σ1 n1 _ _ _ _ I1 r2 h1 fun n2 σ2 h2 I2 s2 l2 => ?_
    refine q n2 σ2 h2 I2 (fun j hj => ?_) (l2.trans l1)
    rw [List.mem_append] at hj
    exact (s2 j fun z => hj (.inr z)).trans (s1 j fun z => hj (.inl z))
def gdTup (k : Nat) (gs : TGsd) : TGd := fun d n Q => match d with
  | .tuple ds => ds.length = k ∧ gs ds n Q
  | _ => False
theorem pgd_tup {es : List Expr} {k kk : Nat} {js : List Nat} {gs : TGsd} (hc : X.calm = true) (h : PGsd X js es gs)
    (hn : (assignEach es X.env).length = kk := by rfl) (hst : (assignEach es X.env).findIdx? (·.1) = none := by rfl) : PGd X js (.Tuple es k pos) (gdTup kk gs) := by
  obtain ⟨t, a1, b1⟩ := h
  refine ⟨_, pg_tup hc a1 hn hst, ?_⟩
  intro P F H σ n d v Qd Q I r h q
  cases d with
  | tuple ds =>
    cases r with
    | tup h1 h2 => exact ⟨_, _, rfl, sm_seqT I.ff h1, by rw [RpA.length h2]; exact h.1, b1 P F H σ n ds _ Qd Q I h2 h.2 q⟩
  | _ => exact h.elim

/-! ### assignments -/
def dAsg (de : TEd) (gd : TGd) : TSd := fun D n => de n fun d n1 => gd d n1 D.nx
theorem snd_asg {K : PySem.W.Frag} {js : List Nat} {te : TE} {g : TG} {gd : TGd} (h1 : SndE K G te de) (h2 : SndG K js g gd) : SndS K G (tAsg te g) (dAsg de gd) := by
  intro P F H σ n Dd Dn I g h q
  refine h1 P F H σ n _ _ I g h fun d n1 v F1 H1 h1 I1 g1 r1 => ?_
  exact h2 P F1 H1 σ n1 d v _ _ I1 r1 h1 fun n2 σ2 h2 I2 _ _ => q.nx n2 σ2 F1 H1 h2 I2 g1
theorem psd_asg {tg : Expr} {js : List Nat} {gd : TGd} (he : PEd X G e de) (hg : PGd X js tg gd) (hs : swapsWithSole [tg] e pos.line X.env = pure false := by rfl) (hw : swappedStores [tg] e X.env = pure none := by rfl)
    (h1 : (assignEach [tg] X.env).map (·.2) = [assign tg X.env] := by rfl) : PSd X G (.Assign [tg] e pos) (dAsg de gd) := by
  obtain ⟨t, a1, b1⟩ := he
  obtain ⟨g, a2, b2⟩ := hg
  exact ⟨_, ps_asg a1 a2 hs hw h1, snd_asg b1 b2⟩
def dSet (i : Nat) (de : TEd) : TSd := fun D n => de n fun d n1 => D.nx (n1.set i (Sl.val d))
theorem psd_set (i : Nat) {x : Str} {pos' : Pos} (hN : X.N.Nodup) (he : PEd X G e de) (hi : X.N[i]? = some x := by rfl) (hx : Loc X.env.scope x := by first | exact Or.inl rfl | exact Or.inr rfl) (hs : swapsWith e (some (.Name x pos')) pos.line X.env = pure false := by rfl)
    (hf : X.fn x = true ∨ X.env.scope.names.lookup x = some .local := by first | exact .inl rfl | exact .inr rfl) : PSd X G (.Assign [.Name x pos'] e pos) (dSet i de) := by
  obtain ⟨t, a1, b1⟩ := he
  refine ⟨_, ps_set hN hi hx a1 hs hf, ?_⟩
  intro P F H σ n Dd Dn I g h q
  exact b1 P F H σ n _ _ I g h fun d n1 v F1 H1 h1 I1 g1 r1 => q.nx _ _ F1 H1 h1 (I1.set r1) g1
def dSetO (i : Nat) (dt : TAd) : TSd := fun D n => dt n fun ds n1 => D.nx (n1.set i (Sl.own none ds))
theorem snd_setO {K : PySem.W.Frag} {i : Nat} {te : TE} (h : SndN K G te dt) : SndS K G (tAsg te (gName i)) (dSetO i dt) := by
  intro P F H σ n Dd Dn I g hd q
  refine h P F H σ n _ _ I g hd fun ds n1 a vs F1 H1 h1 I1 g1 e r nF nP fr => ?_
  exact q.nx _ _ F1 H1 h1 (I1.setO e r nF nP fr) g1
theorem psd_setO (i : Nat) {x : Str} {pos' : Pos} (hN : X.N.Nodup) (he : PNd X G e dt) (hi : X.N[i]? = some x := by rfl) (hx : Loc X.env.scope x := by first | exact Or.inl rfl | exact Or.inr rfl) (hs : swapsWith e (some (.Name x pos')) pos.line X.env = pure false := by rfl)
    (hf : X.fn x = true ∨ X.env.scope.names.lookup x = some .local := by first | exact .inl rfl | exact .inr rfl) : PSd X G (.Assign [.Name x pos'] e pos) (dSetO i dt) := by
  obtain ⟨t, a1, b1⟩ := he
  exact ⟨_, ps_set hN hi hx a1 hs hf, snd_setO b1⟩

/-! a, b = x, y -/
theorem IA.weak {K : PySem.W.Frag} {P P' F H : Hp} {σ : L2.St} {n : En} (I : IA K P' F H σ n) (s : Same P P') : IA K P F H σ n :=
  ⟨s.trans I.pf, I.ff, I.vl, fun i t ds e => by
    obtain ⟨a, h1, h2, h3, h4, h5⟩ := I.ow i t ds e
    exact ⟨a, h1, h2, h3, s.free h4, h5⟩, I.dj, I.ln, I.rw⟩
theorem Gr.weak {P P' F F' : Hp} (g : Gr P' F F') (s : Same P P') : Gr P F F' := ⟨g.s, fun a h h2 => g.n a (fun z => h (s.free z)) h2⟩
/-- both values -/
def dPar (i j : Nat) (da db : TEd) : TSd := fun D n => da n fun d n1 => db n1 fun e n2 => D.nx ((n2.set i (Sl.val d)).set j (Sl.val e))
theorem psd_par (i j : Nat) {x y : Str} {a b : Expr} {da db : TEd} {px py pt : Pos} {kt k2 pt2} (hc : X.calm = true) (hN : X.N.Nodup) (ha : PEd X G a da) (hb : PEd X G b db) (hi : X.N[i]? = some x := by rfl) (hj : X.N[j]? = some y := by rfl) (hij : i ≠ j := by decide)
    (hx : X.env.scope.names.lookup x = some .local := by rfl) (hy : X.env.scope.names.lookup y = some .local := by rfl)
    (hs1 : starEach (a :: [b]) X.env = (false, eval a X.env) :: starEach [b] X.env := by rfl) (hs2 : starEach (b :: []) X.env = (false, eval b X.env) :: starEach [] X.env := by rfl)
    (hw : swappedStores [.Tuple [.Name x px, .Name y py] kt pt] (.Tuple [a, b] k2 pt2) X.env = pure (some [x, y]) := by rfl)
    (hs : swapsWithSole [.Tuple [.Name x px, .Name y py] kt pt] (.Tuple [a, b] k2 pt2) pos.line X.env = pure false := by rfl) :
    PSd X G (.Assign [.Tuple [.Name x px, .Name y py] kt pt] (.Tuple [a, b] k2 pt2) pos) (dPar i j da db) := by
  obtain ⟨t, a1, b1⟩ := ha
  obtain ⟨u, a2, b2⟩ := hb
  refine ⟨_, ps_par hc hN hi hj hij hx hy (pa_cons a1 (pa_cons a2 pa_nil hs2) hs1) hw hs, ?_⟩
  intro P F H σ n Dd Dn I g h q
  refine b1 P F H σ n _ _ I g h fun d n1 v F1 H1 h1 I1 g1 r1 => ?_
  refine b2 P F1 H1 σ n1 _ _ I1 (G.m g (Same.refl P) g1) h1 fun e n2 w F2 H2 h2 I2 g2 r2 => ?_
  exact ⟨v, w, rfl, q.nx _ _ F2 H2 h2 ((I2.set (Rp.mono g2.s d r1)).set r2) (g1.trans g2)⟩
/-- the second a new list -/
def dParVN (i j : Nat) (da : TEd) (dt : TAd) : TSd := fun D n => da n fun d n1 => dt n1 fun es n2 => D.nx ((n2.set i (Sl.val d)).set j (Sl.own none es))
theorem psd_parVN (i j : Nat) {x y : Str} {a b : Expr} {da : TEd} {dt : TAd} {px py pt : Pos} {kt k2 pt2} (hc : X.calm = true) (hN : X.N.Nodup) (ha : PEd X G a da) (hb : PNd X G b dt) (hi : X.N[i]? = some x := by rfl) (hj : X.N[j]? = some y := by rfl) (hij : i ≠ j := by decide)
    (hx : X.env.scope.names.lookup x = some .local := by rfl) (hy : X.env.scope.names.lookup y = some .local := by rfl)
    (hs1 : starEach (a :: [b]) X.env = (false, eval a X.env) :: starEach [b] X.env := by rfl) (hs2 : starEach (b :: []) X.env = (false, eval b X.env) :: starEach [] X.env := by rfl)
    (hw : swappedStores [.Tuple [.Name x px, .Name y py] kt pt] (.Tuple [a, b] k2 pt2) X.env = pure (some [x, y]) := by rfl)
    (hs : swapsWithSole [.Tuple [.Name x px, .Name y py] kt pt] (.Tuple [a, b] k2 pt2) pos.line X.env = pure false := by rfl) :
    PSd X G (.Assign [.Tuple [.Name x px, .Name y py] kt pt] (.Tuple [a, b] k2 pt2) pos) (dParVN i j da dt) := by
  obtain ⟨t, a1, b1⟩ := ha
  obtain ⟨u, a2, b2⟩ := hb
  refine ⟨_, ps_par hc hN hi hj hij hx hy (pa_cons a1 (pa_cons a2 pa_nil hs2) hs1) hw hs, ?_⟩
  intro P F H σ n Dd Dn I g h q
  refine b1 P F H σ n _ _ I g h fun d n1 v F1 H1 h1 I1 g1 r1 => ?_
  refine b2 P F1 H1 σ n1 _ _ I1 (G.m g (Same.refl P) g1) h1 fun es n2 c vs F2 H2 h2 I2 g2 e2 r2 nF nP fr => ?_
  refine ⟨v, _, rfl, q.nx _ _ F2 H2 h2 ((I2.set (Rp.mono g2.s d r1)).setO e2 r2 nF nP fun k t fs hk z => ?_) (g1.trans g2)⟩
  rcases set_get hk with ⟨rfl, y⟩ | ⟨hk', y⟩
  · cases y
  · rw [set_ne' hk'] at z
    exact fr k t fs y z
/-- the first a new list -/
def dParNV (i j : Nat) (dt : TAd) (db : TEd) : TSd := fun D n => dt n fun es n1 => db n1 fun e n2 => D.nx ((n2.set i (Sl.own none es)).set j (Sl.val e))
theorem IA.guard {K : PySem.W.Frag} {P F H : Hp} {σ : L2.St} {n : En} (I : IA K P F H σ n) {a : Addr} {vs : List V} (e : H a = some (.lst vs)) (fr : ∀ (j : Nat) (t : Option Addr) (es : List D), n[j]? = some (Sl.own t es) → σ[j]? ≠ some (some (.ref a))) : IA K (upd P a (.lst vs)) F H σ n :=
  ⟨sm_updI I.pf e, I.ff, I.vl, fun i t ds h => by
    obtain ⟨b, h1, h2, h3, h4, h5⟩ := I.ow i t ds h
    exact ⟨b, h1, h2, h3, by rw [upd_ne (fun z => by subst z; exact fr i t ds h h1)]; exact h4, h5⟩, I.dj, I.ln, I.rw⟩
theorem psd_parNV (i j : Nat) {x y : Str} {a b : Expr} {db : TEd} {dt : TAd} {px py pt : Pos} {kt k2 pt2} (hc : X.calm = true) (hN : X.N.Nodup) (ha : PNd X G a dt) (hb : PEd X G b db) (hi : X.N[i]? = some x := by rfl) (hj : X.N[j]? = some y := by rfl) (hij : i ≠ j := by decide)
    (hx : X.env.scope.names.lookup x = some .local := by rfl) (hy : X.env.scope.names.lookup y = some .local := by rfl)
    (hs1 : starEach (a :: [b]) X.env = (false, eval a X.env) :: starEach [b] X.env := by rfl) (hs2 : starEach (b :: []) X.env = (false, eval b X.env) :: starEach [] X.env := by rfl)
    (hw : swappedStores [.Tuple [.Name x px, .Name y py] kt pt] (.Tuple [a, b] k2 pt2) X.env = pure (some [x, y]) := by rfl)
    (hs : swapsWithSole [.Tuple [.Name x px, .Name y py] kt pt] (.Tuple [a, b] k2 pt2) pos.line X.env = pure false := by rfl) :
    PSd X G (.Assign [.Tuple [.Name x px, .Name y py] kt pt] (.Tuple [a, b] k2 pt2) pos) (dParNV i j dt db) := by
  obtain ⟨t, a1, b1⟩ := ha
  obtain ⟨u, a2, b2⟩ := hb
  refine ⟨_, ps_par hc hN hi hj hij hx hy (pa_cons a1 (pa_cons a2 pa_nil hs2) hs1) hw hs, ?_⟩
  intro P F H σ n Dd Dn I g h q
  refine b1 P F H σ n _ _ I g h fun es n1 c vs F1 H1 h1 I1 g1 e1 r1 nF nP fr => ?_
  have sP : Same P (upd P c (.lst vs)) := sm_upd (Same.refl P) nP
  refine b2 (upd P c (.lst vs)) F1 H1 σ n1 _ _ (I1.guard e1 fr) (G.m g sP g1) h1 fun e n2 w F2 H2 h2 I2 g2 r2 => ?_
  have nF2 : F2 c = none := by
    cases z : F2 c with
    | none => rfl
    | some o => exact absurd nF (g2.n c (by rw [upd_same]; exact fun y => by cases y) (by rw [z]; exact fun y => by cases y))
  refine ⟨_, w, rfl, q.nx _ _ F2 H2 h2 (((I2.weak sP).setO (I2.pf c _ upd_same) (RpA.mono g2.s es r1) nF2 nP fun k t fs hk z => ?_).set r2) (g1.trans (g2.weak sP))⟩
  obtain ⟨b, y1, y2, y3, y4, y5⟩ := I2.ow k t fs hk
  rw [y1] at z
  cases z
  rw [upd_same] at y4
  cases y4
/-- x op= e -/
def dAug (i : Nat) (rd : RD2) (de : TEd) : TSd := fun D n => match n[i]? with
  | some (Sl.val x) => de n fun y n1 => rd x y fun z => D.nx (n1.set i (Sl.val z))
  | _ => False
theorem psd_aug (i : Nat) {x : Str} {op : Operator} {ti : TIp} {rd : RD2} {pos' : Pos} (hN : X.N.Nodup) (ho : PIp X op ti) (hs : SndR2 X.K ti rd) (he : PEd X G e de) (hi : X.N[i]? = some x := by rfl) (hx : Loc X.env.scope x := by first | exact Or.inl rfl | exact Or.inr rfl)
    (hf : X.fn x = true ∨ X.env.scope.names.lookup x = some .local := by first | exact .inl rfl | exact .inr rfl) : PSd X G (.AugAssign (.Name x pos') op e pos) (dAug i rd de) := by
  obtain ⟨t, a1, b1⟩ := he
  refine ⟨_, ps_aug hN hi hx a1 ho hf, ?_⟩
  intro P F H σ n Dd Dn I g h q
  unfold dAug at h
  split at h
  · rename_i d e
    obtain ⟨v, e1, r1⟩ := I.vl i d e
    refine ⟨v, e1, b1 P F H σ n _ _ I g h fun y n1 w F1 H1 h1 I1 g1 r2 => ?_⟩
    exact hs P F1 H1 σ n1 d y v w _ _ I1 (Rp.mono g1.s d r1) r2 h1 fun z u F2 H2 h2 I2 g2 r3 => q.nx _ _ F2 H2 h2 (I2.set r3) (g1.trans g2)
  · exact h.elim
theorem snd_ipI {K : PySem.W.Frag} {f : Int → Int → Int} : SndR2 K (ipI f) (rdI0 f) := by
  intro P F H σ n x y v u Qd Q I rx ry h q
  unfold rdI0 at h
  split at h
  · cases rx; cases ry
    exact ⟨_, _, rfl, rfl, q _ _ F H h I (Gr.refl P F) (.int _)⟩
  · exact h.elim
theorem psd_augAdd (i : Nat) {x : Str} {pos' : Pos} (hN : X.N.Nodup) (he : PEd X G e de) (hi : X.N[i]? = some x := by rfl) (hx : Loc X.env.scope x := by first | exact Or.inl rfl | exact Or.inr rfl)
    (hf : X.fn x = true ∨ X.env.scope.names.lookup x = some .local := by first | exact .inl rfl | exact .inr rfl) : PSd X G (.AugAssign (.Name x pos') .Add e pos) (dAug i (rdI0 fun i j => i + j) de) := psd_aug i hN ip_add snd_ipI he hi hx hf
/-- xs[i] = e, xs one's own list -/
def isOwn : Option Sl → Prop
  | some (Sl.own _ _) => True
  | _ => False
theorem isOwn.ex {o : Option Sl} (h : isOwn o) : ∃ t ds, o = some (Sl.own t ds) := by
  unfold isOwn at h
  split at h
  · exact ⟨_, _, rfl⟩
  · exact h.elim
def dPutIx (i : Nat) (di de : TEd) : TSd := fun D n => de n fun d n1 => isOwn n1[i]? ∧ di n1 fun k n2 => match n2[i]? with
  | some (Sl.own t ds) => ∃ z m, k = .int z ∧ ixN ds.length z = some m ∧ D.nx (n2.set i (Sl.own t (ds.set m d)))
  | _ => False
theorem psd_putIx (i : Nat) {x : Str} {ie : Expr} {di : TEd} {p1 p2 : Pos} (he : PEd X G e de) (hie : PEd X G ie di) (hN : X.N[i]? = some x := by rfl) (hv : Vis X.env.scope x := by first | exact Or.inl rfl | exact Or.inr (Or.inl rfl) | exact Or.inr (Or.inr rfl)) (hd : (x == ("__debug__" : Str)) = false := by decide)
    (hcd : (x == ("__classdict__" : Str)) = false := by decide)
    (ha : ∀ v, assign (.Subscript (.Name x p1) ie p2) X.env v = (do
      let ov ← holding [v] (eval (.Name x p1) X.env)
      let iv ← holding [v, ov] (eval ie X.env)
      standAt p2
      holding [v, ov, iv] (setItem ov iv v)
      release [v, ov, iv] []) := by intro _; rfl)
    (hs : swapsWithSole [.Subscript (.Name x p1) ie p2] e pos.line X.env = pure false := by rfl) (hw : swappedStores [.Subscript (.Name x p1) ie p2] e X.env = pure none := by rfl)
    (h1 : (assignEach [.Subscript (.Name x p1) ie p2] X.env).map (·.2) = [assign (.Subscript (.Name x p1) ie p2) X.env] := by rfl) : PSd X G (.Assign [.Subscript (.Name x p1) ie p2] e pos) (dPutIx i di de) := by
  obtain ⟨t, a1, b1⟩ := he
  obtain ⟨u, a2, b2⟩ := hie
  refine ⟨_, ps_asg a1 (pg_sub (pe_var hN hv hd hcd) a2 set_list ha) hs hw h1, ?_⟩
  intro P F H σ n Dd Dn I g h q
  refine b1 P F H σ n _ _ I g h fun d n1 v F1 H1 h1 I1 g1 r1 => ?_
  obtain ⟨e0, h1⟩ := h1
  obtain ⟨t0, ds0, e0⟩ := e0.ex
  obtain ⟨b, hb, _⟩ := I1.ow i t0 ds0 e0
  refine ⟨.ref b, hb, ?_⟩
  refine b2 P F1 H1 σ n1 _ _ I1 (G.m g (Same.refl P) g1) h1 fun k n2 w F2 H2 h2 I2 g2 r2 => ?_
  split at h2
  · rename_i t ds e2
    obtain ⟨z, m, rfl, hm, h2⟩ := h2
    cases r2
    obtain ⟨a, y1, ⟨vs, y2, y3⟩, y4, y5⟩ := I2.ow i t ds e2
    rw [hb] at y1
    cases y1
    refine ⟨b, vs, z, m, rfl, rfl, y2, by rw [RpA.length y3]; exact hm, ?_⟩
    exact q.nx _ _ F2 _ h2 (I2.mut e2 hb (RpA.set m y3 (Rp.mono g2.s d r1))) (g1.trans g2)
  · exact h2.elim

/-! ### while -/
def whileN (A : TTd) (tb : TSd) (D : Eds) : Nat → En → Prop
  | 0, _ => False
  | m + 1, n => A n fun b n1 => if b = true then tb { D with nx := whileN A tb D m, ct := whileN A tb D m, bk := D.nx } n1 else D.nx n1
def dWhile (A : TTd) (tb : TSd) : TSd := fun D n => ∃ m, whileN A tb D m n
theorem psd_while {c : Expr} {body : List Stmt} {A : TTd} {tb : TSd} (hp : PassesOwn (model X.prog X.w) X.A X.env X.xe) (hc : PTd X G c A) (hb : PSsd X G body tb) : PSd X G (.While c body [] pos) (dWhile A tb) := by
  obtain ⟨t, a1, b1⟩ := hc
  obtain ⟨u, a2, b2⟩ := hb
  refine ⟨_, ps_while hp a1 a2, ?_⟩
  intro P F H σ n Dd Dn I g h q
  obtain ⟨m0, h⟩ := h
  refine ⟨fun m σ' H' => ∃ F' n', IA X.K P F' H' σ' n' ∧ Gr P F F' ∧ whileN A tb Dd m n', ⟨m0, F, n, I, Gr.refl P F, h⟩, ?_⟩
  rintro m σ1 H1 ⟨F1, n1, I1, g1, h1⟩
  cases m with
  | zero => exact h1.elim
  | succ m =>
    refine b1 P F1 H1 σ1 n1 _ _ I1 (G.m g (Same.refl P) g1) h1 fun b n2 F2 H2 h2 I2 g2 => ?_
    cases b with
    | true =>
      rw [if_pos rfl] at h2 ⊢
      refine ⟨fun σ' H' => ∃ F' n', IA X.K P F' H' σ' n' ∧ Gr P F F' ∧ whileN A tb Dd m n', fun σ' H' w => ⟨m, Nat.lt_succ_self m, w⟩, ?_⟩
      have g12 := g1.trans g2
      exact b2 P F2 H2 σ1 n2 _ _ I2 (G.m g (Same.refl P) g12) h2 ⟨fun n3 σ3 F3 H3 h3 I3 g3 => ⟨F3, n3, I3, g12.trans g3, h3⟩, (q.gr g12).rt, (q.gr g12).nx, fun n3 σ3 F3 H3 h3 I3 g3 => ⟨F3, n3, I3, g12.trans g3, h3⟩⟩
    | false =>
      rw [if_neg Bool.false_ne_true] at h2 ⊢
      exact q.nx n2 σ1 F2 H2 h2 I2 (g1.trans g2)

/-! ### what is walked -/
def ItOk (K : PySem.W.Frag) (F' : Hp) (J : It) (ds : List D) : Prop := ∀ (P F2 H2 : Hp) (σ : L2.St) (n : En) (i : Nat), IA K P F2 H2 σ n → Same F' F2 →
  (∀ d, ds[i]? = some d → J.go i H2 ∧ ∀ x H3, J.yld i H2 x H3 → ∃ F3, IA K P F3 H3 σ n ∧ Gr P F2 F3 ∧ Rp K F3 x d) ∧ (ds.length ≤ i → J.stop i H2)
def SndI (K : PySem.W.Frag) (G : Gd) (wi : TI) (wd : TAd) : Prop := ∀ (P F H : Hp) (σ : L2.St) (n : En) (Qd : List D → En → Prop) (R : It → Hp → Prop), IA K P F H σ n → G.p P F → wd n Qd →
  (∀ ds n' J F' H', Qd ds n' → IA K P F' H' σ n' → Gr P F F' → ItOk K F' J ds → R J H') → wi σ H R
def PId (X : Cx) (G : Gd) (tg e : Expr) (wd : TAd) : Prop := ∃ wi, PI X tg e wi ∧ SndI X.K G wi wd
/-- a list, a tuple -/
def dItL (de : TEd) : TAd := fun n Q => de n fun d n1 => match d with
  | .list ds => Q ds n1
  | _ => False
def dItT (de : TEd) : TAd := fun n Q => de n fun d n1 => match d with
  | .tuple ds => Q ds n1
  | _ => False
theorem pid_list {tg : Expr} (h : PEd X G e de) : PId X G tg e (dItL de) := by
  obtain ⟨t, a1, b1⟩ := h
  refine ⟨_, pi_list a1, ?_⟩
  intro P F H σ n Qd R I g h q
  refine b1 P F H σ n _ _ I g h fun d n1 v F1 H1 h1 I1 g1 r1 => ?_
  cases d with
  | list ds =>
    cases r1 with
    | @lst a vs _ e1 e2 =>
      refine ⟨_, rfl, ⟨_, .of (I1.ff _ _ e1)⟩, q ds n1 _ F1 H1 h1 I1 g1 ?_⟩
      intro P' F2 H2 σ' n' i I2 s2
      have eH : H2 a = some (.lst vs) := I2.ff _ _ (s2 _ _ e1)
      refine ⟨fun d hd => ?_, fun hl => ⟨vs, .of eH, by rw [RpA.length e2]; exact hl⟩⟩
      obtain ⟨v, hv, rv⟩ := RpA.get e2 hd
      refine ⟨⟨vs, v, .of eH, hv⟩, fun x H3 hy => ?_⟩
      obtain ⟨rfl, hy⟩ := hy
      have := hy vs (.of eH)
      rw [hv] at this
      cases this
      exact ⟨F2, I2, Gr.refl P' F2, Rp.mono s2 d rv⟩
  | _ => exact h1.elim
theorem pid_tup {tg : Expr} (h : PEd X G e de) : PId X G tg e (dItT de) := by
  obtain ⟨t, a1, b1⟩ := h
  refine ⟨_, pi_tup a1, ?_⟩
  intro P F H σ n Qd R I g h q
  refine b1 P F H σ n _ _ I g h fun d n1 v F1 H1 h1 I1 g1 r1 => ?_
  cases d with
  | tuple ds =>
    cases r1 with
    | @tup a vs _ e1 e2 =>
      refine ⟨_, rfl, ⟨_, sm_seqT I1.ff e1⟩, q ds n1 _ F1 H1 h1 I1 g1 ?_⟩
      intro P' F2 H2 σ' n' i I2 s2
      have eH : SqT X.K H2 a vs := sm_seqT I2.ff (sm_seqT s2 e1)
      refine ⟨fun d hd => ?_, fun hl => ⟨vs, eH, by rw [RpA.length e2]; exact hl⟩⟩
      obtain ⟨v, hv, rv⟩ := RpA.get e2 hd
      refine ⟨⟨vs, v, eH, hv⟩, fun x H3 hy => ?_⟩
      obtain ⟨rfl, hy⟩ := hy
      have := hy vs eH
      rw [hv] at this
      cases this
      exact ⟨F2, I2, Gr.refl P' F2, Rp.mono s2 d rv⟩
  | _ => exact h1.elim
/-- range(n), range(a, b) -/
def rngD (lo : Int) (n : Nat) : List D := (List.range n).map fun (i : Nat) => .int (lo + (i : Int))
theorem itOk_rng {K : PySem.W.Frag} {F : Hp} {lo : Int} {n : Nat} : ItOk K F (Itr lo n) (rngD lo n) := by
  intro P F2 H2 σ n' i I s
  unfold rngD
  refine ⟨fun d hd => ?_, fun hl => ?_⟩
  · rw [List.getElem?_map] at hd
    cases e : (List.range n)[i]? with
    | none => rw [e] at hd; cases hd
    | some k =>
      rw [e] at hd
      have hi := List.getElem?_eq_some_iff.mp e
      obtain ⟨hi, hk⟩ := hi
      rw [List.length_range] at hi
      rw [List.getElem_range] at hk
      subst hk
      cases hd
      exact ⟨hi, fun x H3 ⟨y1, y2⟩ => by subst y1; subst y2; exact ⟨F2, I, Gr.refl P F2, .int _⟩⟩
  · rw [List.length_map, List.length_range] at hl
    exact hl
def dRng1 (da : TEd) : TAd := fun n Q => da n fun d n1 => ∃ j : Int, d = .int j ∧ (-(2 ^ 62) ≤ j ∧ j < 2 ^ 62) ∧ Q (rngD 0 j.toNat) n1
def dRng2 (da db : TEd) : TAd := fun n Q => da n fun d n1 => db n1 fun e n2 => ∃ i j : Int, d = .int i ∧ e = .int j ∧ (-(2 ^ 62) ≤ i ∧ i < 2 ^ 62 ∧ -(2 ^ 62) ≤ j ∧ j < 2 ^ 62) ∧ Q (rngD i (j - i).toNat) n2
theorem pid_rng1 {tg a : Expr} {da : TEd} {p : Pos} (hm : X.mg "range" = none) (ha : PEd X G a da) (hg : Gl X "range" := by rfl) (hs : starEach [a] X.env = [(false, eval a X.env)] := by rfl) (hs2 : starEach (a :: []) X.env = (false, eval a X.env) :: starEach [] X.env := by rfl) : PId X G tg (.Call (.Name "range" p) [a] [] pos) (dRng1 da) := by
  obtain ⟨t, a1, b1⟩ := ha
  refine ⟨_, pi_range1 hg hm (pa_cons a1 pa_nil hs2) hs, ?_⟩
  intro P F H σ n Qd R I g h q
  refine b1 P F H σ n _ _ I g h fun d n1 v F1 H1 h1 I1 g1 r1 => ?_
  obtain ⟨j, rfl, ⟨h2, h3⟩, h1⟩ := h1
  cases r1
  exact ⟨j, rfl, h2, h3, q _ n1 _ F1 H1 h1 I1 g1 itOk_rng⟩
theorem pid_rng2 {tg a b : Expr} {da db : TEd} {p : Pos} (hm : X.mg "range" = none) (ha : PEd X G a da) (hb : PEd X G b db) (hg : Gl X "range" := by rfl) (hs : starEach [a, b] X.env = [(false, eval a X.env), (false, eval b X.env)] := by rfl) (hs2 : starEach [b] X.env = [(false, eval b X.env)] := by rfl)
    (hs3 : starEach (a :: [b]) X.env = (false, eval a X.env) :: starEach [b] X.env := by rfl) (hs4 : starEach (b :: []) X.env = (false, eval b X.env) :: starEach [] X.env := by rfl) : PId X G tg (.Call (.Name "range" p) [a, b] [] pos) (dRng2 da db) := by
  obtain ⟨t, a1, b1⟩ := ha
  obtain ⟨u, a2, b2⟩ := hb
  refine ⟨_, pi_range2 hg hm (pa_cons a1 (pa_cons a2 pa_nil hs4) hs3) hs hs2, ?_⟩
  intro P F H σ n Qd R I g h q
  refine b1 P F H σ n _ _ I g h fun d n1 v F1 H1 h1 I1 g1 r1 => ?_
  refine b2 P F1 H1 σ n1 _ _ I1 (G.m g (Same.refl P) g1) h1 fun e n2 w F2 H2 h2 I2 g2 r2 => ?_
  obtain ⟨i, j, rfl, rfl, hb, h2⟩ := h2
  cases r1; cases r2
  exact ⟨i, j, rfl, hb, q _ n2 _ F2 H2 h2 I2 (g1.trans g2) itOk_rng⟩
/-- a text, sign by sign -/
def signsD (x : Str) : List D := x.cps.toList.map fun c => .str ⟨#[c]⟩
def dItS (de : TEd) : TAd := fun n Q => de n fun d n1 => match d with
  | .str x => Q (signsD x) n1
  | _ => False
theorem pid_str {tg : Expr} (h : PEd X G e de) : PId X G tg e (dItS de) := by
  obtain ⟨t, a1, b1⟩ := h
  refine ⟨_, pi_str a1, ?_⟩
  intro P F H σ n Qd R I g h q
  refine b1 P F H σ n _ _ I g h fun d n1 v F1 H1 h1 I1 g1 r1 => ?_
  cases d with
  | str x =>
    cases r1
    refine ⟨x, rfl, q _ n1 _ F1 H1 h1 I1 g1 ?_⟩
    intro P' F2 H2 σ' n' i I2 s2
    unfold signsD
    refine ⟨fun d hd => ?_, fun hl => ?_⟩
    · rw [List.getElem?_map, Array.getElem?_toList] at hd
      cases e : x.cps[i]? with
      | none => rw [e] at hd; cases hd
      | some c =>
        rw [e] at hd
        cases hd
        refine ⟨(Array.getElem?_eq_some_iff.mp e).1, fun y H3 hy => ?_⟩
        obtain ⟨rfl, c', hc', rfl⟩ := hy
        rw [e] at hc'
        cases hc'
        exact ⟨F2, I2, Gr.refl P' F2, .str _⟩
    · rw [List.length_map, Array.length_toList] at hl
      exact hl
  | _ => exact h1.elim

/-! ### for -/
def forL (gd : TGd) (tb : TSd) (D : Eds) : List PyData → En → Prop
  | [], n => D.nx n
  | d :: ds, n => gd d n fun n1 => tb { D with nx := forL gd tb D ds, ct := forL gd tb D ds, bk := D.nx } n1
def dFor (wd : TAd) (gd : TGd) (tb : TSd) : TSd := fun D n => wd n fun ds n1 => forL gd tb D ds n1
theorem drop_cons {α : Type} {l r : List α} {x : α} {i : Nat} (h : l.drop i = x :: r) : l[i]? = some x ∧ l.drop (i + 1) = r := by
  have h1 : l[i]? = some x := by
    have := congrArg (fun z => z[0]?) h
    simpa [List.getElem?_drop] using this
  refine ⟨h1, ?_⟩
  have := congrArg (fun z => z.drop 1) h
  simpa [List.drop_drop, Nat.add_comm] using this
theorem drop_nil {α : Type} {l : List α} {i : Nat} (h : l.drop i = []) : l.length ≤ i := by
  have := congrArg List.length h
  rw [List.length_drop, List.length_nil] at this
  omega
theorem psd_for {tg iter : Expr} {body : List Stmt} {js : List Nat} {wd : TAd} {gd : TGd} {tb : TSd} (hp : PassesOwn (model X.prog X.w) X.A X.env X.xe) (hc : X.calm = true) (hi : PId X G tg iter wd) (hg : PGd X js tg gd) (hb : PSsd X G body tb)
    (hs : ∀ x, foldedSetIterable iter X.env x = pure x := by intro _; rfl) : PSd X G (.For tg iter body [] pos) (dFor wd gd tb) := by
  obtain ⟨wi, a1, b1⟩ := hi
  obtain ⟨gg, a2, b2⟩ := hg
  obtain ⟨u, a3, b3⟩ := hb
  refine ⟨_, ps_for hp hc a1 a2 a3 hs, ?_⟩
  intro P F H σ n Dd Dn I g h q
  refine b1 P F H σ n _ _ I g h fun ds n1 J F1 H1 h1 I1 g1 it => ?_
  refine ⟨fun i m σ' H' => ∃ F' n' rest, IA X.K P F' H' σ' n' ∧ Gr P F1 F' ∧ ds.drop i = rest ∧ m = rest.length ∧ forL gd tb Dd rest n', ⟨ds.length, F1, n1, ds, I1, Gr.refl P F1, rfl, rfl, h1⟩, ?_⟩
  rintro i m σ2 H2 ⟨F2, n2, rest, I2, g2, e2, em, h2⟩
  obtain ⟨go, stop⟩ := it P F2 H2 σ2 n2 i I2 g2.s
  cases rest with
  | nil => exact .inl ⟨stop (drop_nil e2), q.nx n2 σ2 F2 H2 h2 I2 (g1.trans g2)⟩
  | cons d rest =>
    obtain ⟨hd, e3⟩ := drop_cons e2
    obtain ⟨go1, go2⟩ := go d hd
    refine .inr ⟨go1, fun σ' H' => ∃ F' n', IA X.K P F' H' σ' n' ∧ Gr P F1 F' ∧ forL gd tb Dd rest n', fun σ' H' ⟨F', n', x1, x2, x3⟩ => ⟨rest.length, by rw [em]; exact Nat.lt_succ_self _, F', n', rest, x1, x2, e3, rfl, x3⟩, fun x H3 hy => ?_⟩
    obtain ⟨F3, I3, g3, r3⟩ := go2 x H3 hy
    refine b2 P F3 H3 σ2 n2 d x _ _ I3 r3 h2 fun n4 σ4 h4 I4 _ _ => ?_
    have g123 := (g1.trans g2).trans g3
    exact b3 P F3 H3 σ4 n4 _ _ I4 (G.m g (Same.refl P) g123) h4 ⟨fun n5 σ5 F5 H5 h5 I5 g5 => ⟨F5, n5, I5, (g2.trans g3).trans g5, h5⟩, (q.gr g123).rt, (q.gr g123).nx, fun n5 σ5 F5 H5 h5 I5 g5 => ⟨F5, n5, I5, (g2.trans g3).trans g5, h5⟩⟩

/-! ### comprehensions -/
def wipeN (n : En) : List Nat → En
  | [] => n
  | v :: vs => (wipeN n vs).set v Sl.non
theorem IA.wipe {K : PySem.W.Frag} {P F H : Hp} {σ : L2.St} {n : En} (I : IA K P F H σ n) : ∀ vs : List Nat, IA K P F H (wipe σ vs) (wipeN n vs)
  | [] => I
  | v :: vs => (IA.wipe I vs).setN
theorem wipeN_len (n : En) : ∀ vs : List Nat, (wipeN n vs).length = n.length
  | [] => rfl
  | v :: vs => by unfold wipeN; rw [List.length_set, wipeN_len n vs]
theorem wipeN_some {n : En} {i : Nat} {s : Sl} : ∀ {vs : List Nat}, (wipeN n vs)[i]? = some s → s = Sl.non ∨ (n[i]? = some s ∧ i ∉ vs)
  | [], h => .inr ⟨h, by simp⟩
  | v :: vs, h => by
    unfold wipeN at h
    rcases set_get h with ⟨rfl, z⟩ | ⟨hj, z⟩
    · exact .inl z
    · rcases wipeN_some z with y | ⟨y1, y2⟩
      · exact .inl y
      · exact .inr ⟨y1, by simp [hj, y2]⟩
theorem IA.unwipe {K : PySem.W.Frag} {P F H : Hp} {σ : L2.St} {n : En} {vs : List Nat} (I : IA K P F H (L2.wipe σ vs) n) : IA K P F H σ (wipeN n vs) where
  pf := I.pf
  ff := I.ff
  vl := fun i d e => by
    rcases wipeN_some e with z | ⟨z, hi⟩
    · cases z
    · obtain ⟨v, h1, h2⟩ := I.vl i d z
      exact ⟨v, (wipe_some h1).1, h2⟩
  ow := fun i t d e => by
    rcases wipeN_some e with z | ⟨z, hi⟩
    · cases z
    · obtain ⟨v, h1, h2⟩ := I.ow i t d z
      exact ⟨v, (wipe_some h1).1, h2⟩
  dj := fun i j t u ds es a e1 e2 h1 h2 => by
    rcases wipeN_some e1 with z | ⟨z, hi⟩
    · cases z
    · rcases wipeN_some e2 with y | ⟨y, hj⟩
      · cases y
      · refine I.dj i j t u ds es a z y ?_ ?_
        · rw [wipe_out hi]; exact h1
        · rw [wipe_out hj]; exact h2
  ln := by rw [wipeN_len]; have := I.ln; rw [wipe_length] at this; exact this
  rw := fun i v e => by
    rcases wipeN_some e with z | ⟨z, hi⟩
    · cases z
    · exact (wipe_some (I.rw i v z)).1
theorem wipe_in {σ : L2.St} {i : Nat} : ∀ {vs : List Nat}, i ∈ vs → i < σ.length → (wipe σ vs)[i]? = some none
  | [], h, _ => by simp at h
  | v :: vs, h, hl => by
    unfold wipe
    by_cases e : i = v
    · subst e
      rw [List.getElem?_set_self (by rw [wipe_length]; exact hl)]
    · rw [set_ne' e]
      exact wipe_in (by simpa [e] using h) hl
theorem wipe_eq {σ σ' : L2.St} {vs js : List Nat} (hj : ∀ j ∈ js, j ∈ vs) (h : ∀ j, j ∉ js → σ'[j]? = (wipe σ vs)[j]?) (hl : σ'.length = (wipe σ vs).length) : wipe σ' vs = wipe σ vs := by
  apply List.ext_getElem?
  intro i
  rw [wipe_length] at hl
  by_cases hi : i ∈ vs
  · by_cases hb : i < σ.length
    · rw [wipe_in hi (by omega), wipe_in hi hb]
    · rw [List.getElem?_eq_none (by rw [wipe_length]; omega), List.getElem?_eq_none (by rw [wipe_length]; omega)]
  · rw [wipe_out hi, h i fun z => hi (hj i z)]
def lcL (gd : TGd) (tt : TTd) (te : TEd) (vs : List Nat) (Q : List D → En → Prop) : List D → List D → En → Prop
  | [], acc, n => Q acc (wipeN n vs)
  | d :: ds, acc, n => gd d n fun n1 => tt n1 fun b n2 => if b = true then te n2 fun y n3 => acc.length < sizeLine ∧ lcL gd tt te vs Q ds (acc ++ [y]) (wipeN n3 vs) else lcL gd tt te vs Q ds acc (wipeN n2 vs)
def dLc (wd : TAd) (gd : TGd) (tt : TTd) (te : TEd) (vs : List Nat) : TAd := fun n Q => wd n fun ds n1 => lcL gd tt te vs Q ds [] (wipeN n1 vs)
theorem IA.rewipe {K : PySem.W.Frag} {P F H : Hp} {σ : L2.St} {n : En} {vs : List Nat} (I : IA K P F H (L2.wipe σ vs) n) : IA K P F H (L2.wipe σ vs) (wipeN n vs) :=
  I.sub (fun i s e => by
    rcases wipeN_some e with z | ⟨z, _⟩
    · exact .inl z
    · exact .inr z) (wipeN_len n vs)
theorem snd_lc {K : PySem.W.Frag} {js : List Nat} {wi : TI} {g : TG} {tt : TT} {te : TE} {wd : TAd} {gd : TGd} {ttd : TTd} {ted : TEd} {vs : List Nat} (hj : ∀ j ∈ js, j ∈ vs) (h1 : SndI K G wi wd) (h2 : SndG K js g gd) (h3 : SndT K G0 tt ttd) (h4 : SndE K G0 te ted) :
    SndN K G (tLc wi g tt te vs) (dLc wd gd ttd ted vs) := by
  intro P F H σ n Qd Q I g h q
  refine h1 P F H σ n _ _ I g h fun ds n1 J F1 H1 h1 I1 g1 it => ?_
  intro L hL
  have nP := I1.nP hL
  have nF := I1.nF hL
  refine ⟨fun i m H' => ∃ F' n' rest acc av, IA K (upd P L (.lst av)) F' H' (wipe σ vs) n' ∧ RpA K F' av acc ∧ F' L = none ∧ Gr P F1 F' ∧ ds.drop i = rest ∧ m = rest.length ∧ lcL gd ttd ted vs Qd rest acc n',
    ⟨ds.length, F1, _, ds, [], [], ?_, .nil, nF, Gr.refl P F1, rfl, rfl, h1⟩, ?_⟩
  · exact ((I1.newU (o := .lst []) hL).guard upd_same (I1.ownNe (o := .lst []) hL)).wipe vs
  rintro i m H2 ⟨F2, n2, rest, acc, av, I2, r2, nF2, g2, e2, em, h2'⟩
  have sP : Same P (upd P L (.lst av)) := sm_upd (Same.refl P) nP
  have eL : H2 L = some (.lst av) := I2.pf L _ upd_same
  obtain ⟨go, stop⟩ := it _ F2 H2 _ n2 i I2 g2.s
  cases rest with
  | nil =>
    refine .inl ⟨stop (drop_nil e2), ?_⟩
    refine q acc _ L av F2 H2 h2' ((I2.weak sP).unwipe) (g1.trans g2) eL r2 nF2 nP fun j t es hj' z => ?_
    obtain ⟨b, y1, y2, y3, y4, y5⟩ := (I2.unwipe).ow j t es hj'
    rw [y1] at z
    cases z
    rw [upd_same] at y4
    cases y4
  | cons d rest =>
    obtain ⟨hd, e3⟩ := drop_cons e2
    obtain ⟨go1, go2⟩ := go d hd
    refine .inr ⟨go1, fun H' => ∃ F' n' acc av, IA K (upd P L (.lst av)) F' H' (wipe σ vs) n' ∧ RpA K F' av acc ∧ F' L = none ∧ Gr P F1 F' ∧ lcL gd ttd ted vs Qd rest acc n', fun H' ⟨F', n', acc', av', x1, x2, x3, x4, x5⟩ => ⟨rest.length, by rw [em]; exact Nat.lt_succ_self _, F', n', rest, acc', av', x1, x2, x3, x4, e3, rfl, x5⟩, fun x H3 hy => ?_⟩
    obtain ⟨F3, I3, g3, r3⟩ := go2 x H3 hy
    refine h2 _ F3 H3 (wipe σ vs) n2 d x _ _ I3 r3 h2' fun n4 σ4 h4' I4 s4 l4 => ?_
    have ew : wipe σ4 vs = wipe σ vs := wipe_eq hj s4 l4
    refine ⟨ew, ?_⟩
    refine h3 _ F3 H3 σ4 n4 _ _ I4 trivial h4' fun b n5 F5 H5 h5 I5 g5 => ?_
    have nFL : ∀ {F' : Hp}, Gr (upd P L (.lst av)) F2 F' → F' L = none := fun {F'} gg => by
      cases z : F' L with
      | none => rfl
      | some o => exact absurd nF2 (gg.n L (by rw [upd_same]; exact fun y => by cases y) (by rw [z]; exact fun y => by cases y))
    cases b with
    | false =>
      rw [if_neg Bool.false_ne_true] at h5 ⊢
      have gg := g3.trans g5
      refine ⟨F5, _, acc, av, ?_, RpA.mono gg.s acc r2, nFL gg, g2.trans (gg.weak sP), h5⟩
      have := I5.wipe vs
      rw [ew] at this
      exact this
    | true =>
      rw [if_pos rfl] at h5 ⊢
      refine h4 _ F5 H5 σ4 n5 _ _ I5 trivial h5 fun y n6 v6 F6 H6 h6 I6 g6 r6 => ?_
      have gg := (g3.trans g5).trans g6
      have eL6 : H6 L = some (.lst av) := I6.pf L _ upd_same
      have nF6 := nFL gg
      have r6' := RpA.mono gg.s acc r2
      refine ⟨av, eL6, by rw [RpA.length r2]; exact h6.1, F6, _, acc ++ [y], av ++ [v6], ?_, RpA.append r6' (.one r6), nF6, g2.trans (gg.weak sP), h6.2⟩
      have I7 := I6.wipe vs
      rw [ew] at I7
      refine ⟨fun b o hb => ?_, sm_upd I7.ff nF6, I7.vl, fun k t es hk => ?_, I7.dj, I7.ln, I7.rw⟩
      · by_cases hbL : b = L
        · rw [hbL, upd_same] at hb ⊢; exact hb
        · rw [upd_ne hbL] at hb ⊢
          exact I6.pf b o (by rw [upd_ne hbL]; exact hb)
      · obtain ⟨b, y1, ⟨ws, y2, y3⟩, y4, y5, y6⟩ := I7.ow k t es hk
        have hbL : b ≠ L := fun z => by rw [z, upd_same] at y5; cases y5
        rw [upd_ne hbL] at y5
        exact ⟨b, y1, ⟨ws, by rw [upd_ne hbL]; exact y2, y3⟩, y4, by rw [upd_ne hbL]; exact y5, y6⟩
def PTsd (X : Cx) (G : Gd) (ifs : List Expr) (td : TTd) : Prop := ∃ t, PTs X ifs t ∧ SndT X.K G t td
def dYes : TTd := fun n Q => Q true n
theorem ptsd_nil : PTsd X G [] dYes := ⟨_, pts_nil, fun P F H σ n Qd Q I g h q => q true n F H h I (Gr.refl P F)⟩
theorem ptsd_one {c : Expr} {A : TTd} (h : PTd X G c A) : PTsd X G [c] A := by
  obtain ⟨t, a, b⟩ := h
  exact ⟨_, pts_one a, b⟩
/-! readings that hang on the plain ones alone -/
def canE (K : PySem.W.Frag) (G : Gd) (td : TEd) : TE := fun σ H Q => ∃ (P F : Hp) (n : En) (Qd : D → En → Prop), IA K P F H σ n ∧ G.p P F ∧ td n Qd ∧ ∀ d n' v F' H', Qd d n' → IA K P F' H' σ n' → Gr P F F' → Rp K F' v d → Q v H'
theorem snd_canE {K : PySem.W.Frag} {td : TEd} : SndE K G (canE K G td) td := fun P F H σ n Qd Q I g h q => ⟨P, F, n, Qd, I, g, h, q⟩
theorem PEd.can {td : TEd} (h : PEd X G e td) : PE X e (canE X.K G td) := by
  obtain ⟨t, a, b⟩ := h
  exact ⟨fun pins s σ H Q I ⟨P, F, n, Qd, x1, x2, x3, x4⟩ => a.run pins s σ H Q I (b P F H σ n Qd Q x1 x2 x3 x4)⟩
def canT (K : PySem.W.Frag) (G : Gd) (td : TTd) : TT := fun σ H Q => ∃ (P F : Hp) (n : En) (Qd : Bool → En → Prop), IA K P F H σ n ∧ G.p P F ∧ td n Qd ∧ ∀ d n' F' H', Qd d n' → IA K P F' H' σ n' → Gr P F F' → Q d H'
theorem snd_canT {K : PySem.W.Frag} {td : TTd} : SndT K G (canT K G td) td := fun P F H σ n Qd Q I g h q => ⟨P, F, n, Qd, I, g, h, q⟩
theorem PTsd.can {ifs : List Expr} {td : TTd} (h : PTsd X G ifs td) : PTs X ifs (canT X.K G td) := by
  obtain ⟨t, a, b⟩ := h
  exact ⟨fun pins s σ H Q I ⟨P, F, n, Qd, x1, x2, x3, x4⟩ => a.run pins s σ H Q I (b P F H σ n Qd Q x1 x2 x3 x4)⟩
def canG (K : PySem.W.Frag) (js : List Nat) (gd : TGd) : TG := fun v σ H Q => ∃ (P F : Hp) (n : En) (d : D) (Qd : En → Prop), IA K P F H σ n ∧ Rp K F v d ∧ gd d n Qd ∧ ∀ n' σ', Qd n' → IA K P F H σ' n' → (∀ j, j ∉ js → σ'[j]? = σ[j]?) → σ'.length = σ.length → Q σ' H
theorem snd_canG {K : PySem.W.Frag} {js : List Nat} {gd : TGd} : SndG K js (canG K js gd) gd := fun P F H σ n d v Qd Q I r h q => ⟨P, F, n, d, Qd, I, r, h, q⟩
theorem PGd.can {js : List Nat} {gd : TGd} (h : PGd X js e gd) : PG X e (canG X.K js gd) := by
  obtain ⟨t, a, b⟩ := h
  exact ⟨fun pins s σ H v u Q I r ⟨P, F, n, d, Qd, x1, x2, x3, x4⟩ => a.run pins s σ H v u Q I r (b P F H σ n d v Qd Q x1 x2 x3 x4)⟩
/-- [e for target in iter if ..], a new list. own: the block's own names with their slots -/
theorem pn_lc {elt tg iter : Expr} {ifs : List Expr} {scope : Scope} (own : List (Str × Nat)) {js : List Nat} {wd : TAd} {gd : TGd} {ttd : TTd} {ted : TEd} (hc : X.calm = true) (hN : X.N.Nodup) (hi : PId X G tg iter wd) (ok : BlkOk X.N X.env.scope scope own)
    (hg : ∀ (s : Shared) (H : Hp) (C : Addr) (cl : List (Str × Addr)) (fp : List Addr), PGd (X.blk s H scope (compEnvC scope cl C X.env) fp) js tg gd)
    (ht : ∀ (s : Shared) (H : Hp) (C : Addr) (cl : List (Str × Addr)) (fp : List Addr), PTsd (X.blk s H scope (compEnvC scope cl C X.env) fp) G0 ifs ttd)
    (he : ∀ (s : Shared) (H : Hp) (C : Addr) (cl : List (Str × Addr)) (fp : List Addr), PEd (X.blk s H scope (compEnvC scope cl C X.env) fp) G0 elt ted)
    (hj : ∀ j ∈ js, j ∈ own.map (·.2) := by decide) (hs : ∀ x, foldedSetIterable iter X.env x = pure x := by intro _; rfl) :
    PNd X G (.ListComp elt [⟨tg, iter, ifs, 0⟩] scope pos) (dLc wd gd ttd ted (own.map (·.2))) := by
  obtain ⟨wi, a1, b1⟩ := hi
  exact ⟨_, pe_lc hc hN a1 ok (fun s H C cl fp => (hg s H C cl fp).can) (fun s H C cl fp => (ht s H C cl fp).can) (fun s H C cl fp => (he s H C cl fp).can) hs, snd_lc hj b1 snd_canG snd_canT snd_canE⟩
/-- x = [..] on one line, x a local: kept as one's own, or frozen -/
theorem psd_setLcO (i : Nat) {y : Str} {py : Pos} {elt tg iter : Expr} {ifs : List Expr} {scope : Scope} (own : List (Str × Nat)) {pos spos : Pos} {js : List Nat} {wd : TAd} {gd : TGd} {ttd : TTd} {ted : TEd} (hc : X.calm = true) (hN : X.N.Nodup) (hi : PId X G tg iter wd) (ok : BlkOk X.N X.env.scope scope own)
    (hg : ∀ (s : Shared) (H : Hp) (C : Addr) (cl : List (Str × Addr)) (fp : List Addr), PGd (X.blk s H scope (compEnvC scope cl C X.env) fp) js tg gd)
    (ht : ∀ (s : Shared) (H : Hp) (C : Addr) (cl : List (Str × Addr)) (fp : List Addr), PTsd (X.blk s H scope (compEnvC scope cl C X.env) fp) G0 ifs ttd)
    (he : ∀ (s : Shared) (H : Hp) (C : Addr) (cl : List (Str × Addr)) (fp : List Addr), PEd (X.blk s H scope (compEnvC scope cl C X.env) fp) G0 elt ted)
    (hy : X.N[i]? = some y := by rfl) (hyl : X.env.scope.names.lookup y = some .local := by rfl)
    (hsw : swapsWith (.ListComp elt [⟨tg, iter, ifs, 0⟩] scope pos) (some (.Name y py)) spos.line X.env = pure true := by exact sw_true rfl rfl rfl (by decide +kernel))
    (hj : ∀ j ∈ js, j ∈ own.map (·.2) := by decide) (hs : ∀ x, foldedSetIterable iter X.env x = pure x := by intro _; rfl) :
    PSd X G (.Assign [.Name y py] (.ListComp elt [⟨tg, iter, ifs, 0⟩] scope pos) spos) (dSetO i (dLc wd gd ttd ted (own.map (·.2)))) := by
  obtain ⟨wi, a1, b1⟩ := hi
  exact ⟨_, ps_setLc hc hN hy hyl hsw a1 ok (fun s H C cl fp => (hg s H C cl fp).can) (fun s H C cl fp => (ht s H C cl fp).can) (fun s H C cl fp => (he s H C cl fp).can) hs, snd_setO (snd_lc hj b1 snd_canG snd_canT snd_canE)⟩
end
end DL

/-! D-layer: subscripts, built-ins, methods, texts. -/
namespace DL
open PySem PySem.Spec PyProof.Rows L2
section
variable {X : Cx} {G : Gd} {pos : Pos} {a b c e f : Expr} {da db dc de td : TEd} {dt : TAd} {es : List Expr}

/-! ### subscripts -/
theorem atI_rp {K : PySem.W.Frag} {F : Hp} {vs : List V} {ds : List D} {i : Int} {d : D} (r : RpA K F vs ds) (h : atI ds i = some d) : ∃ v, atI vs i = some v ∧ Rp K F v d := by
  unfold atI at h ⊢
  rw [RpA.length r]
  cases e : ixN ds.length i with
  | none => rw [e] at h; cases h
  | some j =>
    rw [e] at h
    exact RpA.get r h
def rdIx : RD2 := fun x y Q => match x, y with
  | .list ds, .int i => ∃ d, atI ds i = some d ∧ Q d
  | .tuple ds, .int i => ∃ d, atI ds i = some d ∧ Q d
  | .str z, .int i => z.length ≤ sizeLine ∧ ∃ c, atI z.cps.toList i = some c ∧ Q (.str ⟨#[c]⟩)
  | _, _ => False
theorem snd_ix {K : PySem.W.Frag} : SndR2 K (rIx K) rdIx := by
  intro P F H σ n x y v u Qd Q I rx ry h q
  unfold rdIx at h
  split at h
  · obtain ⟨d, hd, h⟩ := h
    cases ry
    cases rx with
    | lst h1 h2 =>
      obtain ⟨w, e, r⟩ := atI_rp h2 hd
      exact .inl ⟨_, _, _, w, rfl, rfl, .of (I.ff _ _ h1), e, q d w F H h I (Gr.refl P F) r⟩
  · obtain ⟨d, hd, h⟩ := h
    cases ry
    cases rx with
    | tup h1 h2 =>
      obtain ⟨w, e, r⟩ := atI_rp h2 hd
      exact .inr (.inl ⟨_, _, _, w, rfl, rfl, sm_seqT I.ff h1, e, q d w F H h I (Gr.refl P F) r⟩)
  · obtain ⟨hz, c, hc, h⟩ := h
    cases rx; cases ry
    exact .inr (.inr ⟨_, _, c, rfl, rfl, hz, hc, q _ _ F H h I (Gr.refl P F) (.str _)⟩)
  · exact h.elim
theorem pd_ix (ha : PEd X G a da) (hb : PEd X G b db) (hs : PlainIx b := by exact fun _ _ => rfl) : PEd X G (.Subscript a b pos) (dOp rdIx da db) := by
  obtain ⟨t, h1, h2⟩ := ha
  obtain ⟨u, h3, h4⟩ := hb
  exact ⟨_, pe_ix ix_seq h1 h3 hs, snd_op snd_ix h2 h4⟩
/-- xs[i], xs a name: nothing is frozen -/
def dIxN (i : Nat) (db : TEd) : TEd := fun n Q => match n[i]? with
  | some (Sl.val x) => db n fun y n1 => rdIx x y fun z => Q z n1
  | some (Sl.own _ _) => db n fun y n1 => match n1[i]? with
    | some (Sl.own _ ds) => ∃ k d, y = .int k ∧ atI ds k = some d ∧ Q d n1
    | _ => False
  | _ => False
theorem pd_ixN (i : Nat) {x : Str} {p : Pos} (hb : PEd X G b db) (hs : PlainIx b := by exact fun _ _ => rfl) (hN : X.N[i]? = some x := by rfl) (hv : Vis X.env.scope x := by first | exact Or.inl rfl | exact Or.inr (Or.inl rfl) | exact Or.inr (Or.inr rfl)) (hd : (x == ("__debug__" : Str)) = false := by decide)
    (hcd : (x == ("__classdict__" : Str)) = false := by decide) : PEd X G (.Subscript (.Name x p) b pos) (dIxN i db) := by
  obtain ⟨u, h3, h4⟩ := hb
  refine ⟨_, pe_ix ix_seq (pe_var hN hv hd hcd) h3 hs, ?_⟩
  intro P F H σ n Qd Q I g h q
  unfold dIxN at h
  split at h
  · rename_i d e
    obtain ⟨v, e1, r1⟩ := I.vl i d e
    refine ⟨v, e1, h4 P F H σ n _ _ I g h fun y n1 w F1 H1 h1 I1 g1 r2 => ?_⟩
    exact snd_ix P F1 H1 σ n1 d y v w _ _ I1 (Rp.mono g1.s d r1) r2 h1 fun z u F2 H2 h2 I2 g2 r3 => q z n1 u F2 H2 h2 I2 (g1.trans g2) r3
  · rename_i t ds e
    obtain ⟨A, e1, _⟩ := I.ow i t ds e
    refine ⟨_, e1, h4 P F H σ n _ _ I g h fun y n1 w F1 H1 h1 I1 g1 r2 => ?_⟩
    split at h1
    · rename_i t1 ds1 e2
      obtain ⟨A', y1, ⟨vs, y2, y3⟩, y4, y5⟩ := I1.ow i t1 ds1 e2
      rw [e1] at y1
      cases y1
      obtain ⟨k, d, rfl, hd, h1⟩ := h1
      cases r2
      obtain ⟨w, e, r⟩ := atI_rp y3 hd
      exact .inl ⟨_, _, _, w, rfl, rfl, .of y2, e, q d n1 w F1 H1 h1 I1 g1 r⟩
    · exact h1.elim
  · exact h.elim

/-! slices -/
abbrev TOd := En → (Option Int → En → Prop) → Prop
def SndO (K : PySem.W.Frag) (G : Gd) (t : TO) (td : TOd) : Prop := ∀ (P F H : Hp) (σ : L2.St) (n : En) (Qd : Option Int → En → Prop) (Q : Option Int → Hp → Prop), IA K P F H σ n → G.p P F → td n Qd →
  (∀ b n' F' H', Qd b n' → IA K P F' H' σ n' → Gr P F F' → Q b H') → t σ H Q
def POd (X : Cx) (G : Gd) (e : Option Expr) (td : TOd) : Prop := ∃ t, PO X e t ∧ SndO X.K G t td
def dNoP : TOd := fun n Q => Q none n
def dPart (de : TEd) : TOd := fun n Q => de n fun d n1 => match d with
  | .int i => Q (some i) n1
  | _ => False
theorem pod_none : POd X G none dNoP := ⟨_, po_none, fun P F H σ n Qd Q I g h q => q none n F H h I (Gr.refl P F)⟩
theorem pod_some (h : PEd X G e de) : POd X G (some e) (dPart de) := by
  obtain ⟨t, a, b⟩ := h
  refine ⟨_, po_some a, ?_⟩
  intro P F H σ n Qd Q I g h q
  refine b P F H σ n _ _ I g h fun d n1 v F1 H1 h1 I1 g1 r1 => ?_
  cases d with
  | int i => cases r1; exact ⟨i, rfl, q _ n1 F1 H1 h1 I1 g1⟩
  | _ => exact h1.elim
def cutD (xs : List D) (lo hi : Option Int) : List D := (xs.drop (HT.sIx xs.length 0 lo)).take (HT.sIx xs.length xs.length hi - HT.sIx xs.length 0 lo)
theorem cut_rp {K : PySem.W.Frag} {F : Hp} {vs : List V} {ds : List D} {lo hi : Option Int} (r : RpA K F vs ds) : RpA K F (cutV vs lo hi) (cutD ds lo hi) := by
  unfold cutV cutD
  rw [RpA.length r]
  exact (r.drop _).take _
/-- of a list: a new one -/
def dSlL (de : TEd) (dl dh : TOd) : TAd := fun n Q => de n fun d n1 => dl n1 fun l n2 => dh n2 fun u n3 => match d with
  | .list ds => Q (cutD ds l u) n3
  | _ => False
variable {lo hi : Option Expr} {dl dh : TOd} {p2 : Pos}
theorem pn_slice (he : PEd X G e de) (hl : POd X G lo dl) (hh : POd X G hi dh) : PNd X G (.Subscript e (.Slice lo hi none p2) pos) (dSlL de dl dh) := by
  obtain ⟨t, a1, b1⟩ := he
  obtain ⟨u, a2, b2⟩ := hl
  obtain ⟨w, a3, b3⟩ := hh
  refine ⟨_, pe_slice sl_list a1 a2 a3, ?_⟩
  intro P F H σ n Qd Q I g h q
  refine b1 P F H σ n _ _ I g h fun d n1 v F1 H1 h1 I1 g1 r1 => ?_
  refine b2 P F1 H1 σ n1 _ _ I1 (G.m g (Same.refl P) g1) h1 fun l n2 F2 H2 h2 I2 g2 => ?_
  refine b3 P F2 H2 σ n2 _ _ I2 (G.m g (Same.refl P) (g1.trans g2)) h2 fun o n3 F3 H3 h3 I3 g3 => ?_
  cases d with
  | list ds =>
    cases r1 with
    | @lst _ vs _ e1 e2 =>
      have g23 := g2.trans g3
      refine ⟨_, vs, rfl, .of (I3.ff _ _ (g23.s _ _ e1)), fun p hp => ?_⟩
      exact q _ n3 p _ F3 _ h3 (I3.newU hp) (g1.trans g23) upd_same (RpA.mono g23.s _ (cut_rp e2)) (I3.nF hp) (I3.nP hp) (I3.ownNe (o := .lst []) hp)
  | _ => exact h3.elim
/-- of a text -/
def dSlS (de : TEd) (dl dh : TOd) : TEd := fun n Q => de n fun d n1 => dl n1 fun l n2 => dh n2 fun u n3 => match d with
  | .str z => z.length ≤ sizeLine ∧ Q (.str (cutS z l u)) n3
  | _ => False
theorem pd_sliceS (he : PEd X G e de) (hl : POd X G lo dl) (hh : POd X G hi dh) : PEd X G (.Subscript e (.Slice lo hi none p2) pos) (dSlS de dl dh) := by
  obtain ⟨t, a1, b1⟩ := he
  obtain ⟨u, a2, b2⟩ := hl
  obtain ⟨w, a3, b3⟩ := hh
  refine ⟨_, pe_slice sl_str a1 a2 a3, ?_⟩
  intro P F H σ n Qd Q I g h q
  refine b1 P F H σ n _ _ I g h fun d n1 v F1 H1 h1 I1 g1 r1 => ?_
  refine b2 P F1 H1 σ n1 _ _ I1 (G.m g (Same.refl P) g1) h1 fun l n2 F2 H2 h2 I2 g2 => ?_
  refine b3 P F2 H2 σ n2 _ _ I2 (G.m g (Same.refl P) (g1.trans g2)) h2 fun o n3 F3 H3 h3 I3 g3 => ?_
  cases d with
  | str z =>
    cases r1
    exact ⟨z, rfl, h3.1, q _ n3 _ F3 H3 h3.2 I3 ((g1.trans g2).trans g3) (.str _)⟩
  | _ => exact h3.elim

/-! ### calls of built-ins, by values -/
def SndC (K : PySem.W.Frag) (r : List V → Hp → VK → Prop) (rd : List D → (D → Prop) → Prop) : Prop := ∀ (P F H : Hp) (σ : L2.St) (n : En) (xs : List D) (vs : List V) (Qd : D → Prop) (Q : VK), IA K P F H σ n → RpA K F vs xs → rd xs Qd →
  (∀ d w F' H', Qd d → IA K P F' H' σ n → Gr P F F' → Rp K F' w d → Q w H') → r vs H Q
def dCB (rd : List D → (D → Prop) → Prop) (dt : TAd) : TEd := fun n Q => dt n fun ds n1 => rd ds fun z => Q z n1
theorem snd_cb {K : PySem.W.Frag} {r : List V → Hp → VK → Prop} {rd : List D → (D → Prop) → Prop} {t : TA} (hr : SndC K r rd) (h : SndA K G t dt) : SndE K G (tCB r t) (dCB rd dt) := by
  intro P F H σ n Qd Q I g hd q
  refine h P F H σ n _ _ I g hd fun ds n1 vs F1 H1 h1 I1 g1 r1 => ?_
  exact hr P F1 H1 σ n1 ds vs _ _ I1 r1 h1 fun d w F2 H2 h2 I2 g2 r2 => q d n1 w F2 H2 h2 I2 (g1.trans g2) r2
variable {id T : String} {x : Str} {p : Pos}
theorem pd_callB {r : List V → Hp → VK → Prop} {rd : List D → (D → Prop) → Prop} (hc : CallR X (.builtin id) r) (hs : SndC X.K r rd) (hm : X.mg x = none) (ha : PAd X G (e :: es) dt) (hv : bootBuiltins x = some (.builtin id) := by decide +kernel) (hg : Gl X x := by rfl) (hn : x ≠ "__name__" := by decide) (hdb : (x == ("__debug__" : Str)) = false := by decide)
    (he : starEach (e :: es) X.env = (false, eval e X.env) :: starEach es X.env := by rfl) (hpl : (backTo pos (starEach es X.env)).any (·.1) = false := by rfl) : PEd X G (.Call (.Name x p) (e :: es) [] pos) (dCB rd dt) := by
  obtain ⟨t, a1, b1⟩ := ha
  exact ⟨_, pe_callB hc hg hm hv a1 hn hdb he hpl, snd_cb hs b1⟩
theorem pd_callTy {r : List V → Hp → VK → Prop} {rd : List D → (D → Prop) → Prop} (hc : CallR X (.type T) r) (hs : SndC X.K r rd) (hm : X.mg x = none) (ha : PAd X G (e :: es) dt) (hv : bootBuiltins x = some (.type T) := by decide +kernel) (hg : Gl X x := by rfl) (hn : x ≠ "__name__" := by decide) (hdb : (x == ("__debug__" : Str)) = false := by decide)
    (he : starEach (e :: es) X.env = (false, eval e X.env) :: starEach es X.env := by rfl) (hpl : (backTo pos (starEach es X.env)).any (·.1) = false := by rfl) : PEd X G (.Call (.Name x p) (e :: es) [] pos) (dCB rd dt) := by
  obtain ⟨t, a1, b1⟩ := ha
  exact ⟨_, pe_callTy hc hg hm hv a1 hn hdb he hpl, snd_cb hs b1⟩
/-- abs, max, min of ints -/
def rdAbs : List D → (D → Prop) → Prop := fun ds Q => match ds with
  | [.int i] => Q (.int (if i < 0 then -i else i))
  | _ => False
def rdMax2 : List D → (D → Prop) → Prop := fun ds Q => match ds with
  | [.int i, .int j] => Q (.int (if j > i then j else i))
  | _ => False
def rdMin2 : List D → (D → Prop) → Prop := fun ds Q => match ds with
  | [.int i, .int j] => Q (.int (if j < i then j else i))
  | _ => False
theorem snd_abs {K : PySem.W.Frag} : SndC K (fun xs H Q => ∃ i, xs = [.int i] ∧ Q (.int (if i < 0 then -i else i)) H) rdAbs := by
  intro P F H σ n xs vs Qd Q I r h q
  unfold rdAbs at h
  split at h
  · cases r with
    | cons r1 r2 => cases r2; cases r1; exact ⟨_, rfl, q _ _ F H h I (Gr.refl P F) (.int _)⟩
  · exact h.elim
theorem snd_max2 {K : PySem.W.Frag} : SndC K (fun xs H Q => ∃ i j, xs = [.int i, .int j] ∧ Q (.int (if j > i then j else i)) H) rdMax2 := by
  intro P F H σ n xs vs Qd Q I r h q
  unfold rdMax2 at h
  split at h
  · cases r with
    | cons r1 r2 => cases r2 with
      | cons r2 r3 => cases r3; cases r1; cases r2; exact ⟨_, _, rfl, q _ _ F H h I (Gr.refl P F) (.int _)⟩
  · exact h.elim
theorem snd_min2 {K : PySem.W.Frag} : SndC K (fun xs H Q => ∃ i j, xs = [.int i, .int j] ∧ Q (.int (if j < i then j else i)) H) rdMin2 := by
  intro P F H σ n xs vs Qd Q I r h q
  unfold rdMin2 at h
  split at h
  · cases r with
    | cons r1 r2 => cases r2 with
      | cons r2 r3 => cases r3; cases r1; cases r2; exact ⟨_, _, rfl, q _ _ F H h I (Gr.refl P F) (.int _)⟩
  · exact h.elim
theorem pd_abs (hm : X.mg "abs" = none) (ha : PEd X G e de) (hg : Gl X "abs" := by rfl) (hs : starEach (e :: []) X.env = (false, eval e X.env) :: starEach [] X.env := by rfl) : PEd X G (.Call (.Name "abs" p) [e] [] pos) (dCB rdAbs (dCons de dNil)) :=
  pd_callB call_abs snd_abs hm (pad_cons ha pad_nil hs) (hg := hg) (he := hs)
theorem pd_max2 (hm : X.mg "max" = none) (hc : X.calm = true) (ha : PAd X G [a, b] dt) (hg : Gl X "max" := by rfl) (hs : starEach (a :: [b]) X.env = (false, eval a X.env) :: starEach [b] X.env := by rfl) (hpl : (backTo pos (starEach [b] X.env)).any (·.1) = false := by rfl) : PEd X G (.Call (.Name "max" p) [a, b] [] pos) (dCB rdMax2 dt) :=
  pd_callB (call_max2 hc) snd_max2 hm ha (hg := hg) (he := hs) (hpl := hpl)
theorem pd_min2 (hm : X.mg "min" = none) (hc : X.calm = true) (ha : PAd X G [a, b] dt) (hg : Gl X "min" := by rfl) (hs : starEach (a :: [b]) X.env = (false, eval a X.env) :: starEach [b] X.env := by rfl) (hpl : (backTo pos (starEach [b] X.env)).any (·.1) = false := by rfl) : PEd X G (.Call (.Name "min" p) [a, b] [] pos) (dCB rdMin2 dt) :=
  pd_callB (call_min2 hc) snd_min2 hm ha (hg := hg) (he := hs) (hpl := hpl)
/-- int(..) of an int, a bool, a text -/
def rdInt : List D → (D → Prop) → Prop := fun ds Q => match ds with
  | [.int i] => Q (.int i)
  | [.bool k] => Q (.int (if k then 1 else 0))
  | [.str s] => ∃ n, PySem.intText? s = some n ∧ s.length ≤ 640 ∧ Q (.int n)
  | _ => False
def rIntAll : List V → Hp → VK → Prop := fun xs H Q => ((∃ i, xs = [.int i] ∧ Q (.int i) H) ∨ ∃ k, xs = [.bl k] ∧ Q (.int (if k then 1 else 0)) H) ∨ ∃ a n, xs = [.str a] ∧ PySem.intText? a = some n ∧ a.length ≤ 640 ∧ Q (.int n) H
theorem CallR.or {f : Value} {r r' : List V → Hp → VK → Prop} (h : CallR X f r) (h' : CallR X f r') : CallR X f (fun xs H Q => r xs H Q ∨ r' xs H Q) := by
  intro pins s σ H xs us Q I rs q
  rcases q with q | q
  · exact h pins s σ H xs us Q I rs q
  · exact h' pins s σ H xs us Q I rs q
theorem snd_int {K : PySem.W.Frag} : SndC K rIntAll rdInt := by
  intro P F H σ n xs vs Qd Q I r h q
  unfold rdInt at h
  split at h
  · cases r with
    | cons r1 r2 => cases r2; cases r1; exact .inl (.inl ⟨_, rfl, q _ _ F H h I (Gr.refl P F) (.int _)⟩)
  · cases r with
    | cons r1 r2 => cases r2; cases r1; exact .inl (.inr ⟨_, rfl, q _ _ F H h I (Gr.refl P F) (.int _)⟩)
  · cases r with
    | cons r1 r2 =>
      cases r2; cases r1
      obtain ⟨n, h1, h2, h⟩ := h
      exact .inr ⟨_, n, rfl, h1, h2, q _ _ F H h I (Gr.refl P F) (.int _)⟩
  · exact h.elim
theorem pd_intc (hm : X.mg "int" = none) (ha : PEd X G e de) (hg : Gl X "int" := by rfl) (hs : starEach (e :: []) X.env = (false, eval e X.env) :: starEach [] X.env := by rfl) : PEd X G (.Call (.Name "int" p) [e] [] pos) (dCB rdInt (dCons de dNil)) :=
  pd_callTy (CallR.or call_int1 call_int_str) snd_int hm (pad_cons ha pad_nil hs) (hg := hg) (he := hs)
/-- str(n) -/
def rdStr : List D → (D → Prop) → Prop := fun ds Q => match ds with
  | [.int i] => i.natAbs.log2 < 1920 ∧ Q (.str (toString i : String))
  | _ => False
theorem snd_strc {K : PySem.W.Frag} : SndC K (fun xs H Q => ∃ i, xs = [.int i] ∧ i.natAbs.log2 < 1920 ∧ Q (.str (toString i : String)) H) rdStr := by
  intro P F H σ n xs vs Qd Q I r h q
  unfold rdStr at h
  split at h
  · cases r with
    | cons r1 r2 => cases r2; cases r1; exact ⟨_, rfl, h.1, q _ _ F H h.2 I (Gr.refl P F) (.str _)⟩
  · exact h.elim
theorem pd_strc (hm : X.mg "str" = none) (ha : PEd X G e de) (hg : Gl X "str" := by rfl) (hs : starEach (e :: []) X.env = (false, eval e X.env) :: starEach [] X.env := by rfl) : PEd X G (.Call (.Name "str" p) [e] [] pos) (dCB rdStr (dCons de dNil)) :=
  pd_callTy call_str_int snd_strc hm (pad_cons ha pad_nil hs) (hg := hg) (he := hs)
/-- len(..) -/
def lenD : D → (D → Prop) → Prop := fun d Q => match d with
  | .list xs => Q (.int xs.length)
  | .tuple xs => Q (.int xs.length)
  | .str z => z.length ≤ sizeLine ∧ Q (.int z.length)
  | _ => False
def rdLen : List D → (D → Prop) → Prop := fun ds Q => match ds with
  | [d] => lenD d Q
  | _ => False
def rLenAll (K : PySem.W.Frag) : List V → Hp → VK → Prop := fun xs H Q => (∃ p ys, xs = [.ref p] ∧ (SqL K H p ys ∨ SqT K H p ys) ∧ Q (.int ys.length) H) ∨ ∃ z, xs = [.str z] ∧ z.length ≤ sizeLine ∧ Q (.int z.length) H
theorem snd_len {K : PySem.W.Frag} : SndC K (rLenAll K) rdLen := by
  intro P F H σ n xs vs Qd Q I r h q
  unfold rdLen at h
  split at h
  · rename_i d
    cases r with
    | cons r1 r2 =>
      cases r2
      cases d with
      | list ds =>
        cases r1 with
        | lst e1 e2 => exact .inl ⟨_, _, rfl, .inl (.of (I.ff _ _ e1)), by rw [RpA.length e2]; exact q _ _ F H h I (Gr.refl P F) (.int _)⟩
      | tuple ds =>
        cases r1 with
        | tup e1 e2 => exact .inl ⟨_, _, rfl, .inr (sm_seqT I.ff e1), by rw [RpA.length e2]; exact q _ _ F H h I (Gr.refl P F) (.int _)⟩
      | str z => cases r1; exact .inr ⟨z, rfl, h.1, q _ _ F H h.2 I (Gr.refl P F) (.int _)⟩
      | _ => exact h.elim
  · exact h.elim
theorem call_lenAll : CallR X (.builtin "len") (rLenAll X.K) := CallR.or call_len_seq call_len_str
theorem pd_len (hm : X.mg "len" = none) (ha : PEd X G e de) (hg : Gl X "len" := by rfl) (hs : starEach (e :: []) X.env = (false, eval e X.env) :: starEach [] X.env := by rfl) : PEd X G (.Call (.Name "len" p) [e] [] pos) (dCB rdLen (dCons de dNil)) :=
  pd_callB call_lenAll snd_len hm (pad_cons ha pad_nil hs) (hg := hg) (he := hs)
/-- len(xs), xs a name -/
def dLenN (i : Nat) : TEd := fun n Q => match n[i]? with
  | some (Sl.val d) => lenD d fun z => Q z n
  | some (Sl.own _ ds) => Q (.int ds.length) n
  | _ => False
theorem pd_lenN (i : Nat) {y : Str} {p1 : Pos} (hm : X.mg "len" = none) (hN : X.N[i]? = some y := by rfl) (hv : Vis X.env.scope y := by first | exact Or.inl rfl | exact Or.inr (Or.inl rfl) | exact Or.inr (Or.inr rfl)) (hd : (y == ("__debug__" : Str)) = false := by decide)
    (hcd : (y == ("__classdict__" : Str)) = false := by decide) (hg : Gl X "len" := by rfl) (hs : starEach (.Name y p1 :: []) X.env = (false, eval (.Name y p1) X.env) :: starEach [] X.env := by rfl) : PEd X G (.Call (.Name "len" p) [.Name y p1] [] pos) (dLenN i) := by
  refine ⟨_, pe_callB call_lenAll hg hm PySem.boot_len (pa_cons (pe_var hN hv hd hcd) pa_nil hs) (by decide) (by decide) hs rfl, ?_⟩
  intro P F H σ n Qd Q I g h q
  unfold dLenN at h
  split at h
  · rename_i d e
    obtain ⟨v, e1, r1⟩ := I.vl i d e
    exact ⟨v, e1, snd_len P F H σ n [d] [v] (fun z => Qd z n) Q I (.one r1) h fun z w F' H' h' I' g' r' => q z n w F' H' h' I' g' r'⟩
  · rename_i t ds e
    obtain ⟨A, e1, ⟨vs, e2, e3⟩, _, _⟩ := I.ow i t ds e
    exact ⟨_, e1, .inl ⟨A, vs, rfl, .inl (.of e2), by rw [RpA.length e3]; exact q _ n _ F H h I (Gr.refl P F) (.int _)⟩⟩
  · exact h.elim
/-- all([..]) -/
def boolsD : List D → Option (List Bool)
  | [] => some []
  | .bool b :: r => (boolsD r).map (b :: ·)
  | _ :: _ => none
def rdAll : List D → (D → Prop) → Prop := fun ds Q => match ds with
  | [.list xs] => ∃ bs, boolsD xs = some bs ∧ Q (.bool (bs.all _root_.id))
  | _ => False
theorem bools_rp {K : PySem.W.Frag} {F : Hp} : ∀ {vs : List V} {ds : List D} {bs : List Bool}, RpA K F vs ds → boolsD ds = some bs → vs = bs.map V.bl
  | _, [], _, h, e => by
    cases h
    cases e
    rfl
  | _, d :: ds, bs, h, e => by
    cases h with
    | cons h1 h2 =>
      cases d with
      | bool b =>
        cases h1
        unfold boolsD at e
        cases z : boolsD ds with
        | none => rw [z] at e; cases e
        | some cs =>
          rw [z] at e
          cases e
          rw [List.map_cons, bools_rp h2 z]
      | _ => cases e
theorem snd_all {K : PySem.W.Frag} : SndC K (rAll K) rdAll := by
  intro P F H σ n xs vs Qd Q I r h q
  unfold rdAll at h
  split at h
  · obtain ⟨bs, hb, h⟩ := h
    cases r with
    | cons r1 r2 =>
      cases r2
      cases r1 with
      | lst e1 e2 =>
        have := bools_rp e2 hb
        subst this
        exact ⟨_, bs, rfl, .of (I.ff _ _ e1), q _ _ F H h I (Gr.refl P F) (.bl _)⟩
  · exact h.elim
theorem pd_all (hm : X.mg "all" = none) (hc : X.calm = true) (ha : PEd X G e de) (hg : Gl X "all" := by rfl) (hs : starEach (e :: []) X.env = (false, eval e X.env) :: starEach [] X.env := by rfl) : PEd X G (.Call (.Name "all" p) [e] [] pos) (dCB rdAll (dCons de dNil)) :=
  pd_callB (cr_all hc) snd_all hm (pad_cons ha pad_nil hs) (hg := hg) (he := hs)
/-- list(xs): a new one -/
def dListOf (de : TEd) : TAd := fun n Q => de n fun d n1 => match d with
  | .list xs => Q xs n1
  | .tuple xs => Q xs n1
  | _ => False
theorem pn_listOf (hm : X.mg "list" = none) (ha : PEd X G e de) (hg : Gl X "list" := by rfl) (hs : starEach (e :: []) X.env = (false, eval e X.env) :: starEach [] X.env := by rfl) : PNd X G (.Call (.Name "list" p) [e] [] pos) (dListOf de) := by
  obtain ⟨t, a1, b1⟩ := ha
  refine ⟨_, pe_callTy call_list_of hg hm (by decide +kernel) (pa_cons a1 pa_nil hs) (by decide) (by decide) hs rfl, ?_⟩
  intro P F H σ n Qd Q I g h q
  refine b1 P F H σ n _ _ I g h fun d n1 v F1 H1 h1 I1 g1 r1 => ?_
  cases d with
  | list ds =>
    cases r1 with
    | lst e1 e2 => exact ⟨_, _, rfl, .inl (.of (I1.ff _ _ e1)), fun l hl => q _ n1 l _ F1 _ h1 (I1.newU hl) g1 upd_same e2 (I1.nF hl) (I1.nP hl) (I1.ownNe (o := .lst []) hl)⟩
  | tuple ds =>
    cases r1 with
    | tup e1 e2 => exact ⟨_, _, rfl, .inr (sm_seqT I1.ff e1), fun l hl => q _ n1 l _ F1 _ h1 (I1.newU hl) g1 upd_same e2 (I1.nF hl) (I1.nP hl) (I1.ownNe (o := .lst []) hl)⟩
  | _ => exact h1.elim
/-- a + b of lists: a new one -/
def dCatN (da db : TEd) : TAd := fun n Q => da n fun x n1 => db n1 fun y n2 => match x, y with
  | .list xs, .list ys => xs.length + ys.length ≤ sizeLine ∧ Q (xs ++ ys) n2
  | _, _ => False
theorem pn_cat (ha : PEd X G a da) (hb : PEd X G b db) : PNd X G (.BinOp a .Add b pos) (dCatN da db) := by
  obtain ⟨t, a1, b1⟩ := ha
  obtain ⟨u, a2, b2⟩ := hb
  refine ⟨_, pe_op op_cat a1 a2, ?_⟩
  intro P F H σ n Qd Q I g h q
  refine b1 P F H σ n _ _ I g h fun d n1 v F1 H1 h1 I1 g1 r1 => ?_
  refine b2 P F1 H1 σ n1 _ _ I1 (G.m g (Same.refl P) g1) h1 fun e n2 w F2 H2 h2 I2 g2 r2 => ?_
  split at h2
  · cases r1 with
    | @lst _ vs _ e1 e2 =>
      cases r2 with
      | @lst _ ws _ e3 e4 =>
        refine ⟨_, _, vs, ws, rfl, rfl, I2.ff _ _ (g2.s _ _ e1), I2.ff _ _ e3, by rw [RpA.length e2, RpA.length e4]; exact h2.1, fun p hp => ?_⟩
        exact q _ n2 p _ F2 _ h2.2 (I2.newU hp) (g1.trans g2) upd_same (RpA.append (RpA.mono g2.s _ e2) e4) (I2.nF hp) (I2.nP hp) (I2.ownNe (o := .lst []) hp)
  · exact h2.elim
/-- xs * k, n * m -/
def repD (xs : List D) (k : Nat) : List D := (List.replicate k xs).flatten
theorem rep_rp {K : PySem.W.Frag} {F : Hp} {vs : List V} {ds : List D} (r : RpA K F vs ds) : ∀ k, RpA K F (List.replicate k vs).flatten (repD ds k)
  | 0 => .nil
  | k + 1 => by
    unfold repD
    rw [List.replicate_succ, List.replicate_succ, List.flatten_cons, List.flatten_cons]
    exact RpA.append r (rep_rp r k)
def rdMul : RD2 := fun x y Q => match x, y with
  | .int i, .int j => CMul i j ∧ Q (.int (i * j))
  | .list xs, .int k => (-(2 ^ 63) ≤ k ∧ k < 2 ^ 63 ∧ xs.length * k.toNat ≤ sizeLine) ∧ Q (.list (repD xs k.toNat))
  | _, _ => False
def rMulAll : R2 := fun x y H Q => (rI CMul fun i j => .int (i * j)) x y H Q ∨ rRep x y H Q
theorem snd_mul {K : PySem.W.Frag} : SndR2 K rMulAll rdMul := by
  intro P F H σ n x y v u Qd Q I rx ry h q
  unfold rdMul at h
  split at h
  · cases rx; cases ry
    exact .inl ⟨_, _, rfl, rfl, h.1, q _ _ F H h.2 I (Gr.refl P F) (.int _)⟩
  · cases ry
    cases rx with
    | @lst _ vs _ e1 e2 =>
      refine .inr ⟨_, _, vs, rfl, rfl, I.ff _ _ e1, h.1.1, h.1.2.1, by rw [RpA.length e2]; exact h.1.2.2, fun p hp => ?_⟩
      rename_i xs k _
      have g := I.gnew (o := .lst (List.replicate k.toNat vs).flatten) hp
      exact q _ _ _ _ h.2 (I.new hp) g (.lst upd_same (RpA.mono g.s _ (rep_rp e2 _)))
  · exact h.elim
theorem pd_mul (ha : PEd X G a da) (hb : PEd X G b db) : PEd X G (.BinOp a .Mult b pos) (dOp rdMul da db) := pd_op (OpR.or op_mul op_rep) snd_mul ha hb
theorem pd_fdiv (ha : PEd X G a da) (hb : PEd X G b db) : PEd X G (.BinOp a .FloorDiv b pos) (dOp (rdI CDivN fun i j => i.fdiv j) da db) := pd_op op_fdivN snd_I ha hb
theorem pd_mod (ha : PEd X G a da) (hb : PEd X G b db) : PEd X G (.BinOp a .Mod b pos) (dOp (rdI (fun _ j => j ≠ 0) fun i j => i.fmod j) da db) := pd_op op_modN snd_I ha hb
def CPowW (i j : Int) : Prop := 0 ≤ j ∧ (Builtin.Int.intBits i : Int) * j ≤ 2 ^ 27
theorem op_powW : OpR X (binaryOp .Pow) (rI CPowW fun i j => .int (i ^ j.toNat)) := opI fun _ _ _ _ _ _ _ hc q => pow_int hc.1 hc.2 q
theorem pd_pow (ha : PEd X G a da) (hb : PEd X G b db) : PEd X G (.BinOp a .Pow b pos) (dOp (rdI CPowW fun i j => i ^ j.toNat) da db) := pd_op op_powW snd_I ha hb

/-! ### a list's methods, the list a name -/
variable {y : Str} {p1 apos : Pos}
theorem tyV_own {K : PySem.W.Frag} {H : Hp} {a : Addr} {vs : List V} (h : H a = some (.lst vs)) : tyV K "list" (.ref a) H := .inl ⟨rfl, _, .of h⟩
/-- xs.append(e) -/
def dApp (i : Nat) (de : TEd) : TSd := fun D n => isOwn n[i]? ∧ de n fun d n1 => match n1[i]? with
  | some (Sl.own t ds) => ds.length < sizeLine ∧ D.nx (n1.set i (Sl.own t (ds ++ [d])))
  | _ => False
theorem psd_app (i : Nat) (he : PEd X G e de) (hN : X.N[i]? = some y := by rfl) (hv : Vis X.env.scope y := by first | exact Or.inl rfl | exact Or.inr (Or.inl rfl) | exact Or.inr (Or.inr rfl)) (hd : (y == ("__debug__" : Str)) = false := by decide)
    (hcd : (y == ("__classdict__" : Str)) = false := by decide)
    (hbase : attributeBase (.Name y p1) "append" X.env (eval (.Name y p1) X.env) = eval (.Name y p1) X.env := by rfl)
    (hfew : ((backTo pos (starEach (e :: []) X.env)).all (fun x => !x.1) && (backToKw pos (keywordEach [] X.env)).all (fun x => x.1.isSome)
      && decide ((e :: []).length + ([] : List Keyword).length + (if ([] : List Keyword).isEmpty then 0 else 1) < 30)) = true := by rfl)
    (hline : (apos.endLine == pos.line) = true := by rfl) (hs : starEach (e :: []) X.env = (false, eval e X.env) :: starEach [] X.env := by rfl) (hplain : (backTo pos (starEach [] X.env)).any (·.1) = false := by rfl)
    (hsw : swapsWith (.Call (.Attribute (.Name y p1) "append" apos) [e] [] pos) none p2.line X.env = pure false := by rfl) : PSd X G (.Expr (.Call (.Attribute (.Name y p1) "append" apos) [e] [] pos) p2) (dApp i de) := by
  obtain ⟨t, a1, b1⟩ := he
  refine ⟨_, ps_expr (pe_bm PySem.F.plainAttrs_list PySem.F.slot_list_append PySem.F.type_list_append mt_append (pe_var hN hv hd hcd) (pa_cons a1 pa_nil hs) hbase hfew hline hs hplain) hsw, ?_⟩
  intro P F H σ n Dd Dn I g h q
  obtain ⟨e0, h⟩ := h
  obtain ⟨t0, ds0, e0⟩ := e0.ex
  obtain ⟨A, e1, ⟨vs0, e2, _⟩, _, _⟩ := I.ow i t0 ds0 e0
  refine ⟨_, e1, tyV_own e2, b1 P F H σ n _ _ I g h fun d n1 w F1 H1 h1 I1 g1 r1 => ?_⟩
  split at h1
  · rename_i t ds e3
    obtain ⟨A', y1, ⟨vs, y2, y3⟩, y4, y5⟩ := I1.ow i t ds e3
    rw [e1] at y1
    cases y1
    exact ⟨A, vs, w, rfl, rfl, y2, by rw [RpA.length y3]; exact h1.1, q.nx _ _ F1 _ h1.2 (I1.mut e3 e1 (RpA.append y3 (.one r1))) g1⟩
  · exact h1.elim
/-- xs.pop(e) -/
def dPopAt (i : Nat) (de : TEd) : TEd := fun n Q => isOwn n[i]? ∧ de n fun d n1 => match n1[i]? with
  | some (Sl.own t ds) => ∃ z k x, d = .int z ∧ (-(2 ^ 63) ≤ z ∧ z < 2 ^ 63) ∧ seqIndex? z ds.length = some k ∧ ds[k]? = some x ∧ Q x (n1.set i (Sl.own t (ds.eraseIdx k)))
  | _ => False
theorem pd_popAt (i : Nat) (he : PEd X G e de) (hN : X.N[i]? = some y := by rfl) (hv : Vis X.env.scope y := by first | exact Or.inl rfl | exact Or.inr (Or.inl rfl) | exact Or.inr (Or.inr rfl)) (hd : (y == ("__debug__" : Str)) = false := by decide)
    (hcd : (y == ("__classdict__" : Str)) = false := by decide)
    (hbase : attributeBase (.Name y p1) "pop" X.env (eval (.Name y p1) X.env) = eval (.Name y p1) X.env := by rfl)
    (hfew : ((backTo pos (starEach (e :: []) X.env)).all (fun x => !x.1) && (backToKw pos (keywordEach [] X.env)).all (fun x => x.1.isSome)
      && decide ((e :: []).length + ([] : List Keyword).length + (if ([] : List Keyword).isEmpty then 0 else 1) < 30)) = true := by rfl)
    (hline : (apos.endLine == pos.line) = true := by rfl) (hs : starEach (e :: []) X.env = (false, eval e X.env) :: starEach [] X.env := by rfl) (hplain : (backTo pos (starEach [] X.env)).any (·.1) = false := by rfl) :
    PEd X G (.Call (.Attribute (.Name y p1) "pop" apos) [e] [] pos) (dPopAt i de) := by
  obtain ⟨t, a1, b1⟩ := he
  refine ⟨_, pe_bm PySem.F.plainAttrs_list PySem.F.slot_list_pop PySem.F.type_list_pop mt_popAt (pe_var hN hv hd hcd) (pa_cons a1 pa_nil hs) hbase hfew hline hs hplain, ?_⟩
  intro P F H σ n Qd Q I g h q
  obtain ⟨e0, h⟩ := h
  obtain ⟨t0, ds0, e0⟩ := e0.ex
  obtain ⟨A, e1, ⟨vs0, e2, _⟩, _, _⟩ := I.ow i t0 ds0 e0
  refine ⟨_, e1, tyV_own e2, b1 P F H σ n _ _ I g h fun d n1 w F1 H1 h1 I1 g1 r1 => ?_⟩
  split at h1
  · rename_i t ds e3
    obtain ⟨z, k, x, rfl, ⟨h5, h6⟩, h7, h8, h1⟩ := h1
    cases r1
    obtain ⟨A', y1, ⟨vs, y2, y3⟩, y4, y5⟩ := I1.ow i t ds e3
    rw [e1] at y1
    cases y1
    obtain ⟨v, e4, r4⟩ := RpA.get y3 h8
    exact ⟨A, vs, z, k, v, rfl, rfl, y2, h5, h6, by rw [RpA.length y3]; exact h7, e4, q _ _ v F1 _ h1 (I1.mut e3 e1 (RpA.eraseIdx k y3)) g1 r4⟩
  · exact h1.elim

/-! ### texts -/
def strsD : List D → Option (List Str)
  | [] => some []
  | .str b :: r => (strsD r).map (b :: ·)
  | _ :: _ => none
theorem strs_rp {K : PySem.W.Frag} {F : Hp} : ∀ {vs : List V} {ds : List D} {bs : List Str}, RpA K F vs ds → strsD ds = some bs → vs = bs.map V.str
  | _, [], _, h, e => by
    cases h
    cases e
    rfl
  | _, d :: ds, bs, h, e => by
    cases h with
    | cons h1 h2 =>
      cases d with
      | str b =>
        cases h1
        unfold strsD at e
        cases z : strsD ds with
        | none => rw [z] at e; cases e
        | some cs =>
          rw [z] at e
          cases e
          rw [List.map_cons, strs_rp h2 z]
      | _ => cases e
theorem strsD_map (xs : List Str) : strsD (xs.map .str) = some xs := by
  induction xs with
  | nil => rfl
  | cons x r ih => rw [List.map_cons, strsD, ih]; rfl
theorem rp_strs {K : PySem.W.Frag} {F : Hp} : ∀ xs : List Str, RpA K F (xs.map V.str) (xs.map .str)
  | [] => .nil
  | x :: r => .cons (.str x) (rp_strs r)
/-- s.split(t): a new list -/
def dSplit (da db : TEd) : TAd := fun n Q => da n fun x n1 => match x with
  | .str s => db n1 fun y n2 => match y with
    | .str t => (t.length == 0) = false ∧ s.length + 2 ≤ sizeLine ∧ Q ((Txt.split s t).map .str) n2
    | _ => False
  | _ => False
theorem pn_split (ha : PEd X G a da) (hb : PEd X G b db) (hs : starEach [b] X.env = [(false, eval b X.env)] := by rfl) (hbase : attributeBase a "split" X.env (eval a X.env) = eval a X.env := by rfl) (hline : (apos.endLine == pos.line) = true := by rfl) :
    PNd X G (.Call (.Attribute a "split" apos) [b] [] pos) (dSplit da db) := by
  obtain ⟨t, a1, b1⟩ := ha
  obtain ⟨u, a2, b2⟩ := hb
  refine ⟨_, pe_split a1 a2 hs hbase hline, ?_⟩
  intro P F H σ n Qd Q I g h q
  refine b1 P F H σ n _ _ I g h fun d n1 v F1 H1 h1 I1 g1 r1 => ?_
  cases d with
  | str s =>
    cases r1
    refine ⟨⟨s, rfl⟩, b2 P F1 H1 σ n1 _ _ I1 (G.m g (Same.refl P) g1) h1 fun e n2 w F2 H2 h2 I2 g2 r2 => ?_⟩
    cases e with
    | str t =>
      cases r2
      exact ⟨s, t, rfl, rfl, h2.1, h2.2.1, fun p hp => q _ n2 p _ F2 _ h2.2.2 (I2.newU hp) (g1.trans g2) upd_same (rp_strs _) (I2.nF hp) (I2.nP hp) (I2.ownNe (o := .lst []) hp)⟩
    | _ => exact h2.elim
  | _ => exact h1.elim
/-- a text's method with one argument, by values -/
def SndM1 (K : PySem.W.Frag) (r : V → List V → Hp → VK → Prop) (rd : Str → D → (D → Prop) → Prop) : Prop := ∀ (P F H : Hp) (σ : L2.St) (n : En) (s : Str) (y : D) (u : V) (Qd : D → Prop) (Q : VK), IA K P F H σ n → Rp K F u y → rd s y Qd →
  (∀ d w F' H', Qd d → IA K P F' H' σ n → Gr P F F' → Rp K F' w d → Q w H') → r (.str s) [u] H Q
def dM1 (rd : Str → D → (D → Prop) → Prop) (da db : TEd) : TEd := fun n Q => da n fun x n1 => match x with
  | .str s => db n1 fun y n2 => rd s y fun z => Q z n2
  | _ => False
theorem pd_m1 {id : String} {name : Str} {r : V → List V → Hp → VK → Prop} {rd : Str → D → (D → Prop) → Prop} (slot : Slot "str" name id) (ty : typeOf (.builtin id) = pure (.type "method_descriptor")) (rule : MtR X id r) (hr : SndM1 X.K r rd) (ha : PEd X G a da) (hb : PEd X G b db)
    (hs : starEach [b] X.env = [(false, eval b X.env)] := by rfl) (hbase : attributeBase a name X.env (eval a X.env) = eval a X.env := by rfl) (hline : (apos.endLine == pos.line) = true := by rfl) : PEd X G (.Call (.Attribute a name apos) [b] [] pos) (dM1 rd da db) := by
  obtain ⟨t, a1, b1⟩ := ha
  obtain ⟨u, a2, b2⟩ := hb
  refine ⟨_, pe_m1 slot ty rule a1 a2 hs hbase hline, ?_⟩
  intro P F H σ n Qd Q I g h q
  refine b1 P F H σ n _ _ I g h fun d n1 v F1 H1 h1 I1 g1 r1 => ?_
  cases d with
  | str s =>
    cases r1
    refine ⟨⟨s, rfl⟩, b2 P F1 H1 σ n1 _ _ I1 (G.m g (Same.refl P) g1) h1 fun e n2 w F2 H2 h2 I2 g2 r2 => ?_⟩
    exact hr P F2 H2 σ n2 s e w _ _ I2 r2 h2 fun z w' F3 H3 h3 I3 g3 r3 => q z n2 w' F3 H3 h3 I3 ((g1.trans g2).trans g3) r3
  | _ => exact h1.elim
def rdPartition : Str → D → (D → Prop) → Prop := fun s y Q => match y with
  | .str t => (t.length == 0) = false ∧ s.length ≤ sizeLine ∧ Q (.tuple [.str (Txt.partition s t).1, .str (Txt.partition s t).2.1, .str (Txt.partition s t).2.2])
  | _ => False
theorem snd_partition {K : PySem.W.Frag} : SndM1 K (fun x xs H Q => ∃ a b, x = .str a ∧ xs = [.str b] ∧ (b.length == 0) = false ∧ a.length ≤ sizeLine ∧
      ∀ p, H p = none → Q (.ref p) (upd H p (.tup [.str (Txt.partition a b).1, .str (Txt.partition a b).2.1, .str (Txt.partition a b).2.2]))) rdPartition := by
  intro P F H σ n s y u Qd Q I ry h q
  cases y with
  | str t =>
    cases ry
    refine ⟨s, t, rfl, rfl, h.1, h.2.1, fun p hp => ?_⟩
    exact q _ _ _ _ h.2.2 (I.new hp) (I.gnew hp) (.tup (.of upd_same) (.cons (.str _) (.cons (.str _) (.cons (.str _) .nil))))
  | _ => exact h.elim
theorem pd_partition (ha : PEd X G a da) (hb : PEd X G b db) (hs : starEach [b] X.env = [(false, eval b X.env)] := by rfl) (hbase : attributeBase a "partition" X.env (eval a X.env) = eval a X.env := by rfl) (hline : (apos.endLine == pos.line) = true := by rfl) : PEd X G (.Call (.Attribute a "partition" apos) [b] [] pos) (dM1 rdPartition da db) :=
  pd_m1 F.slot_str_partition F.type_str_partition mt_partition snd_partition ha hb hs hbase hline
def rdJoin : Str → D → (D → Prop) → Prop := fun s y Q => match y with
  | .list ds => ∃ ys, strsD ds = some ys ∧ (ys.map (·.length)).sum + ys.length * s.length ≤ 16777216 ∧ Q (.str (Txt.join s ys))
  | .tuple ds => ∃ ys, strsD ds = some ys ∧ (ys.map (·.length)).sum + ys.length * s.length ≤ 16777216 ∧ Q (.str (Txt.join s ys))
  | _ => False
theorem snd_join {K : PySem.W.Frag} : SndM1 K (fun x xs H Q => ∃ a p, ∃ ys : List Str, x = .str a ∧ xs = [.ref p] ∧ (SqL K H p (ys.map V.str) ∨ SqT K H p (ys.map V.str)) ∧
      (ys.map (·.length)).sum + ys.length * a.length ≤ 16777216 ∧ Q (.str (Txt.join a ys)) H) rdJoin := by
  intro P F H σ n s y u Qd Q I ry h q
  cases y with
  | list ds =>
    obtain ⟨ys, hy, hz, h⟩ := h
    cases ry with
    | lst e1 e2 =>
      have := strs_rp e2 hy
      subst this
      exact ⟨s, _, ys, rfl, rfl, .inl (.of (I.ff _ _ e1)), hz, q _ _ F H h I (Gr.refl P F) (.str _)⟩
  | tuple ds =>
    obtain ⟨ys, hy, hz, h⟩ := h
    cases ry with
    | tup e1 e2 =>
      have := strs_rp e2 hy
      subst this
      exact ⟨s, _, ys, rfl, rfl, .inr (sm_seqT I.ff e1), hz, q _ _ F H h I (Gr.refl P F) (.str _)⟩
  | _ => exact h.elim
theorem pd_join (ha : PEd X G a da) (hb : PEd X G b db) (hs : starEach [b] X.env = [(false, eval b X.env)] := by rfl) (hbase : attributeBase a "join" X.env (eval a X.env) = eval a X.env := by rfl) (hline : (apos.endLine == pos.line) = true := by rfl) : PEd X G (.Call (.Attribute a "join" apos) [b] [] pos) (dM1 rdJoin da db) :=
  pd_m1 F.slot_str_join F.type_str_join mt_join snd_join ha hb hs hbase hline

/-! f-strings -/
def fmtD (d : D) (Q : Str → Prop) : Prop := match d with
  | .str y => y.length ≤ sizeLine ∧ Q y
  | .int i => i.natAbs.log2 < 1920 ∧ Q (toString i : String)
  | _ => False
def dFmt (de : TEd) : TEd := fun n Q => de n fun d n1 => fmtD d fun y => Q (.str y) n1
theorem pd_fmt (he : PEd X G e de) : PEd X G (.FormattedValue e (-1) none pos) (dFmt de) := by
  obtain ⟨t, a1, b1⟩ := he
  refine ⟨_, pe_fmt a1, ?_⟩
  intro P F H σ n Qd Q I g h q
  refine b1 P F H σ n _ _ I g h fun d n1 v F1 H1 h1 I1 g1 r1 => ?_
  cases d with
  | str y => cases r1; exact .inl ⟨y, rfl, h1.1, q _ n1 _ F1 H1 h1.2 I1 g1 (.str _)⟩
  | int i => cases r1; exact .inr ⟨i, rfl, h1.1, q _ n1 _ F1 H1 h1.2 I1 g1 (.str _)⟩
  | _ => exact h1.elim
inductive PJd (X : Cx) (G : Gd) : List Expr → List TEd → Prop where
  | nil : PJd X G [] []
  | cons {e : Expr} {t : TEd} {es : List Expr} {ts : List TEd} (h : PEd X G e t) (r : PJd X G es ts) : PJd X G (e :: es) (t :: ts)
def joinsD : List TEd → Str → En → (Str → En → Prop) → Prop
  | [], acc, n, Q => Q acc n
  | t :: ts, acc, n, Q => t n fun x n1 => match x with
    | .str y => (acc ++ y).length ≤ sizeLine ∧ joinsD ts (acc ++ y) n1 Q
    | _ => False
theorem snd_pj {es : List Expr} {ts : List TEd} (h : PJd X G es ts) : ∃ us, PJ X es us ∧ ∀ (acc : Str) (P F H : Hp) (σ : L2.St) (n : En) (Qd : Str → En → Prop) (Q : Str → Hp → Prop), IA X.K P F H σ n → G.p P F → joinsD ts acc n Qd →
    (∀ d n' F' H', Qd d n' → IA X.K P F' H' σ n' → Gr P F F' → Q d H') → tJs us acc σ H Q := by
  induction h with
  | nil => exact ⟨[], .nil, fun acc P F H σ n Qd Q I g h q => q acc n F H h I (Gr.refl P F)⟩
  | cons h r ih =>
    obtain ⟨us, j1, j2⟩ := ih
    obtain ⟨t, a1, b1⟩ := h
    refine ⟨t :: us, .cons a1 j1, fun acc P F H σ n Qd Q I g h q => ?_⟩
    refine b1 P F H σ n _ _ I g h fun d n1 v F1 H1 h1 I1 g1 r1 => ?_
    cases d with
    | str y =>
      cases r1
      exact ⟨y, rfl, h1.1, j2 _ P F1 H1 σ n1 _ _ I1 (G.m g (Same.refl P) g1) h1.2 fun d n' F' H' x1 x2 x3 => q d n' F' H' x1 x2 (g1.trans x3)⟩
    | _ => exact h1.elim
def dJoined (ts : List TEd) : TEd := fun n Q => joinsD ts Str.empty n fun s n1 => Q (.str s) n1
theorem pd_joined {v1 v2 : Expr} {rest : List Expr} {ts : List TEd} (h : PJd X G (v1 :: v2 :: rest) ts) : PEd X G (.JoinedStr (v1 :: v2 :: rest) pos) (dJoined ts) := by
  obtain ⟨us, j1, j2⟩ := snd_pj h
  refine ⟨_, pe_joined j1, ?_⟩
  intro P F H σ n Qd Q I g h q
  exact j2 _ P F H σ n _ _ I g h fun s n' F' H' x1 x2 x3 => q _ n' _ F' H' x1 x2 x3 (.str _)

/-! isinstance -/
def tyD : D → String
  | .none => "NoneType"
  | .bool _ => "bool"
  | .int _ => "int"
  | .str _ => "str"
  | .list _ => "list"
  | .tuple _ => "tuple"
  | .dict _ => "dict"
theorem tyX_rp {K : PySem.W.Frag} {F H : Hp} {d : D} {v : V} (r : Rp K F v d) (s : Same F H) : TyX K H v (.type (tyD d)) := by
  cases r with
  | non => exact .base .non
  | bl b => exact .base (.bl b)
  | int i => exact .base (.int i)
  | str x => exact .base (.str x)
  | lst e1 e2 => exact .base (.lst (s _ _ e1))
  | tup e1 e2 =>
    rcases e1 with (e | ⟨o, e⟩) | ⟨o, its, n, k, c, _⟩
    · exact .base (.tup (s _ _ e))
    · exact .fTuple (s _ _ e)
    · exact .kTuple k c
def dIsi (T : String) (de : TEd) : TEd := fun n Q => de n fun d n1 => ∃ b, kitB (tyD d) T = some b ∧ Q (.bool b) n1
theorem pd_isi {ty : Str} {p2 : Pos} (T : String) (hm : X.mg "isinstance" = none) (hm2 : X.mg ty = none) (he : PEd X G e de) (hv2 : bootBuiltins ty = some (.type T) := by decide +kernel) (hg : Gl X "isinstance" := by rfl) (hg2 : Gl X ty := by rfl) (hn : ty ≠ "__name__" := by decide) (hd : (ty == ("__debug__" : Str)) = false := by decide)
    (hs : starEach (e :: [.Name ty p2]) X.env = (false, eval e X.env) :: starEach [.Name ty p2] X.env := by rfl) (hs2 : starEach (.Name ty p2 :: []) X.env = (false, eval (.Name ty p2) X.env) :: starEach [] X.env := by rfl) (hpl : (backTo pos (starEach [.Name ty p2] X.env)).any (·.1) = false := by rfl) :
    PEd X G (.Call (.Name "isinstance" p) [e, .Name ty p2] [] pos) (dIsi T de) := by
  obtain ⟨t, a1, b1⟩ := he
  refine ⟨_, pe_callB call_isi hg hm (by decide +kernel) (pa_cons a1 (pa_cons (pe_bltn (v := .ty T) hg2 hm2 hv2 rfl hn hd) pa_nil hs2) hs) (by decide) (by decide) hs hpl, ?_⟩
  intro P F H σ n Qd Q I g h q
  refine b1 P F H σ n _ _ I g h fun d n1 v F1 H1 h1 I1 g1 r1 => ?_
  obtain ⟨b, hb, h1⟩ := h1
  exact ⟨v, .ty T, _, _, b, rfl, .ty T, tyX_rp r1 I1.ff, kit_ty hb, q _ n1 _ F1 H1 h1 I1 g1 (.bl _)⟩

/-! *xs in an argument list -/
def dStar (de : TEd) (dt : TAd) : TAd := fun n Q => de n fun d n1 => match d with
  | .list xs => dt n1 fun ys n2 => Q (xs ++ ys) n2
  | .tuple xs => dt n1 fun ys n2 => Q (xs ++ ys) n2
  | _ => False
end
end DL

/-! D-layer: defs and their calls, exceptions. -/
namespace DL
open PySem PySem.Spec PyProof.Rows L2

/-! ### promises over plain data -/
abbrev Spd0 := List D → (D → Prop) → Prop
/-- args: the owned list, the others; what comes back, the owned list behind -/
abbrev SpdP := List D → List D → (D → List D → Prop) → Prop
abbrev SpdX := List D → (D → Prop) → (Str → D → Prop) → Prop
def rem (H : Hp) (a : Addr) : Hp := fun b => if b = a then none else H b
theorem rem_same {H : Hp} {a : Addr} : rem H a a = none := if_pos rfl
theorem rem_ne {H : Hp} {a b : Addr} (h : b ≠ a) : rem H a b = H b := if_neg h
theorem rem_sub {H : Hp} {a : Addr} : Same (rem H a) H := fun b o e => by
  by_cases h : b = a
  · rw [h, rem_same] at e; cases e
  · rw [rem_ne h] at e; exact e
def sp0 (K : PySem.W.Frag) (sd : Spd0) : Sp := fun vs H Q _ => ∃ (F : Hp) (ds : List D) (Qd : D → Prop), Same F H ∧ RpA K F vs ds ∧ sd ds Qd ∧
  ∀ d v F' H', Qd d → Same H H' → Same F' H' → Gr H F F' → Rp K F' v d → Q v H'
def spP (K : PySem.W.Frag) (sd : SpdP) : Sp := fun vs H Q _ => ∃ (F : Hp) (a : Addr) (pvs : List V) (pds : List D) (ws : List V) (ds : List D) (Qd : D → List D → Prop), vs = .ref a :: ws ∧ Same F H ∧ H a = some (.lst pvs) ∧ RpA K F pvs pds ∧ F a = none ∧ RpA K F ws ds ∧ sd pds ds Qd ∧
  ∀ d pds' v pvs' F' H', Qd d pds' → Same (rem H a) H' → Same F' H' → Gr (rem H a) F F' → H' a = some (.lst pvs') → RpA K F' pvs' pds' → F' a = none → Rp K F' v d → Q v H'
def spX (K : PySem.W.Frag) (mg : Str → Option Value) (sd : SpdX) : Sp := fun vs H Q E => ∃ (F : Hp) (ds : List D) (Qd : D → Prop) (Ed : Str → D → Prop), Same F H ∧ RpA K F vs ds ∧ sd ds Qd Ed ∧
  (∀ d v F' H', Qd d → Same H H' → Same F' H' → Gr H F F' → Rp K F' v d → Q v H') ∧
  ∀ x C d v dx F' H', mg x = some (.ref C) → Ed x d → Same H H' → Same F' H' → Gr H F F' → H' dx = some (.xd [(("value" : Str), v)]) → Rp K F' v d → E (.ref C) (some dx) H'
structure Cal (P : Program) (w : World) (K : PySem.W.Frag) (mg : Str → Option Value) (base : Heap) (CXx : CXT) (nm : Str) (k : Nat) (ps : List Str) (sp : Sp) : Prop where
  ex : ∃ (f : Addr) (fd : FuncData), FnOk P w K mg base CXx k f fd ps sp ∧ mg nm = some (.ref f) ∧ PySem.W.keepIn K (.ref f) = true ∧ Binds K fd ps []
abbrev Cal0 (P : Program) (w : World) (K : PySem.W.Frag) (mg : Str → Option Value) (base : Heap) (nm : Str) (k : Nat) (ps : List Str) (sd : Spd0) : Prop := Cal P w K mg base CX0 nm k ps (sp0 K sd)
abbrev CalP (P : Program) (w : World) (K : PySem.W.Frag) (mg : Str → Option Value) (base : Heap) (nm : Str) (k : Nat) (ps : List Str) (sd : SpdP) : Prop := Cal P w K mg base CX0 nm k ps (spP K sd)
abbrev CalX (P : Program) (w : World) (K : PySem.W.Frag) (mg : Str → Option Value) (base : Heap) (nm : Str) (k : Nat) (ps : List Str) (sd : SpdX) : Prop := Cal P w K mg base (L2.CX P w) nm k ps (spX K mg sd)
theorem Cal.mono {P : Program} {w : World} {K : PySem.W.Frag} {mg : Str → Option Value} {base : Heap} {CXx : CXT} {nm : Str} {j k : Nat} {ps : List Str} {sp : Sp} (c : Cal P w K mg base CXx nm j ps sp) (h : j ≤ k) : Cal P w K mg base CXx nm k ps sp := by
  obtain ⟨f, fd, a, b⟩ := c.ex
  exact ⟨f, fd, a.mono h, b⟩

section
variable {X : Cx} {G : Gd} {pos p : Pos} {e : Expr} {es : List Expr} {de : TEd} {dt : TAd} {nm : Str} {k : Nat} {ps : List Str}

/-! ### calls -/
def dCall (sd : Spd0) (dt : TAd) : TEd := fun n Q => dt n fun ds n1 => sd ds fun d => Q d n1
theorem snd_call {K : PySem.W.Frag} {sd : Spd0} {t : TA} {E : XK} (h : SndA K G t dt) : SndE K G (tCall (sp0 K sd) [] E t) (dCall sd dt) := by
  intro P F H σ n Qd Q I g hd q
  refine h P F H σ n _ _ I g hd fun ds n1 vs F1 H1 h1 I1 g1 r1 => ?_
  show sp0 K sd (vs ++ []) H1 Q E
  rw [List.append_nil]
  exact ⟨F1, ds, _, I1.ff, r1, h1, fun d v F' H' h2 s f gr r => q d n1 v F' H' h2 (I1.grow gr s f) (g1.trans (gr.of I1.pf)) r⟩
theorem pd_call {sd : Spd0} (c : Cal0 X.prog X.w X.K X.mg X.base nm k ps sd) (hr : Room k X.A) (ha : PAd X G (e :: es) dt) (hg : Gl X nm := by rfl) (hdb : (nm == ("__debug__" : Str)) = false := by decide) (he : starEach (e :: es) X.env = (false, eval e X.env) :: starEach es X.env := by rfl) (hpl : (backTo pos (starEach es X.env)).any (·.1) = false := by rfl) :
    PEd X G (.Call (.Name nm p) (e :: es) [] pos) (dCall sd dt) := by
  obtain ⟨f, fd, F, gm, kp, b⟩ := c.ex
  obtain ⟨t, a1, b1⟩ := ha
  exact ⟨_, pe_call (E := E0) F hr hg gm kp b .nil pass0 a1 hdb he hpl, snd_call b1⟩
theorem pd_call0 {sd : Spd0} (c : Cal0 X.prog X.w X.K X.mg X.base nm k ps sd) (hr : Room k X.A) (hg : Gl X nm := by rfl) (hdb : (nm == ("__debug__" : Str)) = false := by decide) : PEd X G (.Call (.Name nm p) [] [] pos) (dCall sd dNil) := by
  obtain ⟨f, fd, F, gm, kp, b⟩ := c.ex
  exact ⟨_, pe_call0 (E := E0) F hr hg gm kp b .nil pass0 hdb, snd_call fun P F H σ n Qd Q I g h q => q [] n [] F H h I (Gr.refl P F) .nil⟩
/-- the first argument a name whose list is one's own -/
def dCallP (i : Nat) (sd : SpdP) (dt : TAd) : TEd := fun n Q => isOwn n[i]? ∧ dt n fun ds n1 => match n1[i]? with
  | some (Sl.own t pds) => sd pds ds fun d pds' => Q d (n1.set i (Sl.own t pds'))
  | _ => False
theorem snd_callP {K : PySem.W.Frag} {sd : SpdP} {i : Nat} {t : TA} {E : XK} (h : SndA K G t dt) : SndE K G (tCall (spP K sd) [] E (tCons (tVar i) t)) (dCallP i sd dt) := by
  intro P F H σ n Qd Q I g hd q
  obtain ⟨e0, hd⟩ := hd
  obtain ⟨t0, pds0, e0⟩ := e0.ex
  obtain ⟨A, e1, _⟩ := I.ow i t0 pds0 e0
  refine ⟨_, e1, ?_⟩
  refine h P F H σ n _ _ I g hd fun ds n1 vs F1 H1 h1 I1 g1 r1 => ?_
  split at h1
  · rename_i t pds e2
    obtain ⟨A', y1, ⟨pvs, y2, y3⟩, y4, y5, y6⟩ := I1.ow i t pds e2
    rw [e1] at y1
    cases y1
    show spP K sd (_ :: vs ++ []) H1 Q E
    rw [List.append_nil]
    refine ⟨F1, A, pvs, pds, vs, ds, _, rfl, I1.ff, y2, y3, y4, r1, h1, fun d pds' v pvs' F' H' h2 s f gr ea ra nF r => ?_⟩
    have sP : Same P (rem H1 A) := fun b o hb => by
      rw [rem_ne (fun z => by rw [z, y5] at hb; cases hb)]
      exact I1.pf b o hb
    refine q d _ v F' H' h2 ?_ (g1.trans (gr.of sP)) r
    refine ⟨sP.trans s, f, fun j dd q1 => ?_, fun j u es q1 => ?_, fun j l t' u es fs b q1 q2 z1 z2 => ?_, by rw [List.length_set]; exact I1.ln, fun j v q1 => by
      rcases set_get q1 with ⟨rfl, z⟩ | ⟨hj, z⟩
      · cases z
      · exact I1.rw j v z⟩
    · rcases set_get q1 with ⟨rfl, z⟩ | ⟨hj, z⟩
      · cases z
      · obtain ⟨v', x1, x2⟩ := I1.vl j dd z
        exact ⟨v', x1, Rp.mono gr.s dd x2⟩
    · rcases set_get q1 with ⟨rfl, z⟩ | ⟨hj, z⟩
      · cases z
        exact ⟨A, e1, ⟨pvs', ea, ra⟩, nF, y5, y6⟩
      · obtain ⟨b, x1, ⟨ws, x2, x3⟩, x4, x5, x6⟩ := I1.ow j u es z
        have hb : b ≠ A := fun zz => by subst zz; exact hj (I1.dj j i u t es pds b z e2 x1 e1)
        refine ⟨b, x1, ⟨ws, s b _ (by rw [rem_ne hb]; exact x2), RpA.mono gr.s es x3⟩, ?_, x5, x6⟩
        cases y : F' b with
        | none => rfl
        | some o => exact absurd x4 (gr.n b (by rw [rem_ne hb, x2]; exact fun z => by cases z) (by rw [y]; exact fun z => by cases z))
    · rcases set_get q1 with ⟨rfl, z⟩ | ⟨hj, z⟩
      · rcases set_get q2 with ⟨rfl, y⟩ | ⟨hl, y⟩
        · rfl
        · exact I1.dj _ l _ _ _ fs b e2 y z1 z2
      · rcases set_get q2 with ⟨rfl, y⟩ | ⟨hl, y⟩
        · exact I1.dj j _ _ _ es _ b z e2 z1 z2
        · exact I1.dj j l _ _ es fs b z y z1 z2
  · exact h1.elim
theorem pd_callP (i : Nat) {y : Str} {p1 : Pos} {sd : SpdP} (c : CalP X.prog X.w X.K X.mg X.base nm k ps sd) (hr : Room k X.A) (ha : PAd X G es dt) (hN : X.N[i]? = some y := by rfl) (hv : Vis X.env.scope y := by first | exact Or.inl rfl | exact Or.inr (Or.inl rfl) | exact Or.inr (Or.inr rfl)) (hd : (y == ("__debug__" : Str)) = false := by decide)
    (hcd : (y == ("__classdict__" : Str)) = false := by decide) (hg : Gl X nm := by rfl) (hdb : (nm == ("__debug__" : Str)) = false := by decide) (he : starEach (.Name y p1 :: es) X.env = (false, eval (.Name y p1) X.env) :: starEach es X.env := by rfl) (hpl : (backTo pos (starEach es X.env)).any (·.1) = false := by rfl) :
    PEd X G (.Call (.Name nm p) (.Name y p1 :: es) [] pos) (dCallP i sd dt) := by
  obtain ⟨f, fd, F, gm, kp, b⟩ := c.ex
  obtain ⟨t, a1, b1⟩ := ha
  exact ⟨_, pe_call (E := E0) F hr hg gm kp b .nil pass0 (pa_cons (pe_var hN hv hd hcd) a1 he) hdb he hpl, snd_callP b1⟩
/-- f(*e), e a tuple or a list of data -/
def dCallS (sd : Spd0) (de : TEd) : TEd := fun n Q => de n fun d n1 => match d with
  | .tuple ds => sd ds fun d => Q d n1
  | .list ds => sd ds fun d => Q d n1
  | _ => False
theorem pd_callS {sp_ : Pos} {sd : Spd0} (c : Cal0 X.prog X.w X.K X.mg X.base nm k ps sd) (hr : Room k X.A) (ha : PEd X G e de) (hg : Gl X nm := by rfl) (hdb : (nm == ("__debug__" : Str)) = false := by decide) (hst : starEach [.Starred e sp_] X.env = [(true, eval e X.env)] := by rfl) :
    PEd X G (.Call (.Name nm p) [.Starred e sp_] [] pos) (dCallS sd de) := by
  obtain ⟨f, fd, F, gm, kp, b⟩ := c.ex
  obtain ⟨t, a1, b1⟩ := ha
  refine ⟨_, StX.pe_callS1 (E := E0) (F.raw b .nil) hr kp hg gm pass0 a1 hdb hst, ?_⟩
  intro P F H σ n Qd Q I g h q
  refine b1 P F H σ n _ _ I g h fun d n1 v F1 H1 h1 I1 g1 r1 => ?_
  cases d with
  | tuple ds =>
    cases r1 with
    | @tup _ vs _ e1 e2 =>
      refine ⟨_, vs, rfl, .inl (sm_seqT I1.ff e1), ?_⟩
      show sp0 X.K sd (vs ++ []) H1 Q E0
      rw [List.append_nil]
      exact ⟨F1, ds, _, I1.ff, e2, h1, fun d v F' H' h2 s f gr r => q d n1 v F' H' h2 (I1.grow gr s f) (g1.trans (gr.of I1.pf)) r⟩
  | list ds =>
    cases r1 with
    | @lst _ vs _ e1 e2 =>
      refine ⟨_, vs, rfl, .inr (.of (I1.ff _ _ e1)), ?_⟩
      show sp0 X.K sd (vs ++ []) H1 Q E0
      rw [List.append_nil]
      exact ⟨F1, ds, _, I1.ff, e2, h1, fun d v F' H' h2 s f gr r => q d n1 v F' H' h2 (I1.grow gr s f) (g1.trans (gr.of I1.pf)) r⟩
  | _ => exact h1.elim
/-- [.., *e] -/
theorem pad_star {sp_ : Pos} (ha : PEd X G e de) (hb : PAd X G es dt) (hs : starEach (.Starred e sp_ :: es) X.env = (true, eval e X.env) :: starEach es X.env := by rfl) : PAd X G (.Starred e sp_ :: es) (dStar de dt) := by
  obtain ⟨t, h1, h2⟩ := ha
  obtain ⟨u, h3, h4⟩ := hb
  refine ⟨_, StX.pa_star h1 h3 hs, ?_⟩
  intro P F H σ n Qd Q I g h q
  refine h2 P F H σ n _ _ I g h fun d n1 v F1 H1 h1 I1 g1 r1 => ?_
  cases d with
  | tuple ds =>
    cases r1 with
    | @tup _ vs _ e1 e2 =>
      refine ⟨_, vs, rfl, .inl (sm_seqT I1.ff e1), ?_⟩
      exact h4 P F1 H1 σ n1 _ _ I1 (G.m g (Same.refl P) g1) h1 fun es n2 ws F2 H2 h2 I2 g2 r2 => q _ n2 _ F2 H2 h2 I2 (g1.trans g2) (RpA.append (RpA.mono g2.s _ e2) r2)
  | list ds =>
    cases r1 with
    | @lst _ vs _ e1 e2 =>
      refine ⟨_, vs, rfl, .inr (.of (I1.ff _ _ e1)), ?_⟩
      exact h4 P F1 H1 σ n1 _ _ I1 (G.m g (Same.refl P) g1) h1 fun es n2 ws F2 H2 h2 I2 g2 r2 => q _ n2 _ F2 H2 h2 I2 (g1.trans g2) (RpA.append (RpA.mono g2.s _ e2) r2)
  | _ => exact h1.elim
end

/-! ### a def keeps its promise -/
def startN (N : List Str) (ss : List Sl) : En := ss ++ List.replicate (N.length - ss.length) Sl.non
theorem start_len {N : List Str} {vs : List V} : (L2.start N vs).length = vs.length + (N.length - vs.length) := by
  unfold L2.start; rw [List.length_append, List.length_map, List.length_replicate]
theorem startN_len {N : List Str} {ss : List Sl} : (startN N ss).length = ss.length + (N.length - ss.length) := by
  unfold startN; rw [List.length_append, List.length_replicate]
theorem startN_get {N : List Str} {ss : List Sl} {i : Nat} {s : Sl} (h : (startN N ss)[i]? = some s) : ss[i]? = some s ∨ s = Sl.non := by
  unfold startN at h
  by_cases hi : i < ss.length
  · rw [List.getElem?_append_left hi] at h; exact .inl h
  · rw [List.getElem?_append_right (by omega), List.getElem?_replicate] at h
    split at h
    · cases h; exact .inr rfl
    · cases h
theorem start_get {N : List Str} {vs : List V} {i : Nat} {v : V} (h : vs[i]? = some v) : (L2.start N vs)[i]? = some (some v) := by
  unfold L2.start
  have hi : i < vs.length := (List.getElem?_eq_some_iff.mp h).1
  rw [List.getElem?_append_left (by rw [List.length_map]; exact hi), List.getElem?_map, h]
  rfl
theorem IA.start {K : PySem.W.Frag} {F H : Hp} {N : List Str} {vs : List V} {ds : List D} (f : Same F H) (r : RpA K F vs ds) : IA K H F H (L2.start N vs) (startN N (ds.map Sl.val)) where
  pf := Same.refl H
  ff := f
  vl := fun i d e => by
    rcases startN_get e with z | z
    · rw [List.getElem?_map] at z
      cases y : ds[i]? with
      | none => rw [y] at z; cases z
      | some d' =>
        rw [y] at z
        cases z
        obtain ⟨v, h1, h2⟩ := RpA.get r y
        exact ⟨v, start_get h1, h2⟩
    · cases z
  ow := fun i t d e => by
    rcases startN_get e with z | z
    · rw [List.getElem?_map] at z
      cases y : ds[i]? with
      | none => rw [y] at z; cases z
      | some d' => rw [y] at z; cases z
    · cases z
  dj := fun i j t u x y a e _ _ _ => by
    rcases startN_get e with z | z
    · rw [List.getElem?_map] at z
      cases y : ds[i]? with
      | none => rw [y] at z; cases z
      | some d' => rw [y] at z; cases z
    · cases z
  ln := by rw [start_len, startN_len, List.length_map, RpA.length r]
  rw := fun i v e => by
    rcases startN_get e with z | z
    · rw [List.getElem?_map] at z
      cases y : ds[i]? with
      | none => rw [y] at z; cases z
      | some d' => rw [y] at z; cases z
    · cases z
theorem IA.startP {K : PySem.W.Frag} {F H : Hp} {N : List Str} {a : Addr} {pvs : List V} {pds : List D} {vs : List V} {ds : List D} (f : Same F H) (ea : H a = some (.lst pvs)) (rp : RpA K F pvs pds) (nF : F a = none) (r : RpA K F vs ds) :
    IA K (rem H a) F H (L2.start N (.ref a :: vs)) (startN N (Sl.own (some a) pds :: ds.map Sl.val)) where
  pf := rem_sub
  ff := f
  vl := fun i d e => by
    rcases startN_get e with z | z
    · cases i with
      | zero => cases z
      | succ i =>
        rw [List.getElem?_cons_succ, List.getElem?_map] at z
        cases y : ds[i]? with
        | none => rw [y] at z; cases z
        | some d' =>
          rw [y] at z
          cases z
          obtain ⟨v, h1, h2⟩ := RpA.get r y
          exact ⟨v, start_get (by rw [List.getElem?_cons_succ]; exact h1), h2⟩
    · cases z
  ow := fun i t d e => by
    rcases startN_get e with z | z
    · cases i with
      | zero => cases z; exact ⟨a, start_get rfl, ⟨pvs, ea, rp⟩, nF, rem_same, fun _ z => by cases z; rfl⟩
      | succ i =>
        rw [List.getElem?_cons_succ, List.getElem?_map] at z
        cases y : ds[i]? with
        | none => rw [y] at z; cases z
        | some d' => rw [y] at z; cases z
    · cases z
  dj := fun i j t u x y b e1 e2 _ _ => by
    have one : ∀ {i : Nat} {t : Option Addr} {x : List D}, (startN N (Sl.own (some a) pds :: ds.map Sl.val))[i]? = some (Sl.own t x) → i = 0 := fun {i t x} e => by
      rcases startN_get e with z | z
      · cases i with
        | zero => rfl
        | succ i =>
          rw [List.getElem?_cons_succ, List.getElem?_map] at z
          cases y : ds[i]? with
          | none => rw [y] at z; cases z
          | some d' => rw [y] at z; cases z
      · cases z
    rw [one e1, one e2]
  ln := by rw [start_len, startN_len, List.length_cons, List.length_cons, List.length_map, RpA.length r]
  rw := fun i v e => by
    rcases startN_get e with z | z
    · cases i with
      | zero => cases z
      | succ i =>
        rw [List.getElem?_cons_succ, List.getElem?_map] at z
        cases y : ds[i]? with
        | none => rw [y] at z; cases z
        | some d' => rw [y] at z; cases z
    · cases z
section
variable {P : Program} {w : World} {K : PySem.W.Frag} {mg : Str → Option Value} {base : Heap}
theorem fun_d0 {x qual : Str} {st : Stmt} {f : Addr} {fd : FuncData} {N ps : List Str} {k : Nat} {sd : Spd0} {td : TSd} (F : Fun K x qual st f fd) (S : FnScope N ps (defScope st)) (gm : mg x = some (.ref f)) (hb : Binds K fd ps [])
    (body : ∀ (cdv : Value) (A : Around) (outer : List Env) (s : Shared) (H : Hp) (E : XK), Room k (A.deeper (envOfC qual (defScope st) s.heap.objs.size f cdv)) → PSsd (cxOf CX0 P w K mg base N qual (defScope st) f cdv A outer s H E).nox G0 (defBody st) td)
    (len : ∀ ds Qd, sd ds Qd → ds.length = ps.length) (law : ∀ ds Qd, sd ds Qd → td { nx := fun _ => Qd .none, rt := fun d _ => Qd d } (startN N (ds.map Sl.val))) : Cal0 P w K mg base x (k + 1) ps sd := by
  refine ⟨f, fd, F.ok S (fun vs H Q E h => ?_) (fun cdv A outer s H vs Q E hr h => ?_), gm, F.kp, hb⟩
  · obtain ⟨F', ds, Qd, _, r, hs, _⟩ := h
    rw [RpA.length r]
    exact len ds Qd hs
  · obtain ⟨F', ds, Qd, f', r, hs, q⟩ := h
    obtain ⟨t, a, b⟩ := body cdv A outer s H E hr
    refine ⟨t, a, ?_⟩
    refine b H F' H _ _ _ _ (IA.start f' r) trivial (law ds Qd hs) ⟨fun n' σ' F2 H2 h1 I g => q _ _ F2 H2 h1 I.pf I.ff g .non, fun d n' σ' v F2 H2 h1 I g r2 => q d v F2 H2 h1 I.pf I.ff g r2, fun _ _ _ _ z => z.elim, fun _ _ _ _ z => z.elim⟩
theorem fun_dP {x qual : Str} {st : Stmt} {f : Addr} {fd : FuncData} {N ps : List Str} {k : Nat} {sd : SpdP} {td : TSd} (F : Fun K x qual st f fd) (S : FnScope N ps (defScope st)) (gm : mg x = some (.ref f)) (hb : Binds K fd ps [])
    (body : ∀ (cdv : Value) (A : Around) (outer : List Env) (s : Shared) (H : Hp) (E : XK), Room k (A.deeper (envOfC qual (defScope st) s.heap.objs.size f cdv)) → PSsd (cxOf CX0 P w K mg base N qual (defScope st) f cdv A outer s H E).nox G0 (defBody st) td)
    (len : ∀ pds ds Qd, sd pds ds Qd → ds.length + 1 = ps.length)
    (law : ∀ a pds ds Qd, sd pds ds Qd → td { nx := fun n => ∃ p', n[0]? = some (Sl.own (some a) p') ∧ Qd .none p', rt := fun d n => ∃ p', n[0]? = some (Sl.own (some a) p') ∧ Qd d p' } (startN N (Sl.own (some a) pds :: ds.map Sl.val))) : CalP P w K mg base x (k + 1) ps sd := by
  refine ⟨f, fd, F.ok S (fun vs H Q E h => ?_) (fun cdv A outer s H vs Q E hr h => ?_), gm, F.kp, hb⟩
  · obtain ⟨F', a, pvs, pds, ws, ds, Qd, rfl, _, _, _, _, r, hs, _⟩ := h
    rw [List.length_cons, RpA.length r]
    exact len pds ds Qd hs
  · obtain ⟨F', a, pvs, pds, ws, ds, Qd, rfl, f', ea, rp, nF, r, hs, q⟩ := h
    obtain ⟨t, a1, b⟩ := body cdv A outer s H E hr
    refine ⟨t, a1, ?_⟩
    have fin : ∀ {d : D} {n' : En} {σ' : L2.St} {v : V} {F2 H2 : Hp}, (∃ p', n'[0]? = some (Sl.own (some a) p') ∧ Qd d p') → IA K (rem H a) F2 H2 σ' n' → Gr (rem H a) F' F2 → Rp K F2 v d → Q v H2 := fun {d n' σ' v F2 H2} h I g r2 => by
      obtain ⟨p', e, h⟩ := h
      obtain ⟨b', y1, ⟨vs', y2, y3⟩, y4, y5, y6⟩ := I.ow 0 _ p' e
      have := y6 a rfl
      subst this
      exact q d p' v vs' F2 H2 h I.pf I.ff g y2 y3 y4 r2
    exact b (rem H a) F' H _ _ _ _ (IA.startP f' ea rp nF r) trivial (law a pds ds Qd hs) ⟨fun n' σ' F2 H2 h1 I g => fin h1 I g .non, fun d n' σ' v F2 H2 h1 I g r2 => fin h1 I g r2, fun _ _ _ _ z => z.elim, fun _ _ _ _ z => z.elim⟩
end
end DL

/-! D-layer: exceptions. -/
namespace DL
open PySem PySem.Spec PyProof.Rows L2

def canS (K : PySem.W.Frag) (G : Gd) (td : TSd) : TS := fun Dn σ H => ∃ (P F : Hp) (n : En) (Dd : Eds), IA K P F H σ n ∧ G.p P F ∧ td Dd n ∧ EdOk K P F Dd Dn
theorem PSsd.can {X : Cx} {G : Gd} {st : List Stmt} {td : TSd} (h : PSsd X G st td) : PSs X st (canS X.K G td) := by
  obtain ⟨t, a, b⟩ := h
  exact ⟨fun pins s σ H D I ⟨P, F, n, Dd, x1, x2, x3, x4⟩ => a.run pins s σ H D I (b P F H σ n Dd D x1 x2 x3 x4)⟩
/-- what is wished of an exception: its class's name, its value -/
def GE (K : PySem.W.Frag) (mg : Str → Option Value) (W : WX) (Ed : Str → D → En → Prop) : Gd where
  p := fun P F => ∀ (x : Str) (C : Addr) (d : D) (v : V) (dx : Addr) (F' H' : Hp) (σ : L2.St) (n : En), mg x = some (.ref C) → Ed x d n → IA K P F' H' σ n → Gr P F F' → H' dx = some (.xd [(("value" : Str), v)]) → Rp K F' v d → W (.ref C) (some dx) σ H'
  m := fun h sP g => fun x C d v dx F'' H' σ n e1 e2 I g' e3 r => h x C d v dx F'' H' σ n e1 e2 (I.weak sP) (g.trans (g'.weak sP)) e3 r

/-! ### raise -/
/-- the promise of __init__ of the own base class -/
def spInit (K : PySem.W.Frag) : Sp := fun vs H Q _ => ∃ (a C : Addr) (v : V), vs = [.ref a, v] ∧ OexC K C ∧ PySem.W.findIn K (.ref C) "value" = some none ∧ H a = some (exo a C none) ∧
  ∀ dx, H dx = none → dx ≠ a → Q .non (upd (upd H dx (exd dx [(("value" : Str), v)])) a (exo a C (some dx)))
structure ExcK (P : Program) (w : World) (K : PySem.W.Frag) (mg : Str → Option Value) (base : Heap) (x : Str) (C : Addr) (k : Nat) : Prop where
  gC : mg x = some (.ref C)
  ox : OexC K C
  nv : PySem.W.findIn K (.ref C) "value" = some none
  ini : ∃ (fI : Addr) (fd : FuncData), PySem.W.findIn K (.ref C) "__init__" = some (some (.ref fI)) ∧ PySem.W.typeIn K (.ref fI) = some (.type "function") ∧ FnOk P w K mg base CX0 k fI fd ["self", "value"] (spInit K) ∧ Binds K fd ["self", "value"] []
section
variable {X : Cx} {G : Gd} {pos pos2 p : Pos} {e : Expr} {es : List Expr} {de : TEd} {dt : TAd} {x nm : Str} {k : Nat} {ps : List Str} {C : Addr} {W : WX} {Ed : Str → D → En → Prop}
def dRaise (x : Str) (Ed : Str → D → En → Prop) (de : TEd) : TSd := fun _ n => de n fun d n1 => Ed x d n1
theorem psd_raise (T : ExcK X.prog X.w X.K X.mg X.base x C k) (hr : Room (k + 1) X.A) (hc : X.calm = true) (tk : Takes X W) (he : PEd X (GE X.K X.mg W Ed) e de) (hg : Gl X x := by rfl) (hdb : (x == ("__debug__" : Str)) = false := by decide)
    (hs : starEach (e :: []) X.env = (false, eval e X.env) :: starEach [] X.env := by rfl) (hpl : (backTo pos (starEach [] X.env)).any (·.1) = false := by rfl) :
    PSd X (GE X.K X.mg W Ed) (.Raise (some (.Call (.Name x p) [e] [] pos)) none pos2) (dRaise x Ed de) := by
  obtain ⟨t, a1, b1⟩ := he
  obtain ⟨fI, fd, f1, f2, F, hb⟩ := T.ini
  refine ⟨_, ps_raise hc tk (pmk_oex T.ox f1 f2 F hr hb .nil pass0 hg T.gC (pa_cons a1 pa_nil hs) hdb hs hpl), ?_⟩
  intro P F' H σ n Dd Dn I g h q
  refine b1 P F' H σ n _ _ I g h fun d n1 v F1 H1 h1 I1 g1 r1 => ⟨Nat.le_of_ble_eq_true rfl, fun a ha => ?_⟩
  refine ⟨a, C, v, rfl, T.ox, T.nv, upd_same, fun dx hdx hne => ⟨rfl, dx, [(("value" : Str), v)], upd_same, by rw [upd_ne hne, upd_same], ?_, ?_⟩⟩
  · rw [upd_ne hne] at hdx; exact hdx
  · have hdx1 : H1 dx = none := by rw [upd_ne hne] at hdx; exact hdx
    generalize hH3 : upd (del (upd (upd (upd H1 a (exo a C none)) dx (exd dx [(("value" : Str), v)])) a (exo a C (some dx))) a) dx (.xd [(("value" : Str), v)]) = H3
    have s : Same H1 H3 := fun b o hb => by
      have n1 : b ≠ dx := ne_of_none hb hdx1
      have n2 : b ≠ a := ne_of_none hb ha
      rw [← hH3, upd_ne n1, del_ne n2, upd_ne n2, upd_ne n1, upd_ne n2]
      exact hb
    exact g x C d v dx F1 H3 σ n1 T.gC h1 (I1.grow (Gr.refl H1 F1) s (I1.ff.trans s)) g1 (by rw [← hH3, upd_same]) r1

/-! ### calls that may raise -/
def dCallX (sd : SpdX) (Ed : Str → D → En → Prop) (dt : TAd) : TEd := fun n Q => dt n fun ds n1 => sd ds (fun d => Q d n1) fun x d => Ed x d n1
theorem snd_callX {K : PySem.W.Frag} {mg : Str → Option Value} {sd : SpdX} {t : TA} {W : WX} (h : SndA K (GE K mg W Ed) t dt) : SndE K (GE K mg W Ed) (tCallSD (spX K mg sd) [] (WE W) t) (dCallX sd Ed dt) := by
  intro P F H σ n Qd Q I g hd q
  refine h P F H σ n _ _ I g hd fun ds n1 vs F1 H1 h1 I1 g1 r1 => ?_
  show spX K mg sd (vs ++ []) H1 Q (WE W σ)
  rw [List.append_nil]
  exact ⟨F1, ds, _, _, I1.ff, r1, h1, fun d v F' H' h2 s f gr r => q d n1 v F' H' h2 (I1.grow gr s f) (g1.trans (gr.of I1.pf)) r,
    fun x C d v dx F' H' e1 e2 s f gr e3 r => g x C d v dx F' H' σ n1 e1 e2 (I1.grow gr s f) (g1.trans (gr.of I1.pf)) e3 r⟩
theorem pd_callX {sd : SpdX} (c : CalX X.prog X.w X.K X.mg X.base nm k ps sd) (hr : Room k X.A) (tk : Takes X W) (ha : PAd X (GE X.K X.mg W Ed) (e :: es) dt) (hg : Gl X nm := by rfl) (hdb : (nm == ("__debug__" : Str)) = false := by decide) (he : starEach (e :: es) X.env = (false, eval e X.env) :: starEach es X.env := by rfl) (hpl : (backTo pos (starEach es X.env)).any (·.1) = false := by rfl) :
    PEd X (GE X.K X.mg W Ed) (.Call (.Name nm p) (e :: es) [] pos) (dCallX sd Ed dt) := by
  obtain ⟨f, fd, F, gm, kp, b⟩ := c.ex
  obtain ⟨t, a1, b1⟩ := ha
  exact ⟨_, pe_callSD F hr hg gm kp b .nil (fun σ => passAt tk σ) a1 hdb he hpl, snd_callX b1⟩
/-- f(a=e), one keyword for the one parameter -/
def tCall1K (sp : Sp) (E : L2.St → XK) (t : TA) : TE := fun σ H Q => t σ H fun vs H1 => sp vs H1 Q (E σ)
theorem pe_call1K {CX : CXT} {f : Addr} {fd : FuncData} {a : Str} {sp : Sp} {E : L2.St → XK} {kpos : Pos} {te : TE} (F : FnOk X.prog X.w X.K X.mg X.base CX k f fd [a] sp) (hr : Room k X.A) (hg : Gl X nm) (hm : X.mg nm = some (.ref f)) (hk : PySem.W.keepIn X.K (.ref f) = true)
    (hb : ∀ (s : Shared) (u : Value), BindsTo s fd ⟨[], [(a, u)]⟩ [(a, u)]) (hx : ∀ σ, PassesAt CX X σ (E σ)) (he : PE X e te) (hall : (backToKw pos (keywordEach [⟨some a, e, kpos⟩] X.env)).all (·.1.isSome) = true := by rfl) (hks : (backToKw pos (keywordEach [⟨some a, e, kpos⟩] X.env)).filterMap (·.1) = [a] := by rfl)
    (hdb : (nm == ("__debug__" : Str)) = false := by decide) (hpl : ((backTo pos (starEach [] X.env)).any (·.1) || (backToKw pos (keywordEach [⟨some a, e, kpos⟩] X.env)).any (·.1.isNone)) = false := by rfl) :
    PE X (.Call (.Name nm p) [] [⟨some a, e, kpos⟩] pos) (tCall1K sp E (tCons te tNil)) := by
  refine ⟨fun pins s σ H Q I h => ?_⟩
  refine wpAny_Call_Name_kw (ld_glob I hg hm ?_ hdb)
  refine PySem.W.callWith_KW0 (h₀ := X.base) I.ok.mod.kin hk hall ?_ hpl
  refine thn ((pk_cons he pk_nil).run pos pins s σ H _ I h) fun ws s2 ⟨zs, H2, I2, rz, q2⟩ => ⟨I2.kIn, ?_⟩
  rw [hks]
  have e1 : ws.length = 1 := by rw [← Paired.length rz]; exact F.len _ _ _ _ q2
  obtain ⟨u, rfl⟩ : ∃ u, ws = [u] := by
    match ws, e1 with
    | [u], _ => exact ⟨u, rfl⟩
  refine wpAny_call (codeAny_mono (F.run X.A X.stack s2 H2 ⟨[], [(a, u)]⟩ [u] zs Q (E σ) hr I2.env0 (hb s2 u) rz q2) fun r s' hq => ?_)
  cases r with
  | error e => exact hx σ pins H2 s2 e s' I2 hq
  | ok fl =>
    cases fl with
    | ret u => exact I2.after hq
    | next => exact False.elim hq
    | brk => exact False.elim hq
    | cont => exact False.elim hq
structure CalXK (P : Program) (w : World) (K : PySem.W.Frag) (mg : Str → Option Value) (base : Heap) (nm : Str) (k : Nat) (a : Str) (sd : SpdX) : Prop where
  ex : ∃ (f : Addr) (fd : FuncData), FnOk P w K mg base (L2.CX P w) k f fd [a] (spX K mg sd) ∧ mg nm = some (.ref f) ∧ PySem.W.keepIn K (.ref f) = true ∧ ∀ (s : Shared) (u : Value), BindsTo s fd ⟨[], [(a, u)]⟩ [(a, u)]
theorem pd_callXK {a : Str} {kpos : Pos} {sd : SpdX} (c : CalXK X.prog X.w X.K X.mg X.base nm k a sd) (hr : Room k X.A) (tk : Takes X W) (he : PEd X (GE X.K X.mg W Ed) e de) (hg : Gl X nm := by rfl) (hall : (backToKw pos (keywordEach [⟨some a, e, kpos⟩] X.env)).all (·.1.isSome) = true := by rfl) (hks : (backToKw pos (keywordEach [⟨some a, e, kpos⟩] X.env)).filterMap (·.1) = [a] := by rfl)
    (hdb : (nm == ("__debug__" : Str)) = false := by decide) (hpl : ((backTo pos (starEach [] X.env)).any (·.1) || (backToKw pos (keywordEach [⟨some a, e, kpos⟩] X.env)).any (·.1.isNone)) = false := by rfl) :
    PEd X (GE X.K X.mg W Ed) (.Call (.Name nm p) [] [⟨some a, e, kpos⟩] pos) (dCallX sd Ed (dCons de dNil)) := by
  obtain ⟨f, fd, F, gm, kp, b⟩ := c.ex
  obtain ⟨t, a1, b1⟩ := he
  refine ⟨_, pe_call1K F hr hg gm kp b (fun σ => passAt tk σ) a1 hall hks hdb hpl, ?_⟩
  intro P F H σ n Qd Q I g hd q
  refine snd_cons b1 (fun P F H σ n Qd Q I g h q => q [] n [] F H h I (Gr.refl P F) .nil) P F H σ n _ _ I g hd fun ds n1 vs F1 H1 h1 I1 g1 r1 => ?_
  exact ⟨F1, ds, _, _, I1.ff, r1, h1, fun d v F' H' h2 s f gr r => q d n1 v F' H' h2 (I1.grow gr s f) (g1.trans (gr.of I1.pf)) r,
    fun x C d v dx F' H' e1 e2 s f gr e3 r => g x C d v dx F' H' σ n1 e1 e2 (I1.grow gr s f) (g1.trans (gr.of I1.pf)) e3 r⟩
end

/-! ### a def that may raise -/
section
variable {P : Program} {w : World} {K : PySem.W.Frag} {mg : Str → Option Value} {base : Heap}
theorem fun_dX {x qual : Str} {st : Stmt} {f : Addr} {fd : FuncData} {N ps : List Str} {k : Nat} {sd : SpdX} {td : (Str → D → En → Prop) → TSd} (F : Fun K x qual st f fd) (S : FnScope N ps (defScope st)) (gm : mg x = some (.ref f)) (hb : Binds K fd ps [])
    (body : ∀ (cdv : Value) (A : Around) (outer : List Env) (s : Shared) (H : Hp) (E : XK) (Ed : Str → D → En → Prop), Room k (A.deeper (envOfC qual (defScope st) s.heap.objs.size f cdv)) →
      PSsd (cxOf (L2.CX P w) P w K mg base N qual (defScope st) f cdv A outer s H E) (GE K mg (fun cls d _ H => E cls d H) Ed) (defBody st) (td Ed))
    (len : ∀ ds Qd Ed, sd ds Qd Ed → ds.length = ps.length) (law : ∀ ds Qd Ed, sd ds Qd Ed → td (fun x d _ => Ed x d) { nx := fun _ => Qd .none, rt := fun d _ => Qd d } (startN N (ds.map Sl.val))) : CalX P w K mg base x (k + 1) ps sd := by
  refine ⟨f, fd, F.okX S (fun vs H Q E h => ?_) (fun cdv A outer s H vs Q E hr h => ?_), gm, F.kp, hb⟩
  · obtain ⟨F', ds, Qd, Ed, _, r, hs, _⟩ := h
    rw [RpA.length r]
    exact len ds Qd Ed hs
  · obtain ⟨F', ds, Qd, Ed, f', r, hs, q, qe⟩ := h
    obtain ⟨t, a, b⟩ := body cdv A outer s H E (fun x d _ => Ed x d) hr
    refine ⟨t, a, ?_⟩
    refine b H F' H _ _ _ _ (IA.start f' r) (fun x C d v dx F2 H2 σ n e1 e2 I g e3 r2 => qe x C d v dx F2 H2 e1 e2 I.pf I.ff g e3 r2) (law ds Qd Ed hs)
      ⟨fun n' σ' F2 H2 h1 I g => q _ _ F2 H2 h1 I.pf I.ff g .non, fun d n' σ' v F2 H2 h1 I g r2 => q d v F2 H2 h1 I.pf I.ff g r2, fun _ _ _ _ z => z.elim, fun _ _ _ _ z => z.elim⟩
end

/-! ### try .. except X as n -/
/-- within the suite: the exception's own dict, its value -/
def GX (K : PySem.W.Frag) (dx : Addr) (v : V) (d : D) : Gd where
  p := fun P F => P dx = some (.xd [(("value" : Str), v)]) ∧ Rp K F v d
  m := fun h sP g => ⟨sP _ _ h.1, Rp.mono g.s _ h.2⟩
theorem IA.guardX {K : PySem.W.Frag} {P F H : Hp} {σ : L2.St} {n : En} (I : IA K P F H σ n) {dx : Addr} {fs : List (Str × V)} (e : H dx = some (.xd fs)) : IA K (upd P dx (.xd fs)) F H σ n ∧ Same P (upd P dx (.xd fs)) := by
  refine ⟨⟨sm_updI I.pf e, I.ff, I.vl, fun i t ds h => ?_, I.dj, I.ln, I.rw⟩, fun b o hb => ?_⟩
  · obtain ⟨b, h1, ⟨ws, h2, h3⟩, h4, h5, h6⟩ := I.ow i t ds h
    refine ⟨b, h1, ⟨ws, h2, h3⟩, h4, ?_, h6⟩
    rw [upd_ne (fun z => by subst z; rw [e] at h2; cases h2)]
    exact h5
  · by_cases hd : b = dx
    · subst hd
      rw [upd_same, ← e]
      exact I.pf b o hb
    · rw [upd_ne hd]; exact hb
/-- i: the name's slot; x0: the class's name; td: the body for any wish; su: the suite for the exception's address and value -/
def dTry (i : Nat) (x0 : Str) (td : (Str → D → En → Prop) → TSd) (su : Addr → D → TSd) : TSd := fun D n =>
  td (fun x d m => x = x0 ∧ ∀ a, su a d { nx := fun m' => D.nx (m'.set i Sl.non), rt := D.rt, bk := fun m' => D.bk (m'.set i Sl.non), ct := fun m' => D.ct (m'.set i Sl.non) } (m.set i (Sl.raw (.ref a)))) D n
theorem psd_try {X : Cx} {G : Gd} (i : Nat) {x0 x n : Str} {C0 : Addr} {c : Value} {body suite : List Stmt} {b₀ : Stmt} {np pos pos' : Pos} {td : (Str → D → En → Prop) → TSd} {su : Addr → D → TSd} (hs : X.stack = X.env :: X.outer) (hf : X.env.frame = some X.env.locals) (hN : X.N.Nodup)
    (gC : X.mg x0 = some (.ref C0)) (exm : PySem.W.exmOne X.K (.ref C0) c = some true) (hc : Names X x c)
    (hb : ∀ (W : WX) (pn : List (Addr × Obj)) (xe : Value → Shared → Prop) (Ed : Str → D → En → Prop), Takes (X.tr pn xe) W → PassesOwn (model X.prog X.w) X.A X.env xe → PSsd (X.tr pn xe) (GE X.K X.mg W Ed) body (td Ed))
    (hsu : ∀ (a : Addr) (oe : Obj) (pn : List (Addr × Obj)) (v : V) (d : D) (dx : Addr), Zc (.ref C0) (some dx) oe → (∃ vs, oe.data = .fields vs) → PSsd (X.suite a ((a, oe) :: pn)) (GX X.K dx v d) (b₀ :: suite) (su a d))
    (hi : X.N[i]? = some n := by rfl) (hln : X.env.kindOf n = some .local := by rfl) :
    PSd X G (.Try body [.ExceptHandler (some (.Name x np)) (some n) (b₀ :: suite) pos'] [] [] pos) (dTry i x0 td su) := by
  refine ⟨_, ps_try_as (i := i) (c := c) (Wout := fun _ _ _ _ => False) (tb := fun W Dn σ H => ∃ Ed, canS X.K (GE X.K X.mg W Ed) (td Ed) Dn σ H)
    (ts := fun a cls dopt Dn σ H => ∃ (dx : Addr) (v : V) (d : D), cls = .ref C0 ∧ dopt = some dx ∧ canS X.K (GX X.K dx v d) (su a d) Dn σ H) hs hf hN hi hln hc takes0
    (fun W pn xe tk pa => ⟨fun pins s σ H D I ⟨Ed, h⟩ => (hb W pn xe Ed tk pa).can.run pins s σ H D I h⟩)
    (fun a oe cls dopt pn hz hd => ⟨fun pins s σ H D I ⟨dx, v, d, e1, e2, h⟩ => by
      subst e1; subst e2
      exact (hsu a oe pn v d dx hz hd).can.run pins s σ H D I h⟩), ?_⟩
  intro P F H σ m Dd Dn I g h q
  refine ⟨_, P, F, m, Dd, I, ?_, h, q⟩
  rintro y C d v dx F' H' σ' m' e1 ⟨rfl, e2⟩ I' g' e3 r
  rw [gC] at e1
  cases e1
  refine ⟨true, exm, fun _ a ha => ⟨dx, v, d, rfl, rfl, ?_⟩, fun z => by cases z⟩
  obtain ⟨I2, sP⟩ := I'.guardX e3
  refine ⟨_, F', _, _, I2.setR, ⟨upd_same, r⟩, e2 a, ⟨fun n' σ2 F2 H2 h2 I3 g3 => ?_, fun d n' σ2 v F2 H2 h2 I3 g3 r3 => ?_, fun n' σ2 F2 H2 h2 I3 g3 => ?_, fun n' σ2 F2 H2 h2 I3 g3 => ?_⟩⟩
  · exact q.nx _ _ F2 H2 h2 ((I3.weak sP).setN) (g'.trans (g3.weak sP))
  · exact q.rt d n' σ2 v F2 H2 h2 (I3.weak sP) (g'.trans (g3.weak sP)) r3
  · exact q.bk _ _ F2 H2 h2 ((I3.weak sP).setN) (g'.trans (g3.weak sP))
  · exact q.ct _ _ F2 H2 h2 ((I3.weak sP).setN) (g'.trans (g3.weak sP))

section
variable {X : Cx} {pos p p1 : Pos} {x n : Str} {C : Addr} {a dx : Addr} {oe : Obj} {pn : List (Addr × Obj)} {v : V} {d : D}
/-- n.value -/
def dExV (i : Nat) (a : Addr) (d : D) : TEd := fun n Q => n[i]? = some (Sl.raw (.ref a)) ∧ Q d n
theorem pd_exV (i : Nat) (T : XfC X.K C) (hno : PySem.W.findIn X.K (.ref C) "value" = some none) (hz : Zc (.ref C) (some dx) oe) (hf : ∃ vs, oe.data = .fields vs)
    (hN : X.N[i]? = some n := by rfl) (hv : Vis X.env.scope n := by first | exact Or.inl rfl | exact Or.inr (Or.inl rfl) | exact Or.inr (Or.inr rfl)) (hd : (n == ("__debug__" : Str)) = false := by decide)
    (hcd : (n == ("__classdict__" : Str)) = false := by decide) (hb : attributeBase (.Name n p1) "value" X.env (eval (.Name n p1) X.env) = eval (.Name n p1) X.env := by rfl) :
    PEd (X.suite a ((a, oe) :: pn)) (GX X.K dx v d) (.Attribute (.Name n p1) "value" pos) (dExV i a d) := by
  refine ⟨_, pe_xf T hno hz hf (pe_var (X := X.suite a ((a, oe) :: pn)) (i := i) hN hv hd hcd) hb, ?_⟩
  intro P F H σ m Qd Q I g h q
  exact ⟨_, I.rw i _ h.1, rfl, rfl, dx, _, v, rfl, I.pf _ _ g.1, by simp [List.lookup], q d m v F H h.2 I (Gr.refl P F) g.2⟩
/-- isinstance(n, X) -/
def dExI (i : Nat) (a : Addr) (b : Bool) : TEd := fun n Q => n[i]? = some (Sl.raw (.ref a)) ∧ Q (.bool b) n
theorem call_isX {X : Cx} (hcl : (PySem.W.clsIn X.K C).isSome = true) (E : ExcC X.K C) (hz : Zc (.ref C) (some dx) oe) (hf : ∃ vs, oe.data = .fields vs) {b : Bool} : CallR (X.suite a ((a, oe) :: pn)) (.builtin "isinstance")
    (fun xs H Q => (∃ fs, H dx = some (.xd fs)) ∧ ((∃ (c : V) (cv : Value), xs = [.ref a, c] ∧ (∀ u, RelV c u → u = cv) ∧ PySem.W.kitOne X.K (.ref C) cv = some b ∧ Q (.bl b) H) ∨
      ∃ (tp : Addr) (cs : List V) (us : List Value), xs = [.ref a, .ref tp] ∧ H tp = some (.tup cs) ∧ Paired ClsV cs us ∧ PySem.W.kitAny X.K (.ref C) us = some b ∧ Q (.bl b) H)) := by
  intro pins s σ H xs us Q I r h
  obtain ⟨⟨fs, ex⟩, h⟩ := h
  obtain ⟨hget, _⟩ := I.pin (a, oe) (List.mem_append.mpr (.inl List.mem_cons_self))
  obtain ⟨vs, hv⟩ := hf
  have hx : ObjOk X.prog X.w H s.heap dx (.xd fs) := I.hok dx _ ex
  obtain ⟨mA, hns, hr⟩ := hx
  obtain ⟨od, ho, hl⟩ := lookIn_ns hns
  have J : PySem.W.InstAt s.heap a oe C (some od) := ⟨hget, hz.1, by unfold PySem.W.notCls; rw [hv] <;> rfl, by rw [hz.2]; exact ho⟩
  rcases h with ⟨c, cv, rfl, hcv, e, q⟩ | ⟨tp, cs, ws, rfl, hT, k, e, q⟩
  · cases r with
    | cons rx rr =>
      cases rr with
      | cons rt rr =>
        cases rr
        cases rx
        have ec := hcv _ rt
        subst ec
        exact PySem.W.kia_one (PySem.W.kitx_exc (od := some od) hcl E.hg E.hk E.hs E.ha E.hn E.ht E.hm) I.kIn J e (fun z => nomatch z) fun tk => ⟨.bl b, H, I.kept (t' := tk) fun _ _ z => z, rfl, q⟩
  · obtain ⟨u1, u2, rfl, r1, r2⟩ := vals2 r
    cases (show u2 = Value.ref tp from r2)
    cases (show u1 = Value.ref a from r1)
    obtain ⟨_, its, rv, o, h1, h2, n, h3⟩ := (show ObjOk X.prog X.w H s.heap tp (.tup cs) from I.hok tp _ hT)
    have e3 := ClsV.all k rv
    subst e3
    obtain ⟨oc, od', dt, sl⟩ := o
    simp only at h2 h3
    subst h2 h3
    exact PySem.W.kia_tup (PySem.W.kitx_exc (od := some od) hcl E.hg E.hk E.hs E.ha E.hn E.ht E.hm) I.kIn J h1 e (fun z => nomatch z) fun tk => ⟨.bl b, H, I.kept (t' := tk) fun _ _ z => z, rfl, q⟩
theorem pd_exI (i : Nat) {cl : Str} {C' : Addr} {b : Bool} {p2 : Pos} (hm : X.mg "isinstance" = none) (gC' : X.mg cl = some (.ref C')) (hcl : (PySem.W.clsIn X.K C).isSome = true) (E : ExcC X.K C) (hk : PySem.W.kitOne X.K (.ref C) (.ref C') = some b) (hz : Zc (.ref C) (some dx) oe) (hf : ∃ vs, oe.data = .fields vs)
    (hN : X.N[i]? = some n := by rfl) (hv : Vis X.env.scope n := by first | exact Or.inl rfl | exact Or.inr (Or.inl rfl) | exact Or.inr (Or.inr rfl)) (hd : (n == ("__debug__" : Str)) = false := by decide)
    (hcd : (n == ("__classdict__" : Str)) = false := by decide) (hg : Gl X "isinstance" := by rfl) (hg2 : Gl X cl := by rfl) (hd2 : (cl == ("__debug__" : Str)) = false := by decide)
    (hs : starEach (.Name n p1 :: [.Name cl p2]) X.env = (false, eval (.Name n p1) X.env) :: starEach [.Name cl p2] X.env := by rfl) (hs2 : starEach (.Name cl p2 :: []) X.env = (false, eval (.Name cl p2) X.env) :: starEach [] X.env := by rfl) (hpl : (backTo pos (starEach [.Name cl p2] X.env)).any (·.1) = false := by rfl) :
    PEd (X.suite a ((a, oe) :: pn)) (GX X.K dx v d) (.Call (.Name "isinstance" p) [.Name n p1, .Name cl p2] [] pos) (dExI i a b) := by
  refine ⟨_, pe_callB (X := X.suite a ((a, oe) :: pn)) (call_isX (b := b) hcl E hz hf) hg hm (by decide +kernel) (pa_cons (pe_var (X := X.suite a ((a, oe) :: pn)) (i := i) hN hv hd hcd) (pa_cons (pe_glob (X := X.suite a ((a, oe) :: pn)) (v := .ref C') hg2 gC' rfl hd2) pa_nil hs2) hs) (by decide) (by decide) hs hpl, ?_⟩
  intro P F H σ m Qd Q I g h q
  exact ⟨_, I.rw i _ h.1, ⟨_, I.pf _ _ g.1⟩, .inl ⟨_, _, rfl, fun u r => r, hk, q _ m _ F H h.2 I (Gr.refl P F) (.bl _)⟩⟩
theorem pd_exI3 (i : Nat) {c1 c2 c3 : Str} {C1 C2 C3 : Addr} {b : Bool} {p2 p3 p4 p5 : Pos} {z1} (hm : X.mg "isinstance" = none) (g1 : X.mg c1 = some (.ref C1)) (g2 : X.mg c2 = some (.ref C2)) (g3 : X.mg c3 = some (.ref C3)) (hcl : (PySem.W.clsIn X.K C).isSome = true) (E : ExcC X.K C)
    (hk : PySem.W.kitAny X.K (.ref C) [.ref C1, .ref C2, .ref C3] = some b) (hz : Zc (.ref C) (some dx) oe) (hf : ∃ vs, oe.data = .fields vs)
    (hN : X.N[i]? = some n := by rfl) (hv : Vis X.env.scope n := by first | exact Or.inl rfl | exact Or.inr (Or.inl rfl) | exact Or.inr (Or.inr rfl)) (hd : (n == ("__debug__" : Str)) = false := by decide)
    (hcd : (n == ("__classdict__" : Str)) = false := by decide) (hg : Gl X "isinstance" := by rfl) (hg1 : Gl X c1 := by rfl) (hg2 : Gl X c2 := by rfl) (hg3 : Gl X c3 := by rfl) (hd1 : (c1 == ("__debug__" : Str)) = false := by decide) (hd2 : (c2 == ("__debug__" : Str)) = false := by decide) (hd3 : (c3 == ("__debug__" : Str)) = false := by decide)
    (hs : starEach (.Name n p1 :: [.Tuple [.Name c1 p2, .Name c2 p3, .Name c3 p4] z1 p5]) X.env = (false, eval (.Name n p1) X.env) :: starEach [.Tuple [.Name c1 p2, .Name c2 p3, .Name c3 p4] z1 p5] X.env := by rfl) (hs2 : starEach (.Tuple [.Name c1 p2, .Name c2 p3, .Name c3 p4] z1 p5 :: []) X.env = (false, eval (.Tuple [.Name c1 p2, .Name c2 p3, .Name c3 p4] z1 p5) X.env) :: starEach [] X.env := by rfl)
    (hs3 : starEach (.Name c1 p2 :: [.Name c2 p3, .Name c3 p4]) X.env = (false, eval (.Name c1 p2) X.env) :: starEach [.Name c2 p3, .Name c3 p4] X.env := by rfl) (hs4 : starEach (.Name c2 p3 :: [.Name c3 p4]) X.env = (false, eval (.Name c2 p3) X.env) :: starEach [.Name c3 p4] X.env := by rfl) (hs5 : starEach (.Name c3 p4 :: []) X.env = (false, eval (.Name c3 p4) X.env) :: starEach [] X.env := by rfl)
    (hpl : (backTo pos (starEach [.Tuple [.Name c1 p2, .Name c2 p3, .Name c3 p4] z1 p5] X.env)).any (·.1) = false := by rfl) :
    PEd (X.suite a ((a, oe) :: pn)) (GX X.K dx v d) (.Call (.Name "isinstance" p) [.Name n p1, .Tuple [.Name c1 p2, .Name c2 p3, .Name c3 p4] z1 p5] [] pos) (dExI i a b) := by
  refine ⟨_, pe_callB (X := X.suite a ((a, oe) :: pn)) (call_isX (b := b) hcl E hz hf) hg hm (by decide +kernel) (pa_cons (pe_var (X := X.suite a ((a, oe) :: pn)) (i := i) hN hv hd hcd) (pa_cons (pe_tup (pa_cons (pe_glob (X := X.suite a ((a, oe) :: pn)) (v := .ref C1) hg1 g1 rfl hd1) (pa_cons (pe_glob (X := X.suite a ((a, oe) :: pn)) (v := .ref C2) hg2 g2 rfl hd2) (pa_cons (pe_glob (X := X.suite a ((a, oe) :: pn)) (v := .ref C3) hg3 g3 rfl hd3) pa_nil hs5) hs4) hs3)) pa_nil hs2) hs) (by decide) (by decide) hs hpl, ?_⟩
  intro P F H σ m Qd Q I g h q
  refine ⟨_, I.rw i _ h.1, Nat.le_of_ble_eq_true rfl, fun t ht => ?_⟩
  refine ⟨⟨_, by rw [upd_ne (ne_of_none (I.pf _ _ g.1) ht)]; exact I.pf _ _ g.1⟩, .inr ⟨t, _, _, rfl, upd_same, .cons (.own _) (.cons (.own _) (.cons (.own _) .nil)), hk, ?_⟩⟩
  exact q _ m _ F _ h.2 (I.newU ht) (Gr.refl P F) (.bl _)
/-- == of scalars, where there is no room (a suite) -/
def flatD : D → Bool
  | .none => true | .bool _ => true | .int _ => true | .str _ => true
  | _ => false
end
end DL

/-! D-layer: len(set(xs)) of a list of texts. -/
namespace DL
open PySem PySem.Spec PyProof.Rows L2

/-- a key taken into the keys met so far -/
def ded {κ : Type} [DecidableEq κ] (l : List κ) (x : κ) : List κ := if x ∈ l then l else l ++ [x]
theorem ded_mem {κ : Type} [DecidableEq κ] (l : List κ) (x k : κ) : decide (k ∈ ded l x) = (decide (k ∈ l) || decide (k = x)) := by
  unfold ded
  by_cases h : x ∈ l
  · rw [if_pos h]
    by_cases e : k = x
    · subst e; simp [h]
    · simp [e]
  · rw [if_neg h]; simp
theorem ded_len {κ : Type} [DecidableEq κ] (l : List κ) (x : κ) : (ded l x).length = if decide (x ∈ l) = true then l.length else l.length + 1 := by
  unfold ded
  by_cases h : x ∈ l
  · rw [if_pos h, if_pos (decide_eq_true h)]
  · rw [if_neg h, if_neg (by simp [h])]; simp
def met {κ : Type} [DecidableEq κ] (l : List κ) : List κ := l.foldl ded []
theorem met_snoc {κ : Type} [DecidableEq κ] (l : List κ) (x : κ) : met (l ++ [x]) = ded (met l) x := by
  unfold met; rw [List.foldl_append]; rfl
theorem ded_le {κ : Type} [DecidableEq κ] (l : List κ) (x : κ) : (ded l x).length ≤ l.length + 1 := by
  rw [ded_len]; split <;> omega
theorem met_fold {κ : Type} [DecidableEq κ] : ∀ (l acc : List κ), (l.foldl ded acc).length ≤ acc.length + l.length
  | [], acc => by simp
  | x :: l, acc => by
    have := met_fold l (ded acc x)
    have h2 := ded_le acc x
    simp only [List.foldl_cons, List.length_cons]
    omega
theorem met_le {κ : Type} [DecidableEq κ] (l : List κ) : (met l).length ≤ l.length := by
  have := met_fold l []
  unfold met
  simpa using this

section
variable {prog : Program} {w : World} {A : Around} {R : Result → Shared → Prop} {I : Addr} {fp wr : List Addr} {G : Array GenState → Array GenState → Prop} {n : Nat} {P : Nat → Value → Prop} {St : Nat → Shared → Prop}
/-- the loop that takes the walked keys into the set at S: behind i turns it holds the first i of xs -/
theorem set_loop (W : WalksS prog w A.in1 I fp wr G n P St) (S : Addr) (out : S ∉ fp) (xs : List Str) (len : xs.length = n) (few : n + 1 < scanBound) (hval : ∀ i v, P i v → ∃ x t, xs[i]? = some x ∧ v = .str x t) :
    ∀ (k i : Nat) (s : Shared), n - i = k → i ≤ n → St i s → s.heap.SetOf (PySem.strKind prog w) S (fun k => decide (k ∈ met (xs.take i))) (met (xs.take i)).length →
      (∀ s', Moved (S :: wr) G s s' → s'.heap.SetOf (PySem.strKind prog w) S (fun k => decide (k ∈ met xs)) (met xs).length → R (.ok (.ret .none)) s') →
      codeAny (model prog w) A (.builtin "set.update.loop" ⟨[.ref S, .ref I], []⟩) R s := by
  have nw : S ∉ wr := fun h => out (W.sub _ h)
  have more : ∀ b ∈ wr, b ∈ S :: wr := fun b hb => List.mem_cons_of_mem _ hb
  intro k
  induction k with
  | zero =>
    intro i s hk hi hst hS q
    have e : xs.take i = xs := List.take_of_length_le (by omega)
    rw [e] at hS
    have ein : i = n := by omega
    subst ein
    refine codeAny_builtin F.entry_set_update_loop ?_
    rw [Around.under_plainId F.plain_set_update_loop _]
    show wpAny _ A.in1 (pyNext (.ref I) >>= _) _ _ s
    refine wpAny_bind (W.done s _ _ hst fun s' mv => ?_)
    show wpAny _ A.in1 (ret Value.none) _ _ s'
    obtain ⟨o, es, ep, t, ho, rest⟩ := hS
    exact wpAny_pure (q s' (mv.mono more) ⟨o, es, ep, t, mv.heap S _ nw ho, rest⟩)
  | succ k ih =>
    intro i s hk hi hst hS q
    have lt : i < n := by omega
    refine codeAny_builtin F.entry_set_update_loop ?_
    rw [Around.under_plainId F.plain_set_update_loop _]
    show wpAny _ A.in1 (pyNext (.ref I) >>= _) _ _ s
    refine wpAny_bind (W.item i s _ _ lt hst fun v s' hP hst' mv => ?_)
    obtain ⟨x, t, hx, rfl⟩ := hval i v hP
    have hS' : s'.heap.SetOf (PySem.strKind prog w) S (fun k => decide (k ∈ met (xs.take i))) (met (xs.take i)).length := by
      obtain ⟨o, es, ep, tb, ho, rest⟩ := hS
      exact ⟨o, es, ep, tb, mv.heap S _ nw ho, rest⟩
    show wpAny _ A.in1 (holding [Value.str x t] (setAdd S (.str x t)) >>= _) _ _ s'
    refine wpAny_bind (wpAny_holding ?_)
    unfold setAdd
    refine wpAny_holding (wpAny_bind ((PySem.strKind prog w).pyHash (k := x) (strKind_is _ _ _ _) ?_))
    have small : (met (xs.take i)).length + 1 < scanBound := by
      have h1 := met_le (xs.take i)
      rw [List.length_take] at h1
      omega
    refine wpAny_setAddHashed_of (knd := PySem.strKind prog w) (s := { s' with toks := s'.toks + 1 }) (strKind_is _ _ _ _) rfl hS' small fun h' but hS2 => ?_
    have et : xs.take (i + 1) = xs.take i ++ [x] := by rw [List.take_add_one, hx]; rfl
    have hS3 : h'.SetOf (PySem.strKind prog w) S (fun k => decide (k ∈ met (xs.take (i + 1)))) (met (xs.take (i + 1))).length :=
      SetOf_congr hS2 (fun k' => by rw [et, met_snoc, ded_mem]) (by rw [et, met_snoc, ded_len])
    refine wpAny_pure ⟨plainId_quiet F.plain_set_update_loop _, ih (i + 1) _ (by omega) lt (W.frame _ s' _ _ hst' (Nat.le_succ _) fun b hb o e => ?_) hS3 fun s'' mv2 hS4 => ?_⟩
    · rw [but.2 b fun h : b = S => out (h ▸ hb)]; exact e
    · refine q s'' (Moved.trans W.gtrans ((mv.mono more).then_heap (Nat.le_succ _) fun b o hb e => ?_) mv2) hS4
      rw [but.2 b fun h : b = S => hb (h ▸ List.mem_cons_self)]; exact e
end
theorem strs_get : ∀ {us : List Value} {xs : List Str}, StrsAre us xs → ∀ (i : Nat) (v : Value), us[i]? = some v → ∃ x t, xs[i]? = some x ∧ v = .str x t
  | _, _, .nil, i, v, h => by simp at h
  | _, _, .cons n t hr, 0, v, h => ⟨n, t, rfl, by simpa using h.symm⟩
  | _, _, .cons n t hr, i + 1, v, h => by
    obtain ⟨x, t', e1, e2⟩ := strs_get hr i v (by simpa using h)
    exact ⟨x, t', by simpa using e1, e2⟩
abbrev newSet (led : Bool) : Obj := { cls := .type "set", dict := none, data := .set #[] 0 (.fresh 0 0 led) }
section
variable {prog : Program} {w : World} {A : Around} {E : Value → Shared → Prop} {s : Shared}
theorem call_setT {l : Addr} {items : Array Value} {xs : List Str} {Q : Value → Shared → Prop} (hh : A.handled = none) (hl : s.heap.IsList l items) (hi : StrsAre items.toList xs) (few : items.size + 1 < scanBound)
    (h : ∀ (h' : Heap) (tk : Nat), h'.SetOf (PySem.strKind prog w) s.heap.objs.size (fun k => decide (k ∈ met xs)) (met xs).length → (∀ b o, b < s.heap.objs.size → s.heap.get? b = some o → h'.get? b = some o) → Q (.ref s.heap.objs.size) { s with heap := h', toks := tk }) :
    wpAny (model prog w) A (call (.type "set") [.ref l]) Q E s := by
  have hsz : xs.length = items.size := by rw [← StrsAre.len_eq hi, Array.length_toList]
  obtain ⟨c, tl, hmro⟩ := PySem.F.called_set.mro
  have m1 := PySem.F.called_set.made; have m2 := PySem.F.called_set.sub; have m3 := PySem.F.called_set.notType; have m4 := PySem.F.called_set.canCreate; have m5 := PySem.F.typeCall_set_1 (.ref l)
  refine wpAny_call (codeAny_of_tree (show wpAny _ _ (callAny (.type "set") _) _ _ _ from wpAny_pure ⟨Code.quiet_builtin _ (by decide +kernel), codeAny_builtin PySem.F.entry_type_call ?_⟩))
  rw [Around.under_plain (weight_type_call_type "set" [.ref l] []) rfl]
  repeat (any_goals (first | assumption | wp_step))
  refine codeAny_mono (code_set_new_1 (.ref l) (E := E) (Q₁ := fun obj s₁ => ∃ led : Bool, obj = .ref s.heap.objs.size ∧ s₁ = { s with heap := s.heap.push (newSet led) }) fun led => ⟨led, rfl, rfl⟩) fun r s₁ hr => ?_
  rcases r with e | fl
  · exact hr
  rcases fl with _ | _ | _ | obj
  all_goals first | exact hr.elim | skip
  obtain ⟨led, rfl, rfl⟩ := hr
  have gS : (s.heap.push (newSet led)).get? s.heap.objs.size = some (newSet led) := Heap.get?_push_size _ rfl
  have hT : Shared.TypeIs { s with heap := s.heap.push (newSet led) } (.ref s.heap.objs.size) "set" := ⟨_, gS, rfl⟩
  have i1 := PySem.F.called_set.init.lookup; have i2 := PySem.F.called_set.init.bind (.ref s.heap.objs.size)
  repeat (any_goals (first | assumption | wp_step))
  refine codeAny_mono (codeAny_call_builtin (R := wants (fun r s₂ => r = .none ∧ ∃ h' tk, s₂ = { s with heap := h', toks := tk } ∧ h'.SetOf (PySem.strKind prog w) s.heap.objs.size (fun k => decide (k ∈ met xs)) (met xs).length ∧
      ∀ b o, b < s.heap.objs.size → s.heap.get? b = some o → h'.get? b = some o) E) PySem.F.called_set.init.plain PySem.F.entry_set_init (check_set_init_1 hT ?_)) fun r₂ s₂ hr₂ => ?_
  · obtain ⟨ol, hol, hcl, nl, hdl⟩ := hl
    obtain ⟨ocls, odict, odata, oslots⟩ := ol
    simp only at hcl hdl
    subst hcl; subst hdl
    have hol' : (s.heap.push (newSet led)).get? l = some { cls := .type "list", dict := odict, data := .seq items nl, slots := oslots } := Heap.get?_push_of_some _ hol
    have j1 := PySem.F.sub_list_set; have j2 := PySem.F.sub_list_frozenset
    have j3 : (Value.type "list" == Value.type "dict") = false := by decide
    have hl1 : (s.heap.push (newSet led)).IsList l items := ⟨_, hol', rfl, nl, rfl⟩
    unfold Builtin.«set.__init__» noKeywords Builtin.Frozenset.updateFrom
    generalize hPI : pyIter = PI
    wp_walk
    subst hPI
    refine wpAny_pyIter_list hl1 (wpAny_bind (wpAny_runValue ?_))
    have lS : l < s.heap.objs.size := Heap.lt_size hol
    have sz : (s.heap.push (newSet led)).objs.size = s.heap.objs.size + 1 := Heap.size_push ..
    refine set_loop ((Walks.list (by simp [hh]) _ l (by rw [sz]; exact Nat.ne_of_lt (Nat.lt_succ_of_lt lS)) items).toS) s.heap.objs.size (by rw [sz]; simp only [List.mem_cons, List.not_mem_nil, or_false, not_or]; exact ⟨Nat.ne_of_lt (Nat.lt_succ_self _), Nat.ne_of_gt lS⟩) xs hsz few
      (fun i v hv => strs_get hi i v (by rw [Array.getElem?_toList]; exact hv)) (items.size - 0) 0 _ (by omega) (Nat.zero_le _) ⟨⟨_, Heap.get?_push_size _ rfl, rfl, rfl⟩, (hl1.push _)⟩ ?h0 ?h1
    case h0 =>
      refine SetOf_congr ((setObjOf_fresh (knd := PySem.strKind prog w) led).setOf (Heap.get?_push_of_some _ gS) (by unfold scanBound; omega)) (fun _ => ?_) rfl
      simp [met]
    case h1 =>
      intro s' hm hS'
      obtain ⟨h', g', d', tk', os'⟩ := s'
      have eg : g' = s.gens := hm.gens
      have ed : d' = s.drawn := hm.drawn
      have eo : os' = s.os := hm.os
      subst eg ed eo
      show wpAny _ _ _ _ _ _
      refine wpAny_pure (show wpAny _ _ (ret Value.none) _ _ _ from wpAny_pure ⟨rfl, h', tk', rfl, hS', fun b o hb e => ?_⟩)
      exact hm.heap b o (by rw [sz]; simp only [List.mem_cons, List.not_mem_nil, or_false, not_or]; exact ⟨Nat.ne_of_lt hb, Nat.ne_of_lt (Nat.lt_succ_of_lt hb)⟩) (Heap.get?_push_of_some _ (Heap.get?_push_of_some _ e))
  · rcases r₂ with e | fl₂
    · exact hr₂
    rcases fl₂ with _ | _ | _ | r
    all_goals first | exact hr₂.elim | skip
    obtain ⟨rfl, h', tk, rfl, hS', hk'⟩ := hr₂
    repeat (any_goals (first | assumption | wp_step))
    exact h _ _ hS' hk'
end

section
variable {X : Cx} {G : Gd} {a : Expr} {da : TEd} {p p2 pos q : Pos}
def tLenSetT (K : PySem.W.Frag) (ta : TE) : TE := fun σ H Q => ta σ H fun x H1 => ∃ (l : Addr) (xs : List Str), x = .ref l ∧ SqL K H1 l (xs.map V.str) ∧ xs.length ≤ 4000 ∧ Q (.int ((met xs).length : Nat)) H1
theorem pe_lenSetT {ta : TE} (hg : Gl X "len") (hm : X.mg "len" = none) (hg2 : Gl X "set") (hm2 : X.mg "set" = none) (ha : PE X a ta) (hc : X.calm = true) (na : starEach [a] X.env = (false, eval a X.env) :: starEach [] X.env := by rfl) :
    PE X (.Call (.Name "len" p) [.Call (.Name "set" p2) [a] [] q] [] pos) (tLenSetT X.K ta) := by
  refine ⟨fun pins s σ H Q I h => ?_⟩
  refine Call_ (ld_blt I hg hm boot_len (callWith_builtin1 (args_cons ?_ rfl) rfl rfl))
  refine Call_ (ld_blt I hg2 hm2 boot_set (callWith_type1 (args_cons (thn (ha.run pins s σ H _ I h) fun v s1 ⟨x, H1, I1, r1, q1⟩ => args_nil ?_) na) na rfl))
  obtain ⟨l, xs, rfl, hq, few, q1⟩ := q1
  cases r1
  obtain ⟨its, r, pl, hz⟩ := I1.list hq
  have hlen : its.toArray.size = xs.length := by rw [List.size_toArray, ← r.length, List.length_map]
  refine call_setT (I1.ok.hd hc) pl.isList (by simpa using strs_of_vals r) (by rw [hlen]; unfold scanBound; omega) fun h' tk hS hk => ?_
  refine args_nil ?_
  have ml := met_le xs
  obtain ⟨o, es, ep, t, ho, hex, hd, _, _, _, hf, hn⟩ := hS
  have I2 : Inv X pins σ H1 { s1 with heap := h', toks := tk } := I1.kept fun b o e => hk b o (Heap.lt_size e) e
  exact call_len_set ho hex hd hf (by rw [hn] <;> omega) ⟨.int (met xs).length, H1, I2.tok _, ⟨_, by rw [hn]⟩, q1⟩
def rdLenSet (x : D) (Q : D → Prop) : Prop := match x with
  | .list ds => ∃ xs, strsD ds = some xs ∧ xs.length ≤ 4000 ∧ Q (.int ((met xs).length : Nat))
  | _ => False
theorem pd_lenSet (hm : X.mg "len" = none) (hm2 : X.mg "set" = none) (hc : X.calm = true) (ha : PEd X G a da) (hg : Gl X "len" := by rfl) (hg2 : Gl X "set" := by rfl) (na : starEach [a] X.env = (false, eval a X.env) :: starEach [] X.env := by rfl) :
    PEd X G (.Call (.Name "len" p) [.Call (.Name "set" p2) [a] [] q] [] pos) (dUn rdLenSet da) := by
  obtain ⟨t, a1, b1⟩ := ha
  refine ⟨_, pe_lenSetT hg hm hg2 hm2 a1 hc na, ?_⟩
  intro P F H σ n Qd Q I g h q
  refine b1 P F H σ n _ _ I g h fun d n1 v F1 H1 h1 I1 g1 r1 => ?_
  cases d with
  | list ds =>
    obtain ⟨xs, hx, few, h1⟩ := h1
    cases r1 with
    | lst e1 e2 =>
      have := strs_rp e2 hx
      subst this
      exact ⟨_, xs, rfl, .of (I1.ff _ _ e1), few, q _ n1 _ F1 H1 h1 I1 g1 (.int _)⟩
  | _ => exact h1.elim
end
end DL

/-! D-layer: what else the laws' texts hold. -/
namespace DL
open PySem PySem.Spec PyProof.Rows L2
section
variable {X : Cx} {G : Gd} {pos p p2 : Pos} {a b e : Expr} {da db de : TEd} {lo hi : Option Expr} {dl dh : TOd}
/-- a slice of a list (a new one) or of a text -/
def dSl (de : TEd) (dl dh : TOd) : TEd := fun n Q => de n fun d n1 => dl n1 fun l n2 => dh n2 fun u n3 => match d with
  | .str z => z.length ≤ sizeLine ∧ Q (.str (cutS z l u)) n3
  | .list ds => Q (.list (cutD ds l u)) n3
  | _ => False
theorem pd_slice (he : PEd X G e de) (hl : POd X G lo dl) (hh : POd X G hi dh) : PEd X G (.Subscript e (.Slice lo hi none p2) pos) (dSl de dl dh) := by
  obtain ⟨t, a1, b1⟩ := he
  obtain ⟨u, a2, b2⟩ := hl
  obtain ⟨w, a3, b3⟩ := hh
  refine ⟨_, pe_slice (sl_str.or sl_list) a1 a2 a3, ?_⟩
  intro P F H σ n Qd Q I g h q
  refine b1 P F H σ n _ _ I g h fun d n1 v F1 H1 h1 I1 g1 r1 => ?_
  refine b2 P F1 H1 σ n1 _ _ I1 (G.m g (Same.refl P) g1) h1 fun l n2 F2 H2 h2 I2 g2 => ?_
  refine b3 P F2 H2 σ n2 _ _ I2 (G.m g (Same.refl P) (g1.trans g2)) h2 fun o n3 F3 H3 h3 I3 g3 => ?_
  have g123 := (g1.trans g2).trans g3
  cases d with
  | str z =>
    cases r1
    exact .inl ⟨z, rfl, h3.1, q _ n3 _ F3 H3 h3.2 I3 g123 (.str _)⟩
  | list ds =>
    cases r1 with
    | @lst _ vs _ e1 e2 =>
      refine .inr ⟨_, vs, rfl, .of (I3.ff _ _ ((g2.trans g3).s _ _ e1)), fun t ht => ?_⟩
      have gn := I3.gnew (o := .lst (cutV vs l o)) ht
      exact q _ n3 _ _ _ h3 (I3.new ht) (g123.trans gn) (.lst upd_same (RpA.mono gn.s _ (RpA.mono (g2.trans g3).s _ (cut_rp e2))))
  | _ => exact h3.elim
/-- list(range(a, b)): a new list -/
def dRngL (da db : TEd) : TAd := fun n Q => da n fun d n1 => db n1 fun e n2 => ∃ i j : Int, d = .int i ∧ e = .int j ∧ RgOk i j ∧ Q (rngD i (j - i).toNat) n2
theorem rg_rp {K : PySem.W.Frag} {F : Hp} {i : Int} : ∀ (l : List Nat), RpA K F (l.map fun (k : Nat) => V.int (i + (k : Int))) (l.map fun (k : Nat) => PyData.int (i + (k : Int)))
  | [] => .nil
  | k :: l => .cons (.int _) (rg_rp l)
theorem pn_listRng {q : Pos} (hm : X.mg "list" = none) (hm2 : X.mg "range" = none) (ha : PEd X G a da) (hb : PEd X G b db) (hc : X.calm = true := by rfl) (hg : Gl X "list" := by rfl) (hg2 : Gl X "range" := by rfl) (na : starEach [a, b] X.env = (false, eval a X.env) :: starEach [b] X.env := by rfl) (nb : starEach [b] X.env = (false, eval b X.env) :: starEach [] X.env := by rfl)
    (nd : (backTo q (starEach [b] X.env)).any (·.1) = false := by rfl) (nc : starEach [.Call (.Name "range" p2) [a, b] [] q] X.env = (false, eval (.Call (.Name "range" p2) [a, b] [] q) X.env) :: starEach [] X.env := by rfl) : PNd X G (.Call (.Name "list" p) [.Call (.Name "range" p2) [a, b] [] q] [] pos) (dRngL da db) := by
  obtain ⟨t, a1, b1⟩ := ha
  obtain ⟨u, a2, b2⟩ := hb
  refine ⟨_, pe_listRg hc hg hm (prg_2 hg2 hm2 a1 a2 na nb nd) nc, ?_⟩
  intro P F H σ n Qd Q I g h q
  refine b1 P F H σ n _ _ I g h fun d n1 v F1 H1 h1 I1 g1 r1 => ?_
  refine b2 P F1 H1 σ n1 _ _ I1 (G.m g (Same.refl P) g1) h1 fun e n2 w F2 H2 h2 I2 g2 r2 => ?_
  obtain ⟨i, j, rfl, rfl, ok, h2⟩ := h2
  cases r1; cases r2
  refine ⟨i, j, rfl, rfl, ok, fun t ht => ?_⟩
  exact q _ n2 t _ F2 _ h2 (I2.newU ht) (g1.trans g2) upd_same (rg_rp _) (I2.nF ht) (I2.nP ht) (I2.ownNe (o := .lst []) ht)
/-- a, b = two new lists -/
def dParNN (i j : Nat) (dt du : TAd) : TSd := fun D n => dt n fun ds n1 => du n1 fun es n2 => D.nx ((n2.set i (Sl.own none ds)).set j (Sl.own none es))
/-- == where a handled exception stands (a suite) -/
theorem pd_neU (hu : X.A.units + 200 < cLine) (ha : PEd X G a da) (hb : PEd X G b db) : PEd X G (.Compare a [.NotEq] [b] pos) (dOp rdNe da db) := pd_cmp (op_neP hu) snd_ne ha hb (nomark _)
theorem pdt_neU (hu : X.A.units + 200 < cLine) (ha : PEd X G a da) (hb : PEd X G b db) : PTd X G (.Compare a [.NotEq] [b] pos) (dTest (dOp rdNe da db)) := pdt_cmp (op_neP hu) snd_ne ha hb (nomark _)
/-- s[::-1] -/
def revS (z : Str) : Str := ⟨z.cps.toList.reverse.toArray⟩
def rdRevS (x : D) (Q : D → Prop) : Prop := match x with
  | .str z => z.length ≤ sizeLine ∧ Q (.str (revS z))
  | _ => False
theorem rev_pick (z : Str) : ((Builtin.Str.strSliceIndices none none (-1) z.length).filterMap (z.cps[·]?)).toArray = (revS z).cps := by
  have e : Builtin.Str.strSliceIndices none none (-1) z.length = (List.range z.length).map fun k => z.length - 1 - k := by
    rw [← PySem.W.krv_sliceRange]
    rfl
  rw [e, PySem.W.krv_range]
  have e2 : (List.range z.length).filterMap (z.cps[·]?) = z.cps.toList := PySem.W.krv_all z.cps
  rw [List.filterMap_reverse, e2]
  rfl
theorem pe_revS {te : TE} {k : Nat} {p1 p3 : Pos} (he : PE X e te) : PE X (.Subscript e (.Slice none none (some (.UnaryOp .USub (.Constant (.int 1) k p1) p2)) p3) pos) (fun σ H Q => te σ H fun x H1 => ∃ z, x = .str z ∧ z.length ≤ sizeLine ∧ Q (.str (revS z)) H1) := by
  refine ⟨fun pins s σ H Q I h => ?_⟩
  refine Subscript_ (thn (he.run pins s σ H _ I h) fun v s1 ⟨x, H1, I1, r1, z, ex, hz, q⟩ => ?_)
  subst ex
  obtain ⟨t, rfl⟩ := r1
  have hst : PO X (some (.UnaryOp .USub (.Constant (.int 1) k p1) p2)) (tPart (tUn (rU fun i => .int (-i)) (tC (.int 1)))) := po_some (pe_un un_neg pe_int)
  refine wpAny_Slice (thn (po_none.run pins s1 σ H1 (fun o H2 => o = none ∧ H2 = H1) I1 ⟨rfl, rfl⟩) fun vl s2 ⟨l, H2, I2, pl, el, e2⟩ => ?_)
  subst el e2
  refine thn (po_none.run pins s2 σ H2 (fun o H3 => o = none ∧ H3 = H2) I2 ⟨rfl, rfl⟩) fun vu s3 ⟨u, H3, I3, pu, eu, e3⟩ => ?_
  subst eu e3
  refine thn (hst.run pins s3 σ H3 (fun o H4 => o = some (-1) ∧ H4 = H3) I3 ⟨1, rfl, -1, rfl, rfl, rfl⟩) fun vs s4 ⟨o, H4, I4, ps, eo, e4⟩ => ?_
  subst eo e4
  cases pl; cases pu
  cases ps with
  | int i t2 =>
    refine tail_any (ops := [.ref s4.heap.objs.size]) (typeIs_str _ _ _) F.slot_str_getitem.lookup ?_ (by with_unfolding_all rfl)
    refine wpAny_getItem_str_slice (l := none) (u := none) (st := some (-1, t2)) ⟨_, Heap.get?_push_size _ rfl, rfl, rfl⟩ rfl ?_
    have er : (⟨((slicePicked z none none (some (-1, t2))).filterMap (z.cps[·]?)).toArray⟩ : Str) = revS z := congrArg Str.mk (rev_pick z)
    show (Made.str ⟨((slicePicked z none none (some (-1, t2))).filterMap (z.cps[·]?)).toArray⟩).post _ _
    rw [er]
    have I5 : Inv X pins σ H4 { s4 with heap := s4.heap.push { cls := .type "slice", data := .fields #[.none, .none, .int (-1) t2] } } := I4.kept (t' := s4.toks) fun b ob q => Heap.get?_push_of_some _ q
    have hl : (revS z).length = z.length := by
      show (z.cps.toList.reverse.toArray).size = z.cps.size
      simp
    exact ⟨by rw [hl]; exact hz, .str (revS z), H4, I5.tok _, ⟨_, rfl⟩, q⟩
theorem pd_revS {k : Nat} {p1 p3 : Pos} (he : PEd X G e de) : PEd X G (.Subscript e (.Slice none none (some (.UnaryOp .USub (.Constant (.int 1) k p1) p2)) p3) pos) (dUn rdRevS de) := by
  obtain ⟨t, a1, b1⟩ := he
  refine ⟨_, pe_revS a1, ?_⟩
  intro P F H σ n Qd Q I g h q
  refine b1 P F H σ n _ _ I g h fun d n1 v F1 H1 h1 I1 g1 r1 => ?_
  cases d with
  | str z => cases r1; exact ⟨z, rfl, h1.1, q _ n1 _ F1 H1 h1.2 I1 g1 (.str _)⟩
  | _ => exact h1.elim
end
end DL

/-! D-layer: s.replace(written, written): behind a written text that was stored. -/
namespace DL
open PySem PySem.Spec PyProof.Rows L2
def PETd (X : Cx) (G : Gd) (e : Expr) (td : TEd) : Prop := ∃ t, PET X e t ∧ SndE X.K G t td
def PATd (X : Cx) (G : Gd) (es : List Expr) (td : TAd) : Prop := ∃ t, PAT X es t ∧ SndA X.K G t td
def PSTd (X : Cx) (G : Gd) (st : Stmt) (td : TSd) : Prop := ∃ t, PST X st t ∧ SndS X.K G t td
def PSsTd (X : Cx) (G : Gd) (st : List Stmt) (td : TSd) : Prop := ∃ t, PSsT X st t ∧ SndS X.K G t td
section
variable {X : Cx} {G : Gd} {pos : Pos} {a b e : Expr} {es : List Expr} {st : Stmt} {rest : List Stmt} {da db de td' : TEd} {dt : TAd} {td ud : TSd}
theorem PETd.of (h : PEd X G e de) : PETd X G e de := by
  obtain ⟨t, x, y⟩ := h
  exact ⟨t, CwR.PET.of x, y⟩
theorem PSTd.of (h : PSd X G st td) : PSTd X G st td := by
  obtain ⟨t, x, y⟩ := h
  exact ⟨t, PST.of x, y⟩
theorem PSsTd.of (h : PSsd X G rest td) : PSsTd X G rest td := by
  obtain ⟨t, x, y⟩ := h
  exact ⟨t, PSsT.of x, y⟩
theorem psstd_cons (h1 : PSTd X G st td) (h2 : PSsTd X G rest ud) : PSsTd X G (st :: rest) (dSeq td ud) := by
  obtain ⟨t, x, y⟩ := h1
  obtain ⟨u, z, w⟩ := h2
  exact ⟨_, psst_cons x z, snd_seq y w⟩
theorem psd_strT (i : Nat) {j : Nat} {x c : Str} {cpos pos' : Pos} (hN : X.N.Nodup) (h2 : PSsTd X G rest ud) (hi : X.N[i]? = some x := by rfl) (hx : Loc X.env.scope x := by first | exact Or.inl rfl | exact Or.inr rfl)
    (hs : swapsWith (.Constant (.str c) j cpos) (some (.Name x pos')) pos.line X.env = pure false := by rfl) (hf : X.fn x = true ∨ X.env.scope.names.lookup x = some .local := by first | exact .inl rfl | exact .inr rfl) :
    PSsd X G (.Assign [.Name x pos'] (.Constant (.str c) j cpos) pos :: rest) (dSeq (dSet i (dC (.str c))) ud) := by
  obtain ⟨u, z, w⟩ := h2
  refine ⟨_, pss_str hN hi hx z hs hf, snd_seq (td := dSet i (dC (.str c))) (fun P F H σ n Dd Dn I g h q => ?_) w⟩
  exact q.nx _ _ F H h (I.set (.str c)) (Gr.refl P F)
theorem patd_nil : PATd X G [] dNil := ⟨_, pat_nil, fun P F H σ n Qd Q I g h q => q [] n [] F H h I (Gr.refl P F) .nil⟩
theorem patd_cons (ha : PETd X G e da) (hb : PATd X G es dt) (hs : starEach (e :: es) X.env = (false, eval e X.env) :: starEach es X.env := by rfl) : PATd X G (e :: es) (dCons da dt) := by
  obtain ⟨t, h1, h2⟩ := ha
  obtain ⟨u, h3, h4⟩ := hb
  exact ⟨_, pat_cons h1 h3 hs, snd_cons h2 h4⟩
theorem petd_lst (h : PATd X G es dt) : PETd X G (.List es pos) (dFrz (dNewL dt)) := by
  obtain ⟨t, h1, h2⟩ := h
  refine ⟨_, pet_lst h1, ?_⟩
  intro P F H σ n Qd Q I g h q
  refine h2 P F H σ n _ _ I g h fun ds n1 vs F1 H1 h1 I1 g1 r1 => ⟨by rw [RpA.length r1]; exact h1.1, fun p hp => ?_⟩
  have gn := I1.gnew (o := .lst vs) hp
  exact q _ n1 _ _ _ h1.2 (I1.new hp) (g1.trans gn) (.lst upd_same (RpA.mono gn.s _ r1))
theorem petd_add (ha : PETd X G a da) (hb : PETd X G b db) : PETd X G (.BinOp a .Add b pos) (dOp rdAdd da db) := by
  obtain ⟨t, h1, h2⟩ := ha
  obtain ⟨u, h3, h4⟩ := hb
  exact ⟨_, CwR.pet_op op_addAll h1 h3, snd_op snd_add h2 h4⟩
def dRepl (de : TEd) (y z : Str) : TEd := fun n Q => de n fun d n1 => match d with
  | .str x => x.length + (x.length + 1) * z.length ≤ 16777216 ∧ Q (.str (Txt.replace x y z)) n1
  | _ => False
theorem petd_repl {y z : Str} {j k : Nat} {c0 c1 apos : Pos} (ho : PEd X G a da) (hyz : (y == z) = false := by decide)
    (hst : starEach [.Constant (.str y) j c0, .Constant (.str z) k c1] X.env = [(false, eval (.Constant (.str y) j c0) X.env), (false, eval (.Constant (.str z) k c1) X.env)] := by rfl)
    (hbase : attributeBase a "replace" X.env (eval a X.env) = eval a X.env := by rfl) (hline : (apos.endLine == pos.line) = true := by rfl) :
    PETd X G (.Call (.Attribute a "replace" apos) [.Constant (.str y) j c0, .Constant (.str z) k c1] [] pos) (dRepl da y z) := by
  obtain ⟨t, h1, h2⟩ := ho
  refine ⟨_, CwR.pet_replC h1 hyz hst hbase hline, ?_⟩
  intro P F H σ n Qd Q I g h q
  refine h2 P F H σ n _ _ I g h fun d n1 v F1 H1 h1 I1 g1 r1 => ?_
  cases d with
  | str x => cases r1; exact ⟨x, rfl, h1.1, q _ n1 _ F1 H1 h1.2 I1 g1 (.str _)⟩
  | _ => exact h1.elim
theorem pstd_set (i : Nat) {x : Str} {pos' : Pos} (hN : X.N.Nodup) (he : PETd X G e de) (hi : X.N[i]? = some x := by rfl) (hx : Loc X.env.scope x := by first | exact Or.inl rfl | exact Or.inr rfl) (hs : swapsWith e (some (.Name x pos')) pos.line X.env = pure false := by rfl)
    (hf : X.fn x = true ∨ X.env.scope.names.lookup x = some .local := by first | exact .inl rfl | exact .inr rfl) : PSTd X G (.Assign [.Name x pos'] e pos) (dSet i de) := by
  obtain ⟨t, a1, b1⟩ := he
  refine ⟨tAsg t (gName i), fun pins s σ H D h0 I h => ?_, ?_⟩
  · refine wpAny_Assign_Name (thn (a1 pins s σ H _ h0 I h) fun v s1 ⟨y, H1, I1, r1, q1⟩ => ?_) hs
    exact store_ok I1 hN hi hx r1 (fun s2 I2 => ⟨_, H1, I2, q1⟩) hf
  · intro P F H σ n Dd Dn I g h q
    exact b1 P F H σ n _ _ I g h fun d n1 v F1 H1 h1 I1 g1 r1 => q.nx _ _ F1 H1 h1 (I1.set r1) g1
end
end DL

namespace DL
open PySem PySem.Spec PyProof.Rows L2 TL
/-! unfoldings for the simplifier -/
section
variable {n : En} {D' : Eds}
theorem e_seq {td ud : TSd} {E : Eds} : dSeq td ud E n = td { E with nx := ud E } n := rfl
theorem e_next {E : Eds} : dNext E n = E.nx n := rfl
theorem e_never {E : Eds} : dNever E n = False := rfl
theorem e_ret {de : TEd} {E : Eds} : dRet de E n = de n E.rt := rfl
theorem e_retN {E : Eds} : dRetN E n = E.rt .none n := rfl
theorem e_drop {de : TEd} {E : Eds} : dDrop de E n = de n fun _ n1 => E.nx n1 := rfl
theorem e_ifS {A : TTd} {td ud : TSd} {E : Eds} : dIfS A td ud E n = A n fun b n1 => if b = true then td E n1 else ud E n1 := rfl
theorem e_gname {i : Nat} {d : D} {Q} : gdName i d n Q = Q (n.set i (Sl.val d)) := rfl
theorem e_gnil {ds : List D} {Q} : gdNil ds n Q = (ds = [] ∧ Q n) := rfl
theorem e_gcons {g gs} {d : D} {ds : List D} {Q} : gdCons g gs (d :: ds) n Q = g d n fun n1 => gs ds n1 Q := rfl
theorem e_gtup {k gs} {ds : List D} {Q} : gdTup k gs (.tuple ds) n Q = (ds.length = k ∧ gs ds n Q) := rfl
theorem e_asg {de gd} {E : Eds} : dAsg de gd E n = de n fun d n1 => gd d n1 E.nx := rfl
theorem e_set {i} {de : TEd} {E : Eds} : dSet i de E n = de n fun d n1 => E.nx (n1.set i (Sl.val d)) := rfl
theorem e_setO {i} {dt : TAd} {E : Eds} : dSetO i dt E n = dt n fun ds n1 => E.nx (n1.set i (Sl.own none ds)) := rfl
theorem e_par {i j} {da db : TEd} {E : Eds} : dPar i j da db E n = da n fun d n1 => db n1 fun e n2 => E.nx ((n2.set i (Sl.val d)).set j (Sl.val e)) := rfl
theorem e_parVN {i j} {da : TEd} {dt : TAd} {E : Eds} : dParVN i j da dt E n = da n fun d n1 => dt n1 fun es n2 => E.nx ((n2.set i (Sl.val d)).set j (Sl.own none es)) := rfl
theorem e_parNV {i j} {dt : TAd} {db : TEd} {E : Eds} : dParNV i j dt db E n = dt n fun es n1 => db n1 fun e n2 => E.nx ((n2.set i (Sl.own none es)).set j (Sl.val e)) := rfl
theorem e_var {i} {Q} : dVar i n Q = match n[i]? with
  | some (Sl.val d) => Q d n
  | some (Sl.own _ ds) => Q (.list ds) (n.set i (Sl.val (.list ds)))
  | _ => False := rfl
theorem e_aug {i rd de} {E : Eds} : dAug i rd de E n = match n[i]? with
  | some (Sl.val x) => de n fun y n1 => rd x y fun z => E.nx (n1.set i (Sl.val z))
  | _ => False := rfl
theorem e_putIx {i di de} {E : Eds} : dPutIx i di de E n = de n fun d n1 => isOwn n1[i]? ∧ di n1 fun k n2 => match n2[i]? with
  | some (Sl.own t ds) => ∃ z m, k = .int z ∧ ixN ds.length z = some m ∧ E.nx (n2.set i (Sl.own t (ds.set m d)))
  | _ => False := rfl
theorem e_own {t ds} : isOwn (some (Sl.own t ds)) = True := rfl
theorem e_while {A tb} {E : Eds} : dWhile A tb E n = ∃ m, whileN A tb E m n := rfl
theorem e_itL {de Q} : dItL de n Q = de n fun d n1 => match d with
  | .list ds => Q ds n1
  | _ => False := rfl
theorem e_itS {de Q} : dItS de n Q = de n fun d n1 => match d with
  | .str x => Q (signsD x) n1
  | _ => False := rfl
theorem e_rng1 {da Q} : dRng1 da n Q = da n fun d n1 => ∃ j : Int, d = .int j ∧ (-(2 ^ 62) ≤ j ∧ j < 2 ^ 62) ∧ Q (rngD 0 j.toNat) n1 := rfl
theorem e_rng2 {da db Q} : dRng2 da db n Q = da n fun d n1 => db n1 fun e n2 => ∃ i j : Int, d = .int i ∧ e = .int j ∧ (-(2 ^ 62) ≤ i ∧ i < 2 ^ 62 ∧ -(2 ^ 62) ≤ j ∧ j < 2 ^ 62) ∧ Q (rngD i (j - i).toNat) n2 := rfl
theorem e_for {wd gd tb} {E : Eds} : dFor wd gd tb E n = wd n fun ds n1 => forL gd tb E ds n1 := rfl
theorem e_lc {wd gd tt te vs Q} : dLc wd gd tt te vs n Q = wd n fun ds n1 => lcL gd tt te vs Q ds [] (wipeN n1 vs) := rfl
theorem e_yes {Q} : dYes n Q = Q true n := rfl
theorem e_c {d Q} : dC d n Q = Q d n := rfl
theorem e_op {rd da db Q} : dOp rd da db n Q = da n fun x n1 => db n1 fun y n2 => rd x y fun z => Q z n2 := rfl
theorem e_un {rd da Q} : dUn rd da n Q = da n fun x n1 => rd x fun z => Q z n1 := rfl
theorem e_add1 {i j Q} : rdAdd (.int i) (.int j) Q = Q (.int (i + j)) := rfl
theorem e_add2 {s t Q} : rdAdd (.str s) (.str t) Q = (s.length + t.length ≤ sizeLine ∧ Q (.str (s ++ t))) := rfl
theorem e_add3 {xs ys Q} : rdAdd (.list xs) (.list ys) Q = (xs.length + ys.length ≤ sizeLine ∧ Q (.list (xs ++ ys))) := rfl
theorem e_I {C g i j Q} : rdI C g (.int i) (.int j) Q = (C i j ∧ Q (.int (g i j))) := rfl
theorem e_I0 {g i j Q} : rdI0 g (.int i) (.int j) Q = Q (.int (g i j)) := rfl
theorem e_B0 {g i j Q} : rdB0 g (.int i) (.int j) Q = Q (.bool (g i j)) := rfl
theorem e_neg {i Q} : rdNeg (.int i) Q = Q (.int (-i)) := rfl
theorem e_mul {i j Q} : rdMul (.int i) (.int j) Q = (CMul i j ∧ Q (.int (i * j))) := rfl
theorem e_test {td Q} : dTest td n Q = td n fun d n1 => match d with
  | .bool b => Q b n1
  | _ => False := rfl
theorem e_eq {x y Q} : rdEq x y Q = (min x.depth y.depth ≤ 128 ∧ Q (.bool (PyData.eqv x y))) := rfl
theorem e_ne {x y Q} : rdNe x y Q = (min x.depth y.depth ≤ 128 ∧ Q (.bool (!PyData.eqv x y))) := rfl
theorem e_isN {x Q} : rdIsN x .none Q = Q (.bool (isNone x)) := rfl
theorem e_in1 {neg x es Q} : rdIn neg x (.list es) Q = (min (PyData.depthAll es) x.depth ≤ 128 ∧ Q (.bool (if neg then !inD x es else inD x es))) := rfl
theorem e_in2 {neg x es Q} : rdIn neg x (.tuple es) Q = (min (PyData.depthAll es) x.depth ≤ 128 ∧ Q (.bool (if neg then !inD x es else inD x es))) := rfl
theorem e_in3 {neg x z Q} : rdIn neg x (.str z) Q = ∃ c, x = .str ⟨#[c]⟩ ∧ Q (.bool (if neg then !decide (c ∈ z.cps.toList) else decide (c ∈ z.cps.toList))) := rfl
theorem e_chain {rd rd' da db dc Q} : dChain rd rd' da db dc n Q = da n fun x n1 => db n1 fun y n2 => rd x y fun z => match z with
  | .bool true => dc n2 fun w n3 => rd' y w fun z' => Q z' n3
  | .bool false => Q (.bool false) n2
  | _ => False := rfl
theorem e_tru {td Q} : dTru td n Q = td n fun d n1 => truD d fun b => Q b n1 := rfl
theorem e_and {A B Q} : dAnd A B n Q = A n fun c n1 => if c = true then B n1 Q else Q false n1 := rfl
theorem e_or {A B Q} : dOr A B n Q = A n fun c n1 => if c = true then Q true n1 else B n1 Q := rfl
theorem e_not {A Q} : dNot A n Q = A n fun c n1 => Q (!c) n1 := rfl
theorem e_andV {da db Q} : dAndV da db n Q = da n fun x n1 => match x with
  | .bool true => db n1 Q
  | .bool false => Q (.bool false) n1
  | _ => False := rfl
theorem e_orV {da db Q} : dOrV da db n Q = da n fun x n1 => match x with
  | .bool true => Q (.bool true) n1
  | .bool false => db n1 Q
  | _ => False := rfl
theorem e_notV {da Q} : dNotV da n Q = da n fun x n1 => match x with
  | .bool b => Q (.bool (!b)) n1
  | _ => False := rfl
theorem e_if {A da db Q} : dIf A da db n Q = A n fun c n1 => if c = true then da n1 Q else db n1 Q := rfl
theorem e_nil {Q} : dNil n Q = Q [] n := rfl
theorem e_cons {da dt Q} : dCons da dt n Q = da n fun d n1 => dt n1 fun ds n2 => Q (d :: ds) n2 := rfl
theorem e_tup {dt Q} : dTup dt n Q = dt n fun ds n1 => ds.length ≤ sizeLine ∧ Q (.tuple ds) n1 := rfl
theorem e_lst {dt Q} : dLst dt n Q = dt n fun ds n1 => ds.length ≤ sizeLine ∧ Q (.list ds) n1 := rfl
theorem e_frz {dt Q} : dFrz dt n Q = dt n fun ds n1 => Q (.list ds) n1 := rfl
theorem e_newL {dt Q} : dNewL dt n Q = dt n fun ds n1 => ds.length ≤ sizeLine ∧ Q ds n1 := rfl
theorem e_ix1 {ds i Q} : rdIx (.list ds) (.int i) Q = ∃ d, atI ds i = some d ∧ Q d := rfl
theorem e_ix2 {ds i Q} : rdIx (.tuple ds) (.int i) Q = ∃ d, atI ds i = some d ∧ Q d := rfl
theorem e_ix3 {z i Q} : rdIx (.str z) (.int i) Q = (z.length ≤ sizeLine ∧ ∃ c, atI z.cps.toList i = some c ∧ Q (.str ⟨#[c]⟩)) := rfl
theorem e_ixN {i db Q} : dIxN i db n Q = match n[i]? with
  | some (Sl.val x) => db n fun y n1 => rdIx x y fun z => Q z n1
  | some (Sl.own _ _) => db n fun y n1 => match n1[i]? with
    | some (Sl.own _ ds) => ∃ k d, y = .int k ∧ atI ds k = some d ∧ Q d n1
    | _ => False
  | _ => False := rfl
theorem e_noP {Q} : dNoP n Q = Q none n := rfl
theorem e_part {de Q} : dPart de n Q = de n fun d n1 => match d with
  | .int i => Q (some i) n1
  | _ => False := rfl
theorem e_slL {de dl dh Q} : dSlL de dl dh n Q = de n fun d n1 => dl n1 fun l n2 => dh n2 fun u n3 => match d with
  | .list ds => Q (cutD ds l u) n3
  | _ => False := rfl
theorem e_sl {de dl dh Q} : dSl de dl dh n Q = de n fun d n1 => dl n1 fun l n2 => dh n2 fun u n3 => match d with
  | .str z => z.length ≤ sizeLine ∧ Q (.str (cutS z l u)) n3
  | .list ds => Q (.list (cutD ds l u)) n3
  | _ => False := rfl
theorem e_CB {rd dt Q} : dCB rd dt n Q = dt n fun ds n1 => rd ds fun z => Q z n1 := rfl
theorem e_abs {i Q} : rdAbs [.int i] Q = Q (.int (if i < 0 then -i else i)) := rfl
theorem e_max2 {i j Q} : rdMax2 [.int i, .int j] Q = Q (.int (if j > i then j else i)) := rfl
theorem e_min2 {i j Q} : rdMin2 [.int i, .int j] Q = Q (.int (if j < i then j else i)) := rfl
theorem e_int1 {i Q} : rdInt [.int i] Q = Q (.int i) := rfl
theorem e_int2 {k Q} : rdInt [.bool k] Q = Q (.int (if k then 1 else 0)) := rfl
theorem e_int3 {s Q} : rdInt [.str s] Q = ∃ n, PySem.intText? s = some n ∧ s.length ≤ 640 ∧ Q (.int n) := rfl
theorem e_str {i : Int} {Q} : rdStr [.int i] Q = (i.natAbs.log2 < 1920 ∧ Q (.str (toString i : String))) := rfl
theorem e_len {d Q} : rdLen [d] Q = lenD d Q := rfl
theorem e_lenN {i Q} : dLenN i n Q = match n[i]? with
  | some (Sl.val d) => lenD d fun z => Q z n
  | some (Sl.own _ ds) => Q (.int ds.length) n
  | _ => False := rfl
theorem e_all {xs Q} : rdAll [.list xs] Q = ∃ bs, boolsD xs = some bs ∧ Q (.bool (bs.all _root_.id)) := rfl
theorem e_listOf {de Q} : dListOf de n Q = de n fun d n1 => match d with
  | .list xs => Q xs n1
  | .tuple xs => Q xs n1
  | _ => False := rfl
theorem e_catN {da db Q} : dCatN da db n Q = da n fun x n1 => db n1 fun y n2 => match x, y with
  | .list xs, .list ys => xs.length + ys.length ≤ sizeLine ∧ Q (xs ++ ys) n2
  | _, _ => False := rfl
theorem e_app {i de} {E : Eds} : dApp i de E n = (isOwn n[i]? ∧ de n fun d n1 => match n1[i]? with
  | some (Sl.own t ds) => ds.length < sizeLine ∧ E.nx (n1.set i (Sl.own t (ds ++ [d])))
  | _ => False) := rfl
theorem e_split {da db Q} : dSplit da db n Q = da n fun x n1 => match x with
  | .str s => db n1 fun y n2 => match y with
    | .str t => (t.length == 0) = false ∧ s.length + 2 ≤ sizeLine ∧ Q ((Txt.split s t).map .str) n2
    | _ => False
  | _ => False := rfl
theorem e_m1 {rd da db Q} : dM1 rd da db n Q = da n fun x n1 => match x with
  | .str s => db n1 fun y n2 => rd s y fun z => Q z n2
  | _ => False := rfl
theorem e_partition {s t Q} : rdPartition s (.str t) Q = ((t.length == 0) = false ∧ s.length ≤ sizeLine ∧ Q (.tuple [.str (Txt.partition s t).1, .str (Txt.partition s t).2.1, .str (Txt.partition s t).2.2])) := rfl
theorem e_join {s ds Q} : rdJoin s (.list ds) Q = ∃ ys, strsD ds = some ys ∧ (ys.map (·.length)).sum + ys.length * s.length ≤ 16777216 ∧ Q (.str (Txt.join s ys)) := rfl
theorem e_fmt {de Q} : dFmt de n Q = de n fun d n1 => fmtD d fun y => Q (.str y) n1 := rfl
theorem e_isi {T de Q} : dIsi T de n Q = de n fun d n1 => ∃ b, kitB (tyD d) T = some b ∧ Q (.bool b) n1 := rfl
theorem e_star {de dt Q} : dStar de dt n Q = de n fun d n1 => match d with
  | .list xs => dt n1 fun ys n2 => Q (xs ++ ys) n2
  | .tuple xs => dt n1 fun ys n2 => Q (xs ++ ys) n2
  | _ => False := rfl
theorem e_call {sd dt Q} : dCall sd dt n Q = dt n fun ds n1 => sd ds fun d => Q d n1 := rfl
theorem e_callP {i} {sd : SpdP} {dt : TAd} {Q} : dCallP i sd dt n Q = (isOwn n[i]? ∧ dt n fun ds n1 => match n1[i]? with
  | some (Sl.own t pds) => sd pds ds fun d pds' => Q d (n1.set i (Sl.own t pds'))
  | _ => False) := rfl
theorem e_callS {sd de Q} : dCallS sd de n Q = de n fun d n1 => match d with
  | .tuple ds => sd ds fun d => Q d n1
  | .list ds => sd ds fun d => Q d n1
  | _ => False := rfl
theorem e_raise {x Ed de} {E : Eds} : dRaise x Ed de E n = de n fun d n1 => Ed x d n1 := rfl
theorem e_callX {sd : SpdX} {Ed dt Q} : dCallX sd Ed dt n Q = dt n fun ds n1 => sd ds (fun d => Q d n1) fun x d => Ed x d n1 := rfl
theorem e_lenD1 {xs Q} : lenD (.list xs) Q = Q (.int xs.length) := rfl
theorem e_lenD2 {xs Q} : lenD (.tuple xs) Q = Q (.int xs.length) := rfl
theorem e_lenD3 {z Q} : lenD (.str z) Q = (z.length ≤ sizeLine ∧ Q (.int z.length)) := rfl
theorem e_truB {b Q} : truD (.bool b) Q = Q b := rfl
theorem e_try {i x0 td su} {E : Eds} : dTry i x0 td su E n = td (fun x d m => x = x0 ∧ ∀ a, su a d { nx := fun m' => E.nx (m'.set i Sl.non), rt := E.rt, bk := fun m' => E.bk (m'.set i Sl.non), ct := fun m' => E.ct (m'.set i Sl.non) } (m.set i (Sl.raw (.ref a)))) E n := rfl
theorem e_exV {i a d Q} : dExV i a d n Q = (n[i]? = some (Sl.raw (.ref a)) ∧ Q d n) := rfl
theorem e_exI {i a b Q} : dExI i a b n Q = (n[i]? = some (Sl.raw (.ref a)) ∧ Q (.bool b) n) := rfl
theorem e_lenSet {ds Q} : rdLenSet (.list ds) Q = ∃ xs, strsD ds = some xs ∧ xs.length ≤ 4000 ∧ Q (.int ((met xs).length : Nat)) := rfl
theorem e_rngL {da db Q} : dRngL da db n Q = da n fun d n1 => db n1 fun e n2 => ∃ i j : Int, d = .int i ∧ e = .int j ∧ RgOk i j ∧ Q (rngD i (j - i).toNat) n2 := rfl
theorem e_revS {z Q} : rdRevS (.str z) Q = (z.length ≤ sizeLine ∧ Q (.str (revS z))) := rfl
theorem e_repl {de y z Q} : dRepl de y z n Q = de n fun d n1 => match d with
  | .str x => x.length + (x.length + 1) * z.length ≤ 16777216 ∧ Q (.str (Txt.replace x y z)) n1
  | _ => False := rfl
theorem e_popAt {i de Q} : dPopAt i de n Q = (isOwn n[i]? ∧ de n fun d n1 => match n1[i]? with
  | some (Sl.own t ds) => ∃ z k x, d = .int z ∧ (-(2 ^ 63) ≤ z ∧ z < 2 ^ 63) ∧ seqIndex? z ds.length = some k ∧ ds[k]? = some x ∧ Q x (n1.set i (Sl.own t (ds.eraseIdx k)))
  | _ => False) := rfl
theorem e_wipe0 : wipeN n [] = n := rfl
theorem e_wipe1 {v vs} : wipeN n (v :: vs) = (wipeN n vs).set v Sl.non := rfl
theorem e_forL0 {gd tb} {E : Eds} : forL gd tb E [] n = E.nx n := rfl
theorem e_forL1 {gd tb} {E : Eds} {d ds} : forL gd tb E (d :: ds) n = gd d n fun n1 => tb { E with nx := forL gd tb E ds, ct := forL gd tb E ds, bk := E.nx } n1 := rfl
theorem e_lcL0 {gd tt te vs Q acc} : lcL gd tt te vs Q [] acc n = Q acc (wipeN n vs) := rfl
theorem e_lcL1 {gd tt te vs Q acc d ds} : lcL gd tt te vs Q (d :: ds) acc n = gd d n fun n1 => tt n1 fun b n2 => if b = true then te n2 fun y n3 => acc.length < sizeLine ∧ lcL gd tt te vs Q ds (acc ++ [y]) (wipeN n3 vs) else lcL gd tt te vs Q ds acc (wipeN n2 vs) := rfl
theorem e_wh {A tb} {E : Eds} {m} : whileN A tb E (m + 1) n = A n fun b n1 => if b = true then tb { E with nx := whileN A tb E m, ct := whileN A tb E m, bk := E.nx } n1 else E.nx n1 := rfl
end

/-! the same, as rules -/
section
variable {n : En}
theorem x_seq {td ud : TSd} {E : Eds} (h : td { E with nx := ud E } n) : dSeq td ud E n := h
theorem x_next {E : Eds} (h : E.nx n) : dNext E n := h
theorem x_ret {de : TEd} {E : Eds} (h : de n E.rt) : dRet de E n := h
theorem x_retN {E : Eds} (h : E.rt .none n) : dRetN E n := h
theorem x_drop {de : TEd} {E : Eds} (h : de n fun _ n1 => E.nx n1) : dDrop de E n := h
theorem x_ifS {A : TTd} {td ud : TSd} {E : Eds} (h : A n fun b n1 => if b = true then td E n1 else ud E n1) : dIfS A td ud E n := h
theorem x_gname {i : Nat} {d : D} {Q} (h : Q (n.set i (Sl.val d))) : gdName i d n Q := h
theorem x_gcons {g gs} {d : D} {ds : List D} {Q} (h : g d n fun n1 => gs ds n1 Q) : gdCons g gs (d :: ds) n Q := h
theorem x_asg {de gd} {E : Eds} (h : de n fun d n1 => gd d n1 E.nx) : dAsg de gd E n := h
theorem x_set {i} {de : TEd} {E : Eds} (h : de n fun d n1 => E.nx (n1.set i (Sl.val d))) : dSet i de E n := h
theorem x_setO {i} {dt : TAd} {E : Eds} (h : dt n fun ds n1 => E.nx (n1.set i (Sl.own none ds))) : dSetO i dt E n := h
theorem x_par {i j} {da db : TEd} {E : Eds} (h : da n fun d n1 => db n1 fun e n2 => E.nx ((n2.set i (Sl.val d)).set j (Sl.val e))) : dPar i j da db E n := h
theorem x_parVN {i j} {da : TEd} {dt : TAd} {E : Eds} (h : da n fun d n1 => dt n1 fun es n2 => E.nx ((n2.set i (Sl.val d)).set j (Sl.own none es))) : dParVN i j da dt E n := h
theorem x_parNV {i j} {dt : TAd} {db : TEd} {E : Eds} (h : dt n fun es n1 => db n1 fun e n2 => E.nx ((n2.set i (Sl.own none es)).set j (Sl.val e))) : dParNV i j dt db E n := h
theorem x_rng1 {da Q} (h : da n fun d n1 => ∃ j : Int, d = .int j ∧ (-(2 ^ 62) ≤ j ∧ j < 2 ^ 62) ∧ Q (rngD 0 j.toNat) n1) : dRng1 da n Q := h
theorem x_rng2 {da db Q} (h : da n fun d n1 => db n1 fun e n2 => ∃ i j : Int, d = .int i ∧ e = .int j ∧ (-(2 ^ 62) ≤ i ∧ i < 2 ^ 62 ∧ -(2 ^ 62) ≤ j ∧ j < 2 ^ 62) ∧ Q (rngD i (j - i).toNat) n2) : dRng2 da db n Q := h
theorem x_for {wd gd tb} {E : Eds} (h : wd n fun ds n1 => forL gd tb E ds n1) : dFor wd gd tb E n := h
theorem x_lc {wd gd tt te vs Q} (h : wd n fun ds n1 => lcL gd tt te vs Q ds [] (wipeN n1 vs)) : dLc wd gd tt te vs n Q := h
theorem x_yes {Q} (h : Q true n) : dYes n Q := h
theorem x_c {d Q} (h : Q d n) : dC d n Q := h
theorem x_op {rd da db Q} (h : da n fun x n1 => db n1 fun y n2 => rd x y fun z => Q z n2) : dOp rd da db n Q := h
theorem x_un {rd da Q} (h : da n fun x n1 => rd x fun z => Q z n1) : dUn rd da n Q := h
theorem x_add1 {i j Q} (h : Q (.int (i + j))) : rdAdd (.int i) (.int j) Q := h
theorem x_I0 {g i j Q} (h : Q (.int (g i j))) : rdI0 g (.int i) (.int j) Q := h
theorem x_B0 {g i j Q} (h : Q (.bool (g i j))) : rdB0 g (.int i) (.int j) Q := h
theorem x_neg {i Q} (h : Q (.int (-i))) : rdNeg (.int i) Q := h
theorem x_isN {x Q} (h : Q (.bool (isNone x))) : rdIsN x .none Q := h
theorem x_tru {td Q} (h : td n fun d n1 => truD d fun b => Q b n1) : dTru td n Q := h
theorem x_truB {b Q} (h : Q b) : truD (.bool b) Q := h
theorem x_and {A B Q} (h : A n fun c n1 => if c = true then B n1 Q else Q false n1) : dAnd A B n Q := h
theorem x_or {A B Q} (h : A n fun c n1 => if c = true then Q true n1 else B n1 Q) : dOr A B n Q := h
theorem x_not {A Q} (h : A n fun c n1 => Q (!c) n1) : dNot A n Q := h
theorem x_if {A da db Q} (h : A n fun c n1 => if c = true then da n1 Q else db n1 Q) : dIf A da db n Q := h
theorem x_nil {Q} (h : Q [] n) : dNil n Q := h
theorem x_cons {da dt Q} (h : da n fun d n1 => dt n1 fun ds n2 => Q (d :: ds) n2) : dCons da dt n Q := h
theorem x_tup {dt Q} (h : dt n fun ds n1 => ds.length ≤ sizeLine ∧ Q (.tuple ds) n1) : dTup dt n Q := h
theorem x_lst {dt Q} (h : dt n fun ds n1 => ds.length ≤ sizeLine ∧ Q (.list ds) n1) : dLst dt n Q := h
theorem x_frz {dt Q} (h : dt n fun ds n1 => Q (.list ds) n1) : dFrz dt n Q := h
theorem x_newL {dt Q} (h : dt n fun ds n1 => ds.length ≤ sizeLine ∧ Q ds n1) : dNewL dt n Q := h
theorem x_noP {Q} (h : Q none n) : dNoP n Q := h
theorem x_CB {rd dt Q} (h : dt n fun ds n1 => rd ds fun z => Q z n1) : dCB rd dt n Q := h
theorem x_abs {i Q} (h : Q (.int (if i < 0 then -i else i))) : rdAbs [.int i] Q := h
theorem x_max2 {i j Q} (h : Q (.int (if j > i then j else i))) : rdMax2 [.int i, .int j] Q := h
theorem x_min2 {i j Q} (h : Q (.int (if j < i then j else i))) : rdMin2 [.int i, .int j] Q := h
theorem x_int1 {i Q} (h : Q (.int i)) : rdInt [.int i] Q := h
theorem x_int2 {k Q} (h : Q (.int (if k then 1 else 0))) : rdInt [.bool k] Q := h
theorem x_len {d Q} (h : lenD d Q) : rdLen [d] Q := h
theorem x_lenD1 {xs Q} (h : Q (.int xs.length)) : lenD (.list xs) Q := h
theorem x_lenD2 {xs Q} (h : Q (.int xs.length)) : lenD (.tuple xs) Q := h
theorem x_fmt {de Q} (h : de n fun d n1 => fmtD d fun y => Q (.str y) n1) : dFmt de n Q := h
theorem x_call {sd dt Q} (h : dt n fun ds n1 => sd ds fun d => Q d n1) : dCall sd dt n Q := h
theorem x_raise {x Ed de} {E : Eds} (h : de n fun d n1 => Ed x d n1) : dRaise x Ed de E n := h
theorem x_callX {sd : SpdX} {Ed dt Q} (h : dt n fun ds n1 => sd ds (fun d => Q d n1) fun x d => Ed x d n1) : dCallX sd Ed dt n Q := h
theorem x_rngL {da db Q} (h : da n fun d n1 => db n1 fun e n2 => ∃ i j : Int, d = .int i ∧ e = .int j ∧ RgOk i j ∧ Q (rngD i (j - i).toNat) n2) : dRngL da db n Q := h
theorem x_try {i x0 td su} {E : Eds} (h : td (fun x d m => x = x0 ∧ ∀ a, su a d { nx := fun m' => E.nx (m'.set i Sl.non), rt := E.rt, bk := fun m' => E.bk (m'.set i Sl.non), ct := fun m' => E.ct (m'.set i Sl.non) } (m.set i (Sl.raw (.ref a)))) E n) : dTry i x0 td su E n := h
theorem x_exV {i a d Q} (h : (n[i]? = some (Sl.raw (.ref a)) ∧ Q d n)) : dExV i a d n Q := h
theorem x_exI {i a b Q} (h : (n[i]? = some (Sl.raw (.ref a)) ∧ Q (.bool b) n)) : dExI i a b n Q := h
end
/-! the executor's rules -/
def mB (d : D) (Q : Bool → Prop) : Prop := match d with | .bool b => Q b | _ => False
def mI (d : D) (Q : Int → Prop) : Prop := match d with | .int b => Q b | _ => False
def mS (d : D) (Q : Str → Prop) : Prop := match d with | .str b => Q b | _ => False
def mL (d : D) (Q : List D → Prop) : Prop := match d with | .list b => Q b | _ => False
def mLT (d : D) (Q : List D → Prop) : Prop := match d with | .list b => Q b | .tuple b => Q b | _ => False
def mTL (d : D) (Q : List D → Prop) : Prop := match d with | .tuple b => Q b | .list b => Q b | _ => False
def mLL (x y : D) (Q : List D → List D → Prop) : Prop := match x, y with | .list a, .list b => Q a b | _, _ => False
def mTF (d : D) (A B : Prop) : Prop := match d with | .bool true => A | .bool false => B | _ => False
def mO (s : Option Sl) (Q : Option Addr → List D → Prop) : Prop := match s with | some (Sl.own t ds) => Q t ds | _ => False
def mV (s : Option Sl) (Q : D → Prop) : Prop := match s with | some (Sl.val d) => Q d | _ => False
def vS (s : Sl) (i : Nat) (n : En) (Q : D → En → Prop) : Prop := match s with
  | .val d => Q d n
  | .own _ ds => Q (.list ds) (n.set i (Sl.val (.list ds)))
  | _ => False
def lS (s : Sl) (n : En) (Q : D → En → Prop) : Prop := match s with
  | .val d => lenD d fun z => Q z n
  | .own _ ds => Q (.int ds.length) n
  | _ => False
def xS (s : Sl) (i : Nat) (db : TEd) (n : En) (Q : D → En → Prop) : Prop := match s with
  | .val x => db n fun y n1 => rdIx x y fun z => Q z n1
  | .own _ _ => db n fun y n1 => mO n1[i]? fun _ ds => ∃ k d, y = .int k ∧ atI ds k = some d ∧ Q d n1
  | _ => False
def slR (d : D) (l u : Option Int) (Q : D → Prop) : Prop := match d with
  | .str z => z.length ≤ sizeLine ∧ Q (.str (cutS z l u))
  | .list ds => Q (.list (cutD ds l u))
  | _ => False
section
variable {n : En}
theorem i_gtup {k gs} {ds : List D} {Q} (h : ds.length = k) (q : gs ds n Q) : gdTup k gs (.tuple ds) n Q := ⟨h, q⟩
theorem i_gnil {Q : En → Prop} (q : Q n) : gdNil [] n Q := ⟨rfl, q⟩
theorem i_len {l : List D} {Q : Prop} (h : Nat.ble l.length 64 = true) (q : Q) : l.length ≤ sizeLine ∧ Q := ⟨Nat.le_trans (Nat.le_of_ble_eq_true h) (by decide), q⟩
theorem x_isi {T de Q} (h : de n fun d n1 => ∃ b, kitB (tyD d) T = some b ∧ Q (.bool b) n1) : dIsi T de n Q := h
theorem x_joined {ts Q} (h : joinsD ts Str.empty n fun s n1 => Q (.str s) n1) : dJoined ts n Q := h
theorem x_jnil {acc Q} (h : Q acc n) : joinsD [] acc n Q := h
theorem x_jcons {t ts acc Q} (h : t n fun x n1 => mS x fun y => (acc ++ y).length ≤ sizeLine ∧ joinsD ts (acc ++ y) n1 Q) : joinsD (t :: ts) acc n Q := h
theorem x_fmtS {y : Str} {Q} (h : y.length ≤ sizeLine ∧ Q y) : fmtD (.str y) Q := h
theorem x_fmtI {i : Int} {Q : Str → Prop} (h : i.natAbs.log2 < 1920 ∧ Q (toString i : String)) : fmtD (.int i) Q := h
theorem i_mB {b Q} (q : Q b) : mB (.bool b) Q := q
theorem i_mI {b Q} (q : Q b) : mI (.int b) Q := q
theorem i_mS {b Q} (q : Q b) : mS (.str b) Q := q
theorem i_mL {b Q} (q : Q b) : mL (.list b) Q := q
theorem i_mLT1 {b Q} (q : Q b) : mLT (.list b) Q := q
theorem i_mLT2 {b Q} (q : Q b) : mLT (.tuple b) Q := q
theorem i_mTL1 {b Q} (q : Q b) : mTL (.tuple b) Q := q
theorem i_mTL2 {b Q} (q : Q b) : mTL (.list b) Q := q
theorem i_mLL {a b Q} (q : Q a b) : mLL (.list a) (.list b) Q := q
theorem i_mT {A B} (q : A) : mTF (.bool true) A B := q
theorem i_mF {A B} (q : B) : mTF (.bool false) A B := q
theorem i_mTF {b : Bool} {A B} (h1 : b = true → A) (h2 : b = false → B) : mTF (.bool b) A B := by cases b <;> first | exact h1 rfl | exact h2 rfl
theorem i_mO {o t ds Q} (h : o = some (Sl.own t ds)) (q : Q t ds) : mO o Q := by subst h; exact q
theorem i_own {o t ds} (h : o = some (Sl.own t ds)) : isOwn o := by subst h; exact trivial
theorem i_ite {b : Bool} {A B : Prop} (h1 : b = true → A) (h2 : b = false → B) : if b = true then A else B := by cases b <;> first | exact h1 rfl | exact h2 rfl
theorem i_itT {A B : Prop} (h : A) : if true = true then A else B := h
theorem i_itF {A B : Prop} (h : B) : if false = true then A else B := h
theorem i_nx {a b c d} (h : a n) : Eds.nx ⟨a, b, c, d⟩ n := h
theorem i_bk {a b c d} (h : c n) : Eds.bk ⟨a, b, c, d⟩ n := h
theorem i_ct {a b c d} (h : d n) : Eds.ct ⟨a, b, c, d⟩ n := h
theorem i_rt {a b c d x} (h : b x n) : Eds.rt ⟨a, b, c, d⟩ x n := h
theorem i_var {i d Q} (h : n[i]? = some (Sl.val d)) (q : Q d n) : dVar i n Q := by rw [e_var, h]; exact q
theorem i_varO {i t ds} {Q : D → En → Prop} (h : n[i]? = some (Sl.own t ds)) (q : Q (.list ds) (n.set i (Sl.val (.list ds)))) : dVar i n Q := by rw [e_var, h]; exact q
theorem i_varG {i s Q} (h : n[i]? = some s) (q : vS s i n Q) : dVar i n Q := by cases s <;> (rw [e_var, h]; exact q)
theorem i_vSv {i d Q} (q : Q d n) : vS (.val d) i n Q := q
theorem i_vSo {i t ds} {Q : D → En → Prop} (q : Q (.list ds) (n.set i (Sl.val (.list ds)))) : vS (.own t ds) i n Q := q
theorem i_lenG {i s Q} (h : n[i]? = some s) (q : lS s n Q) : dLenN i n Q := by cases s <;> (rw [e_lenN, h]; exact q)
theorem i_lSv {d Q} (q : lenD d fun z => Q z n) : lS (.val d) n Q := q
theorem i_lSo {t ds} {Q : D → En → Prop} (q : Q (.int ds.length) n) : lS (.own t ds) n Q := q
theorem i_ixG {i s db Q} (h : n[i]? = some s) (q : xS s i db n Q) : dIxN i db n Q := by cases s <;> (rw [e_ixN, h]; exact q)
theorem i_xSv {i x db Q} (q : db n fun y n1 => rdIx x y fun z => Q z n1) : xS (.val x) i db n Q := q
theorem i_xSo {i t ds db Q} (q : db n fun y n1 => mO n1[i]? fun _ ds => ∃ k d, y = .int k ∧ atI ds k = some d ∧ Q d n1) : xS (.own t ds) i db n Q := q
theorem i_lenN {i d Q} (h : n[i]? = some (Sl.val d)) (q : lenD d fun z => Q z n) : dLenN i n Q := by rw [e_lenN, h]; exact q
theorem i_lenO {i t ds Q} (h : n[i]? = some (Sl.own t ds)) (q : Q (.int ds.length) n) : dLenN i n Q := by rw [e_lenN, h]; exact q
theorem i_ixN {i x db Q} (h : n[i]? = some (Sl.val x)) (q : db n fun y n1 => rdIx x y fun z => Q z n1) : dIxN i db n Q := by rw [e_ixN, h]; exact q
theorem i_ixO {i t ds db Q} (h : n[i]? = some (Sl.own t ds)) (q : db n fun y n1 => mO n1[i]? fun _ ds => ∃ k d, y = .int k ∧ atI ds k = some d ∧ Q d n1) : dIxN i db n Q := by rw [e_ixN, h]; exact q
theorem i_aug {i x rd de} {E : Eds} (h : n[i]? = some (Sl.val x)) (q : de n fun y n1 => rd x y fun z => E.nx (n1.set i (Sl.val z))) : dAug i rd de E n := by rw [e_aug, h]; exact q
theorem i_test {td Q} (q : td n fun d n1 => mB d fun b => Q b n1) : dTest td n Q := q
theorem i_itL {de Q} (q : de n fun d n1 => mL d fun b => Q b n1) : dItL de n Q := q
theorem i_itS {de Q} (q : de n fun d n1 => mS d fun b => Q (signsD b) n1) : dItS de n Q := q
theorem i_part {de Q} (q : de n fun d n1 => mI d fun b => Q (some b) n1) : dPart de n Q := q
theorem i_sl {de : TEd} {dl dh : TOd} {Q : D → En → Prop} (q : de n fun d n1 => dl n1 fun l n2 => dh n2 fun u n3 => slR d l u fun z => Q z n3) : dSl de dl dh n Q := by
  have : (fun (d : D) (n1 : En) => dl n1 fun l n2 => dh n2 fun u n3 => slR d l u fun z => Q z n3) = (fun d n1 => dl n1 fun l n2 => dh n2 fun u n3 => match d with
    | .str z => z.length ≤ sizeLine ∧ Q (.str (cutS z l u)) n3
    | .list ds => Q (.list (cutD ds l u)) n3
    | _ => False) := by
    funext d n1
    congr 1
  exact q
theorem i_slS {z l u} {Q : D → Prop} (h : z.length ≤ sizeLine) (q : Q (.str (cutS z l u))) : slR (.str z) l u Q := ⟨h, q⟩
theorem i_slD {ds l u} {Q : D → Prop} (q : Q (.list (cutD ds l u))) : slR (.list ds) l u Q := q
theorem i_slL {de : TEd} {dl dh : TOd} {Q : List D → En → Prop} (q : de n fun d n1 => dl n1 fun l n2 => dh n2 fun u n3 => mL d fun ds => Q (cutD ds l u) n3) : dSlL de dl dh n Q := q
theorem i_listOf {de Q} (q : de n fun d n1 => mLT d fun b => Q b n1) : dListOf de n Q := q
theorem i_catN {da db Q} (q : da n fun x n1 => db n1 fun y n2 => mLL x y fun xs ys => xs.length + ys.length ≤ sizeLine ∧ Q (xs ++ ys) n2) : dCatN da db n Q := q
theorem i_chain {rd rd' da db dc Q} (q : da n fun x n1 => db n1 fun y n2 => rd x y fun z => mTF z (dc n2 fun w n3 => rd' y w fun z' => Q z' n3) (Q (.bool false) n2)) : dChain rd rd' da db dc n Q := q
theorem i_andV {da db Q} (q : da n fun x n1 => mTF x (db n1 Q) (Q (.bool false) n1)) : dAndV da db n Q := q
theorem i_orV {da db Q} (q : da n fun x n1 => mTF x (Q (.bool true) n1) (db n1 Q)) : dOrV da db n Q := q
theorem i_notV {da Q} (q : da n fun x n1 => mB x fun b => Q (.bool (!b)) n1) : dNotV da n Q := q
theorem i_app {i de} {E : Eds} {t ds} (h : n[i]? = some (Sl.own t ds)) (q : de n fun d n1 => mO n1[i]? fun t ds => ds.length < sizeLine ∧ E.nx (n1.set i (Sl.own t (ds ++ [d])))) : dApp i de E n := ⟨i_own h, q⟩
theorem i_split {da db Q} (q : da n fun x n1 => mS x fun s => db n1 fun y n2 => mS y fun t => (t.length == 0) = false ∧ s.length + 2 ≤ sizeLine ∧ Q ((Txt.split s t).map .str) n2) : dSplit da db n Q := q
theorem i_m1 {rd da db Q} (q : da n fun x n1 => mS x fun s => db n1 fun y n2 => rd s y fun z => Q z n2) : dM1 rd da db n Q := q
theorem i_star {de dt Q} (q : de n fun d n1 => mLT d fun xs => dt n1 fun ys n2 => Q (xs ++ ys) n2) : dStar de dt n Q := q
theorem i_callP {i sd dt Q t pds} (h : n[i]? = some (Sl.own t pds)) (q : dt n fun ds n1 => mO n1[i]? fun t pds => sd pds ds fun d pds' => Q d (n1.set i (Sl.own t pds'))) : dCallP i sd dt n Q := ⟨i_own h, q⟩
theorem i_callS {sd de Q} (q : de n fun d n1 => mTL d fun ds => sd ds fun d => Q d n1) : dCallS sd de n Q := q
theorem i_repl {de y z Q} (q : de n fun d n1 => mS d fun x => x.length + (x.length + 1) * z.length ≤ 16777216 ∧ Q (.str (Txt.replace x y z)) n1) : dRepl de y z n Q := q
theorem i_popAt {i de Q t ds} (h : n[i]? = some (Sl.own t ds)) (q : de n fun d n1 => mO n1[i]? fun t ds => ∃ z k x, d = .int z ∧ (-(2 ^ 63) ≤ z ∧ z < 2 ^ 63) ∧ seqIndex? z ds.length = some k ∧ ds[k]? = some x ∧ Q x (n1.set i (Sl.own t (ds.eraseIdx k)))) : dPopAt i de n Q := ⟨i_own h, q⟩
theorem i_putIx {i di de} {E : Eds} (q : de n fun d n1 => isOwn n1[i]? ∧ di n1 fun k n2 => mO n2[i]? fun t ds => ∃ z m, k = .int z ∧ ixN ds.length z = some m ∧ E.nx (n2.set i (Sl.own t (ds.set m d)))) : dPutIx i di de E n := q
end
theorem lc_mapN {i : Nat} {te : TEd} {Q : List D → En → Prop} {m : En} (f : D → D) (hl : m.set i Sl.non = m) :
    ∀ (ds acc : List D), (∀ d ∈ ds, ∀ Q' : D → En → Prop, Q' (f d) (m.set i (Sl.val d)) → te (m.set i (Sl.val d)) Q') → acc.length + ds.length ≤ sizeLine →
      Q (acc ++ ds.map f) m → lcL (gdName i) dYes te [i] Q ds acc m
  | [], acc, _, _, h => by rw [e_lcL0]; simp only [e_wipe1, e_wipe0, hl]; simpa using h
  | d :: ds, acc, h, hs, q => by
    rw [e_lcL1]
    simp only [e_gname, e_yes, if_true]
    refine h d (by simp) _ ⟨by simp at hs; omega, ?_⟩
    simp only [e_wipe1, e_wipe0, List.set_set, hl]
    exact lc_mapN f hl ds (acc ++ [f d]) (fun d' hd => h d' (by simp [hd])) (by simp at hs ⊢; omega) (by simpa using q)
theorem lc_relN {i : Nat} {te : TEd} {Q : List D → En → Prop} {I : En → Prop} {R : D → Prop} :
    ∀ (ds acc : List D) (m : En), I m → (∀ d ∈ ds, ∀ n, I n → ∀ Q' : D → En → Prop, (∀ y n', R y → I (n'.set i Sl.non) → Q' y n') → te (n.set i (Sl.val d)) Q') → acc.length + ds.length ≤ sizeLine → (∀ y ∈ acc, R y) →
      (∀ ys n', ys.length = acc.length + ds.length → (∀ y ∈ ys, R y) → I n' → Q ys (n'.set i Sl.non)) → lcL (gdName i) dYes te [i] Q ds acc m
  | [], acc, m, hI, _, _, ha, h => by rw [e_lcL0]; simp only [e_wipe1, e_wipe0]; exact h acc m (by simp) ha hI
  | d :: ds, acc, m, hI, h, hs, ha, q => by
    rw [e_lcL1]
    simp only [e_gname, e_yes, if_true]
    refine h d (by simp) m hI _ fun y n' hy hn => ⟨by simp at hs; omega, ?_⟩
    simp only [e_wipe1, e_wipe0]
    refine lc_relN ds (acc ++ [y]) _ hn (fun d' hd => h d' (by simp [hd])) (by simp at hs ⊢; omega) ?_ fun ys n2 h1 h2 h3 => q ys n2 (by simp at h1 ⊢; omega) h2 h3
    intro z hz
    simp at hz
    rcases hz with hz | rfl
    · exact ha z hz
    · exact hy
/-- [x for x in ds if p x] -/
theorem lc_filN {i : Nat} {tt : TTd} {te : TEd} {Q : List D → En → Prop} {m : En} (p : D → Bool) (hl : m.set i Sl.non = m) :
    ∀ (ds acc : List D), (∀ d ∈ ds, ∀ Q' : Bool → En → Prop, Q' (p d) (m.set i (Sl.val d)) → tt (m.set i (Sl.val d)) Q') → (∀ d ∈ ds, ∀ Q' : D → En → Prop, Q' d (m.set i (Sl.val d)) → te (m.set i (Sl.val d)) Q') → acc.length + ds.length ≤ sizeLine →
      Q (acc ++ ds.filter p) m → lcL (gdName i) tt te [i] Q ds acc m
  | [], acc, _, _, _, h => by rw [e_lcL0]; simp only [e_wipe1, e_wipe0, hl]; simpa using h
  | d :: ds, acc, h, h', hs, q => by
    rw [e_lcL1]
    simp only [e_gname]
    refine h d (by simp) _ ?_
    by_cases hp : p d = true
    · rw [if_pos hp]
      refine h' d (by simp) _ ⟨by simp at hs; omega, ?_⟩
      simp only [e_wipe1, e_wipe0, List.set_set, hl]
      exact lc_filN p hl ds (acc ++ [d]) (fun d' hd => h d' (by simp [hd])) (fun d' hd => h' d' (by simp [hd])) (by simp at hs ⊢; omega) (by simpa [List.filter_cons, hp] using q)
    · rw [if_neg hp]
      simp only [e_wipe1, e_wipe0, List.set_set, hl]
      exact lc_filN p hl ds acc (fun d' hd => h d' (by simp [hd])) (fun d' hd => h' d' (by simp [hd])) (by simp at hs ⊢; omega) (by simpa [List.filter_cons, hp] using q)
theorem forL_ind {gd : TGd} {tb : TSd} {E : Eds} (I : List D → En → Prop) (h0 : ∀ n, I [] n → E.nx n)
    (h1 : ∀ d ds n (K : En → Prop), I (d :: ds) n → (∀ n', I ds n' → K n') → gd d n fun n1 => tb { E with nx := K, ct := K, bk := E.nx } n1) :
    ∀ (ds : List D) (n : En), I ds n → forL gd tb E ds n
  | [], n, h => h0 n h
  | d :: ds, n, h => h1 d ds n _ h fun n' hn => forL_ind I h0 h1 ds n' hn
theorem while_ind {A : TTd} {tb : TSd} {E : Eds} (I : En → Prop) (μ : En → Nat)
    (h : ∀ n (K : En → Prop), I n → (∀ n', I n' → μ n' < μ n → K n') → A n fun b n1 => if b = true then tb { E with nx := K, ct := K, bk := E.nx } n1 else E.nx n1) :
    ∀ n, I n → ∃ m, whileN A tb E m n := by
  have key : ∀ m n, I n → μ n < m → whileN A tb E m n := by
    intro m
    induction m with
    | zero => intro n _ h; omega
    | succ m ih =>
      intro n hn hm
      exact h n _ hn fun n' h1 h2 => ih n' h1 (by omega)
  exact fun n hn => ⟨_, key (μ n + 1) n hn (by omega)⟩

abbrev Law0 (N : List Str) (sd : Spd0) (td : TSd) : Prop := ∀ ds Qd, sd ds Qd → td { nx := fun _ => Qd .none, rt := fun d _ => Qd d } (startN N (ds.map Sl.val))
abbrev LawP (N : List Str) (sd : SpdP) (td : TSd) : Prop := ∀ (a : Addr) (pds ds : List D) (Qd : D → List D → Prop), sd pds ds Qd → td { nx := fun n => ∃ p', n[0]? = some (Sl.own (some a) p') ∧ Qd .none p', rt := fun d n => ∃ p', n[0]? = some (Sl.own (some a) p') ∧ Qd d p' } (startN N (Sl.own (some a) pds :: ds.map Sl.val))
def iL (xs : List Int) : List D := xs.map .int
@[simp] theorem iL_len {xs : List Int} : (iL xs).length = xs.length := by simp [iL]
@[simp] theorem iL_nil : iL [] = [] := rfl
@[simp] theorem iL_cons {x : Int} {xs : List Int} : iL (x :: xs) = .int x :: iL xs := rfl
theorem iL_app {xs ys : List Int} : iL xs ++ iL ys = iL (xs ++ ys) := by simp [iL]
theorem atI_int {α : Type} {xs : List α} {i : Int} (h0 : 0 ≤ i) : atI xs i = xs[i.toNat]? := by
  unfold atI ixN
  rw [if_pos h0]
  by_cases h : i < xs.length
  · rw [if_pos h]; rfl
  · rw [if_neg h]
    symm
    exact List.getElem?_eq_none (by omega)
theorem atI_natE {α : Type} {xs : List α} {k : Nat} : atI xs (k : Int) = xs[k]? := by rw [atI_int (by omega)]; simp
theorem atI_0 {α : Type} {x : α} {xs : List α} : atI (x :: xs) 0 = some x := by rw [atI_int (by omega)]; rfl
theorem atI_m1 {α : Type} {xs : List α} {x : α} : atI (xs ++ [x]) (-1) = some x := by
  unfold atI ixN
  rw [if_neg (by omega), if_pos (by simp; omega)]
  show (xs ++ [x])[(-1 + ((xs ++ [x]).length : Int)).toNat]? = some x
  have : (-1 + ((xs ++ [x]).length : Int)).toNat = xs.length := by simp; omega
  rw [this]
  simp
theorem atI_map {α β : Type} (f : α → β) {xs : List α} {i : Int} : atI (xs.map f) i = (atI xs i).map f := by
  unfold atI
  rw [List.length_map]
  cases ixN xs.length i with
  | none => rfl
  | some k => simp
theorem eqv_iL (xs ys : List Int) : PyData.eqvAll (iL xs) (iL ys) = decide (xs = ys) := by
  induction xs generalizing ys with
  | nil => cases ys <;> simp [PyData.eqvAll, iL]
  | cons x xs ih =>
    cases ys with
    | nil => simp [PyData.eqvAll, iL]
    | cons y ys => by_cases h : x = y <;> simp [PyData.eqvAll, PyData.eqv, ih, h]
theorem depth_iL (xs : List Int) : PyData.depthAll (iL xs) ≤ 1 := by
  induction xs with
  | nil => simp [PyData.depthAll]
  | cons x xs ih => simp [PyData.depthAll, PyData.depth] at *; omega

/-! slices -/
def cutL {α : Type} (xs : List α) (lo hi : Option Int) : List α := (xs.drop (HT.sIx xs.length 0 lo)).take (HT.sIx xs.length xs.length hi - HT.sIx xs.length 0 lo)
theorem cutD_L (xs : List D) (lo hi : Option Int) : cutD xs lo hi = cutL xs lo hi := rfl
theorem cutS_L (z : Str) (lo hi : Option Int) : cutS z lo hi = ⟨(cutL (tl z) lo hi).toArray⟩ := by
  unfold cutS cutL
  rw [len_tl]
theorem cutL_map {α β : Type} (f : α → β) (xs : List α) (lo hi : Option Int) : cutL (xs.map f) lo hi = (cutL xs lo hi).map f := by
  unfold cutL
  rw [List.length_map, ← List.map_drop, ← List.map_take]
theorem cutL_to {α : Type} (xs : List α) {k : Int} (h : 0 ≤ k) : cutL xs none (some k) = xs.take k.toNat := by
  unfold cutL
  obtain ⟨k, rfl⟩ := Int.eq_ofNat_of_zero_le h
  rw [HT.sIx_none]
  show (xs.drop 0).take (HT.sIx xs.length xs.length (some (k : Int)) - 0) = _
  rw [HT.sIx_nat, List.drop_zero, Nat.sub_zero]
  show xs.take (min k xs.length) = xs.take k
  by_cases h : k ≤ xs.length
  · rw [Nat.min_eq_left h]
  · rw [Nat.min_eq_right (by omega), List.take_of_length_le (by omega), List.take_of_length_le (by omega)]
theorem cutL_from {α : Type} (xs : List α) {k : Int} (h : 0 ≤ k) : cutL xs (some k) none = xs.drop k.toNat := by
  unfold cutL
  obtain ⟨k, rfl⟩ := Int.eq_ofNat_of_zero_le h
  rw [HT.sIx_none]
  show (xs.drop (HT.sIx xs.length 0 (some (k : Int)))).take _ = _
  rw [HT.sIx_nat]
  by_cases h : k ≤ xs.length
  · rw [Nat.min_eq_left h, List.take_of_length_le (by simp)]; rfl
  · rw [Nat.min_eq_right (by omega), List.drop_of_length_le (Nat.le_refl _), List.drop_of_length_le (by simp; omega)]; simp
theorem cutL_mid {α : Type} (xs : List α) {i j : Int} (hi : 0 ≤ i) (hj : 0 ≤ j) : cutL xs (some i) (some j) = (xs.drop i.toNat).take (j.toNat - i.toNat) := by
  unfold cutL
  obtain ⟨i, rfl⟩ := Int.eq_ofNat_of_zero_le hi
  obtain ⟨j, rfl⟩ := Int.eq_ofNat_of_zero_le hj
  show (xs.drop (HT.sIx xs.length 0 (some (i : Int)))).take (HT.sIx xs.length xs.length (some (j : Int)) - HT.sIx xs.length 0 (some (i : Int))) = _
  rw [HT.sIx_nat, HT.sIx_nat]
  show _ = (xs.drop i).take (j - i)
  by_cases h : i ≤ xs.length
  · rw [Nat.min_eq_left h]
    by_cases h2 : j ≤ xs.length
    · rw [Nat.min_eq_left h2]
    · rw [Nat.min_eq_right (by omega), List.take_of_length_le (by simp), List.take_of_length_le (by simp; omega)]
  · rw [Nat.min_eq_right (a := i) (by omega), List.drop_of_length_le (Nat.le_refl _), List.drop_of_length_le (by omega)]; simp
theorem cutL_m1 {α : Type} (xs : List α) (x : α) : cutL (xs ++ [x]) none (some (-1)) = xs := by
  have : HT.sIx (xs ++ [x]).length (xs ++ [x]).length (some (-1)) = xs.length := by unfold HT.sIx; simp; omega
  unfold cutL
  rw [this, HT.sIx_none]
  simp
theorem cutL_last {α : Type} (xs : List α) (x : α) : cutL (xs ++ [x]) (some (-1)) none = [x] := by
  have : HT.sIx (xs ++ [x]).length 0 (some (-1)) = xs.length := by unfold HT.sIx; simp; omega
  unfold cutL
  rw [this, HT.sIx_none]
  simp
theorem cutL_nil {α : Type} (lo hi : Option Int) : cutL ([] : List α) lo hi = [] := by simp [cutL]
/-! texts as lists of signs -/
abbrev mkS (l : List Nat) : Str := ⟨l.toArray⟩
@[simp] theorem mkS_len (l : List Nat) : (mkS l).length = l.length := by rw [len_tl]
@[simp] theorem mkS_tl (x : Str) : mkS (tl x) = x := mk_tl x
@[simp] theorem mkS_cps (l : List Nat) : (mkS l).cps.toList = l := rfl
theorem mkS_app (a b : List Nat) : mkS a ++ mkS b = mkS (a ++ b) := ext_tl (by rw [tl_append])
theorem mkS_inj {a b : List Nat} : mkS a = mkS b ↔ a = b := ⟨fun h => by simpa using congrArg tl h, fun h => by rw [h]⟩
theorem cutS_mk (l : List Nat) (lo hi : Option Int) : cutS (mkS l) lo hi = mkS (cutL l lo hi) := cutS_L _ _ _
theorem eqv_str (a b : List Nat) : PyData.eqv (.str (mkS a)) (.str (mkS b)) = decide (a = b) := by
  unfold PyData.eqv
  by_cases h : a = b
  · subst h; simp
  · simp only [h, decide_false]
    exact beq_eq_false_iff_ne.mpr fun z => h (mkS_inj.mp z)
theorem num_str (n : Nat) : (Str.ofString (toString ((n : Nat) : Int))) = mkS (numL n) := ext_tl (tl_num n)
end DL

namespace DL
open PySem PySem.Spec PyProof.Rows L2 TL
/-! ### effects -/
theorem sizeLine_big : 10000000 ≤ sizeLine := by decide
theorem boolsD_map {α : Type} (f : α → Bool) : ∀ xs : List α, boolsD (xs.map fun x => PyData.bool (f x)) = some (xs.map f)
  | [] => rfl
  | x :: xs => by simp [boolsD, boolsD_map f xs]
def isEff (n : Int) (gs : List Int) : Bool := decide (0 ≤ n) && gs.all fun g => decide (1 ≤ g) && decide (g ≤ n)
/-- what is left, of the reversed places -/
def lst : Int → List Int → Int × List Int
  | n, [] => (n, [])
  | n, g :: r => if g = n ∧ r.foldr max 0 < n then lst (n - 1) r else (n, g :: r)
def leastOf (n : Int) (gs : List Int) : Int × List Int := ((lst n gs.reverse).1, (lst n gs.reverse).2.reverse)
/-- the tops so far -/
def topsOf (gs : List Int) : List Int := (List.range (gs.length + 1)).map fun k => (gs.take k).reverse.foldr max 0
theorem topsOf_snoc (gs : List Int) (g : Int) : topsOf (gs ++ [g]) = topsOf gs ++ [max g ((gs.reverse).foldr max 0)] := by
  unfold topsOf
  rw [List.length_append, List.length_singleton, List.range_succ, List.map_append]
  congr 1
  · apply List.map_congr_left
    intro k hk
    simp at hk
    rw [List.take_append_of_le_length (by omega)]
  · simp [List.take_of_length_le]
theorem topsOf_last (gs : List Int) : ∃ l, topsOf gs = l ++ [gs.reverse.foldr max 0] := by
  unfold topsOf
  rw [List.range_succ, List.map_append]
  exact ⟨_, by rw [List.map_cons, List.map_nil, List.take_of_length_le (Nat.le_refl _)]⟩
theorem topsOf_len (gs : List Int) : (topsOf gs).length = gs.length + 1 := by simp [topsOf]
theorem topsOf_at (gs : List Int) (k : Nat) (h : k ≤ gs.length) : (topsOf gs)[k]? = some ((gs.take k).reverse.foldr max 0) := by
  unfold topsOf
  rw [List.getElem?_map, List.getElem?_range (by omega)]
  rfl
theorem foldr_max (l : List Int) : 0 ≤ l.foldr max 0 ∧ ∀ x ∈ l, x ≤ l.foldr max 0 := by
  induction l with
  | nil => simp
  | cons y l ih =>
    simp only [List.foldr_cons, List.mem_cons]
    refine ⟨by omega, ?_⟩
    rintro x (rfl | h)
    · omega
    · have := ih.2 x h; omega
theorem foldr_max_lt {l : List Int} {n : Int} (h0 : 0 < n) (h : ∀ x ∈ l, x < n) : l.foldr max 0 < n := by
  induction l with
  | nil => exact h0
  | cons y l ih =>
    have h1 := h y (by simp)
    have h2 := ih fun x hx => h x (by simp [hx])
    simp only [List.foldr_cons]
    omega
theorem iL_at (xs : List Int) (i : Int) : atI (iL xs) i = (atI xs i).map .int := atI_map _
theorem cutD_iL (xs : List Int) (lo hi) : cutD (iL xs) lo hi = iL (cutL xs lo hi) := by rw [cutD_L]; exact cutL_map _ _ _ _
theorem iL_inj {a b : List Int} (h : iL a = iL b) : a = b := by
  have := eqv_iL a b
  rw [h, eqv_iL] at this
  simpa using this.symm
/-! ### numbers -/
def canon (l : List Nat) : Bool := decide (1 ≤ l.length) && decide (l.length ≤ 9) && l.all (fun c => decide (48 ≤ c) && decide (c ≤ 57)) && (decide (l.head? ≠ some 48) || decide (l = [48]))
def valL (l : List Nat) : Int := (NumText.digitsVal l : Nat)
theorem digitsVal_snoc (l : List Nat) (c : Nat) : NumText.digitsVal (l ++ [c]) = NumText.digitsVal l * 10 + (c - 48) := by simp [NumText.digitsVal]
theorem dig_mem : (tl ("0123456789" : Str)) = [48, 49, 50, 51, 52, 53, 54, 55, 56, 57] := by decide +kernel
theorem dig_iff (c : Nat) : (c ∈ [48, 49, 50, 51, 52, 53, 54, 55, 56, 57]) ↔ 48 ≤ c ∧ c ≤ 57 := by simp; omega
theorem numL_head {n : Nat} (h : (numL n).head? = some 48) : n = 0 := by
  induction n using Nat.strongRecOn with
  | _ n ih =>
    by_cases h9 : n < 10
    · rw [numL_lt h9] at h; simp at h; omega
    · rw [numL_step (by omega)] at h
      have e : (numL (n / 10) ++ [48 + n % 10]).head? = (numL (n / 10)).head? := by
        cases hq : numL (n / 10) with
        | nil => exact absurd hq (numL_ne _)
        | cons a b => rfl
      rw [e] at h
      have := ih (n / 10) (by omega) h
      omega
theorem numL_back : ∀ l : List Nat, l ≠ [] → NumText.AllDigits l → (l.head? ≠ some 48 ∨ l = [48]) → numL (NumText.digitsVal l) = l := by
  intro l
  have key : ∀ (k : Nat) (l : List Nat), l.length = k → l ≠ [] → NumText.AllDigits l → (l.head? ≠ some 48 ∨ l = [48]) → numL (NumText.digitsVal l) = l := ?_
  · exact key _ l rfl
  intro k
  induction k with
  | zero => intro l h0 h; exact absurd (List.length_eq_zero_iff.mp h0) h
  | succ k ih =>
    intro l hk hne
    obtain ⟨l, c, rfl⟩ : ∃ m d, l = m ++ [d] := ⟨_, _, (List.dropLast_concat_getLast hne).symm⟩
    intro hd hc
    have hc9 := hd c (by simp)
    rw [digitsVal_snoc]
    by_cases hl : l = []
    · subst hl
      simp [NumText.digitsVal]
      rw [numL_lt (by omega)]
      congr 1
      omega
    · have hh : l.head? ≠ some 48 := by
        rcases hc with hc | hc
        · intro z; apply hc; cases l with
          | nil => exact absurd rfl hl
          | cons a b => simpa using z
        · cases l with
          | nil => exact absurd rfl hl
          | cons a b => simp at hc
      have e := ih l (by simpa using hk) hl (fun x hx => hd x (by simp [hx])) (.inl hh)
      have pos : 1 ≤ NumText.digitsVal l := by
        rcases Nat.eq_zero_or_pos (NumText.digitsVal l) with z | z
        · rw [z, numL_lt (by omega)] at e
          rw [← e] at hh
          simp at hh
        · exact z
      rw [numL_step (by omega)]
      have e1 : (NumText.digitsVal l * 10 + (c - 48)) / 10 = NumText.digitsVal l := by omega
      have e2 : 48 + (NumText.digitsVal l * 10 + (c - 48)) % 10 = c := by omega
      rw [e1, e2, e]
theorem canon_iff {l : List Nat} : canon l = true ↔ (1 ≤ l.length ∧ l.length ≤ 9) ∧ NumText.AllDigits l ∧ (l.head? ≠ some 48 ∨ l = [48]) := by
  simp [canon, NumText.AllDigits, List.all_eq_true, and_assoc]
theorem canon_num {l : List Nat} (h : canon l = true) : numL (NumText.digitsVal l) = l := by
  obtain ⟨⟨h1, _⟩, h2, h3⟩ := canon_iff.mp h
  exact numL_back l (by rintro rfl; simp at h1) h2 h3
theorem canon_free {l : List Nat} (h : canon l = true) {c : Nat} (hc : c < 48 ∨ 57 < c) : c ∉ l := fun hm => by
  have := (canon_iff.mp h).2.1 c hm
  omega
end DL
namespace DL
open PySem PySem.Spec PyProof.Rows L2 TL
/-! ### texts -/
def numD (l : List Nat) : D := if canon l = true then .int (valL l) else .none
theorem str_eta (x : Str) : ∃ l, x = mkS l := ⟨tl x, (mk_tl x).symm⟩
theorem signs_mk (l : List Nat) : signsD (mkS l) = l.map fun c => PyData.str (mkS [c]) := rfl
theorem depth_str (x : Str) : (PyData.str x).depth ≤ 1 := by simp [PyData.depth]
theorem litS (s : String) (l : List Nat) (h : s.toList.map Char.toNat = l) : (Str.ofString s) = mkS l := ext_tl (by rw [tl_ofString, h])
theorem s_empty : (("" : Str)) = mkS [] := litS "" _ rfl
theorem s_sp : ((" " : Str)) = mkS [32] := litS " " _ rfl
theorem s_bar : (("|" : Str)) = mkS [124] := litS "|" _ rfl
theorem s_op : (("(" : Str)) = mkS [40] := litS "(" _ rfl
theorem s_cl : ((")" : Str)) = mkS [41] := litS ")" _ rfl
theorem s_spop : ((" (" : Str)) = mkS [32, 40] := litS " (" _ rfl
theorem s_zero : (("0" : Str)) = mkS [48] := litS "0" _ rfl
theorem s_dig : (("0123456789" : Str)) = mkS [48, 49, 50, 51, 52, 53, 54, 55, 56, 57] := litS _ _ rfl
theorem s_let : (("abcdefghijklmnopqrstuvwxyz" : Str)) = mkS [97, 98, 99, 100, 101, 102, 103, 104, 105, 106, 107, 108, 109, 110, 111, 112, 113, 114, 115, 116, 117, 118, 119, 120, 121, 122] := litS _ _ rfl
def wUnder : List Nat := [117, 110, 100, 101, 114]
def wTimes : List Nat := [116, 105, 109, 101, 115]
theorem s_under : (("under" : Str)) = mkS wUnder := litS _ _ rfl
theorem s_times : (("times" : Str)) = mkS wTimes := litS _ _ rfl
theorem let_iff (c : Nat) : (c ∈ [97, 98, 99, 100, 101, 102, 103, 104, 105, 106, 107, 108, 109, 110, 111, 112, 113, 114, 115, 116, 117, 118, 119, 120, 121, 122]) ↔ 97 ≤ c ∧ c ≤ 122 := by simp; omega
theorem canon_dig {l : List Nat} (h : l.all (fun c => decide (48 ≤ c) && decide (c ≤ 57)) = true) : NumText.AllDigits l := by
  intro c hc
  have := List.all_eq_true.mp h c hc
  simpa using this
theorem intText_canon {l : List Nat} (h : NumText.AllDigits l) (hn : l ≠ []) (hl : l.length ≤ 4300) : PySem.intText? (mkS l) = some (valL l) :=
  PySem.intText_digits (x := mkS l) h hn (by rw [mkS_len]; exact hl)
/-- the text of a number -/
theorem toS_nat (i : Int) (h : 0 ≤ i) : (Str.ofString (toString i)) = mkS (numL i.toNat) := by
  obtain ⟨k, rfl⟩ := Int.eq_ofNat_of_zero_le h
  exact num_str k
theorem log2_of {i : Int} (h0 : 0 ≤ i) (h : i < 2 ^ 100) : i.natAbs.log2 < 1920 := by
  have h1 : i.natAbs < 2 ^ (1920 : Nat) := by
    have : i.natAbs < 2 ^ 100 := by omega
    exact Nat.lt_of_lt_of_le this (Nat.pow_le_pow_right (by decide) (by decide))
  by_cases hz : i.natAbs = 0
  · rw [hz]; decide
  · exact (Nat.log2_lt hz).mpr h1
theorem spl1_join : ∀ (l acc : List Nat), joinL [32] (spl [32] 0 acc l) = acc ++ l := by
  intro l
  induction l with
  | nil => intro acc; rw [spl_nil]; simp [joinL]
  | cons c r ih =>
    intro acc
    by_cases h : pre [32] (c :: r) = true
    · rw [spl_hit h]
      have e := ih []
      cases hq : spl [32] ([32].length - 1) [] r with
      | nil => exact absurd (congrArg List.length hq) (by
          have : ∀ (l acc : List Nat), 1 ≤ (spl [32] 0 acc l).length := by
            intro l
            induction l with
            | nil => intro acc; rw [spl_nil]; simp
            | cons c r ih =>
              intro acc
              by_cases h : pre [32] (c :: r) = true
              · rw [spl_hit h]; simp
              · rw [spl_miss (by simpa using h)]; exact ih _
          have := this r []
          simp at this ⊢
          intro z
          rw [z] at this
          simp at this)
      | cons a b =>
        have hq' : spl [32] 0 [] r = a :: b := hq
        rw [hq'] at e
        show acc ++ ([32] ++ joinL [32] (a :: b)) = _
        rw [e]
        simp [pre] at h
        simp [h]
    · rw [spl_miss (by simpa using h), ih]
      simp
/-- the pieces between blanks -/
def pcs (l : List Nat) : List (List Nat) := spl [32] 0 [] l
theorem join_pcs (l : List Nat) : joinL [32] (pcs l) = l := by unfold pcs; rw [spl1_join]; rfl
theorem split_pcs (l : List Nat) : (Txt.split (mkS l) (mkS [32])) = (pcs l).map mkS := by
  refine map_tl_inj ?_
  rw [split_spl _ _ (by simp) (kind_ok (by decide +kernel))]
  simp [pcs, Function.comp_def]
theorem spl1_len : ∀ (l acc : List Nat), (spl [32] 0 acc l).length ≤ l.length + 1 := by
  intro l
  induction l with
  | nil => intro acc; rw [spl_nil]; simp
  | cons c r ih =>
    intro acc
    by_cases h : pre [32] (c :: r) = true
    · rw [spl_hit h]
      have := ih []
      simp at this ⊢
      exact this
    · rw [spl_miss (by simpa using h)]
      have := ih (acc ++ [c])
      simp at this ⊢
      omega
theorem pcs_len (l : List Nat) : (pcs l).length ≤ l.length + 1 := spl1_len l []
theorem spl1_each : ∀ (l acc p : List Nat), p ∈ spl [32] 0 acc l → p.length ≤ acc.length + l.length := by
  intro l
  induction l with
  | nil => intro acc p; rw [spl_nil]; simp; rintro rfl; omega
  | cons c r ih =>
    intro acc p hp
    by_cases h : pre [32] (c :: r) = true
    · rw [spl_hit h] at hp
      rcases List.mem_cons.mp hp with rfl | hp
      · simp
      · have := ih [] p hp
        simp at this ⊢
        omega
    · rw [spl_miss (by simpa using h)] at hp
      have := ih _ p hp
      simp at this ⊢
      omega
theorem pcs_each {l p : List Nat} (h : p ∈ pcs l) : p.length ≤ l.length := by simpa using spl1_each l [] p h
theorem pcs_ne (l : List Nat) : ∃ a b, pcs l = a :: b := by
  cases h : pcs l with
  | nil =>
    have h1 := join_pcs l
    rw [h] at h1
    have : l = [] := h1.symm
    subst this
    exact absurd h (by unfold pcs; rw [spl_nil]; simp)
  | cons a b => exact ⟨a, b, rfl⟩
/-- the effect that a text tells -/
def effF (l : List Nat) : Option (Int × List Int) := match pcs l with
  | p :: q :: r => if q = [124] ∧ canon p = true ∧ r.all canon = true ∧ isEff (valL p) (r.map valL) = true ∧ leastOf (valL p) (r.map valL) = (valL p, r.map valL) then some (valL p, r.map valL) else none
  | _ => none

theorem eqv_eff (x y : Int × List Int) : PyData.eqv (.tuple [.int x.1, .list (iL x.2)]) (.tuple [.int y.1, .list (iL y.2)]) = decide (x = y) := by
  obtain ⟨a, b⟩ := x
  obtain ⟨c, d⟩ := y
  simp only [PyData.eqv, PyData.eqvAll, eqv_iL, Bool.and_true]
  by_cases q1 : a = c <;> simp [q1]
theorem depth_eff (x : Int × List Int) : (PyData.tuple [.int x.1, .list (iL x.2)]).depth ≤ 4 := by
  have := depth_iL x.2
  simp [PyData.depth, PyData.depthAll]; omega
/-- the text of an effect -/
def effT (n : Int) (gs : List Int) : List Nat := joinL [32] (numL n.toNat :: [124] :: gs.map fun g => numL g.toNat)
/-- a number of at most so many digits is not long -/
theorem numL_short {n : Nat} (h : n < 10 ^ 40) : (numL n).length ≤ 40 := numL_len (by decide) h
theorem joinL_len (s : List Nat) : ∀ (xs : List (List Nat)), (joinL s xs).length ≤ (xs.map List.length).sum + xs.length * s.length
  | [] => by simp [joinL]
  | [x] => by simp [joinL]
  | x :: y :: r => by
    have := joinL_len s (y :: r)
    simp only [joinL, List.length_append, List.map_cons, List.sum_cons, List.length_cons] at this ⊢
    simp only [Nat.add_mul, Nat.one_mul] at this ⊢
    omega
theorem sum_le {α : Type} (f : α → Nat) (k : Nat) : ∀ (xs : List α), (∀ x ∈ xs, f x ≤ k) → (xs.map f).sum ≤ xs.length * k
  | [], _ => by simp
  | x :: xs, h => by
    have h1 := h x (by simp)
    have h2 := sum_le f k xs fun y hy => h y (by simp [hy])
    simp only [List.map_cons, List.sum_cons, List.length_cons, Nat.add_mul, Nat.one_mul]
    omega
theorem join_mk (s : List Nat) (xs : List (List Nat)) : Txt.join (mkS s) (xs.map mkS) = mkS (joinL s xs) := by
  refine ext_tl ?_
  rw [join_eq, tl_join, List.map_map]
  congr 1
  induction xs with
  | nil => rfl
  | cons x xs ih => rw [List.map_cons, ih]; rfl
theorem strsD_mk (xs : List (List Nat)) : strsD (xs.map fun l => PyData.str (mkS l)) = some (xs.map mkS) := by
  induction xs with
  | nil => rfl
  | cons x xs ih => simp [strsD, ih]
theorem join_ok {s : List Nat} {xs : List (List Nat)} {ds : List D} {Q : D → Prop} (e : ds = xs.map fun l => PyData.str (mkS l)) (h : (xs.map List.length).sum + xs.length * s.length ≤ 16777216) (q : Q (.str (mkS (joinL s xs)))) : rdJoin (mkS s) (.list ds) Q := by
  subst e
  refine ⟨_, strsD_mk xs, ?_, ?_⟩
  · simpa [List.map_map, Function.comp_def] using h
  · rw [join_mk]; exact q

theorem digitsVal_lt : ∀ (k : Nat) (l : List Nat), l.length = k → NumText.AllDigits l → NumText.digitsVal l < 10 ^ k := by
  intro k
  induction k with
  | zero => intro l h _; rw [List.length_eq_zero_iff.mp h]; simp [NumText.digitsVal]
  | succ k ih =>
    intro l hk hd
    have hne : l ≠ [] := by rintro rfl; simp at hk
    obtain ⟨m, c, rfl⟩ : ∃ m d, l = m ++ [d] := ⟨_, _, (List.dropLast_concat_getLast hne).symm⟩
    have h1 := ih m (by simpa using hk) fun x hx => hd x (by simp [hx])
    have h2 := hd c (by simp)
    rw [digitsVal_snoc, Nat.pow_succ]
    omega
theorem valL_lt {l : List Nat} (h : l.length ≤ 9) (hd : NumText.AllDigits l) : 0 ≤ valL l ∧ valL l < 1000000000 := by
  have h1 := digitsVal_lt l.length l rfl hd
  have h2 : 10 ^ l.length ≤ 10 ^ 9 := Nat.pow_le_pow_right (by decide) h
  unfold valL
  have h3 : (10 : Nat) ^ 9 = 1000000000 := by decide
  omega
theorem valL_nat (l : List Nat) : (valL l).toNat = NumText.digitsVal l := by unfold valL; omega
theorem canon_back {l : List Nat} (h1 : 1 ≤ l.length ∧ l.length ≤ 9) (hd : NumText.AllDigits l) : numL (NumText.digitsVal l) = l ↔ canon l = true := by
  constructor
  · intro h
    refine canon_iff.mpr ⟨h1, hd, ?_⟩
    by_cases h8 : l.head? = some 48
    · right
      rw [← h] at h8
      have := numL_head h8
      rw [this, numL_lt (by omega)] at h
      exact h.symm
    · exact .inl h8
  · exact canon_num
theorem top_lt {a : List Int} {n : Int} (h : ∀ x ∈ a, x ≤ n) : a.reverse.foldr max 0 < n ↔ 0 < n ∧ n ∉ a := by
  have h1 := foldr_max a.reverse
  constructor
  · intro h2
    refine ⟨by omega, fun hm => ?_⟩
    have := h1.2 n (by simpa using hm)
    omega
  · rintro ⟨h2, h3⟩
    refine foldr_max_lt h2 fun x hx => ?_
    have hx' : x ∈ a := by simpa using hx
    have := h x hx'
    by_cases e : x = n
    · subst e; exact absurd hx' h3
    · omega
theorem inD_iL (n : Int) (a : List Int) : inD (.int n) (iL a) = decide (n ∈ a) := by
  induction a with
  | nil => rfl
  | cons x a ih =>
    unfold inD at ih ⊢
    rw [iL_cons, List.any_cons, ih]
    by_cases h : x = n
    · subst h; simp [PyData.eqv]
    · simp [PyData.eqv, h, Ne.symm h]
theorem lst_stuck_nil (n : Int) : lst n [] = (n, []) := rfl
theorem eqv_list (a b : List Int) : PyData.eqv (.list (iL a)) (.list (iL b)) = decide (a = b) := by rw [PyData.eqv]; exact eqv_iL a b
def numN (l : List Nat) : Int := if canon l = true then valL l else -1
end DL

namespace DL
open PySem PySem.Spec PyProof.Rows L2 TL
/-! ### phrases -/
inductive Stp where
  | nm (w : List Nat)
  | lg (w : List Nat) (n : Nat) (ph : List Stp)
mutual
def stD : Stp → D
  | .nm w => .str (mkS w)
  | .lg w n ph => .tuple [.str (mkS w), .int (n : Int), .list (phD ph)]
def phD : List Stp → List D
  | [] => []
  | s :: r => stD s :: phD r
end
mutual
def stT : Stp → List Nat
  | .nm w => w
  | .lg w n ph => w ++ ([32] ++ (numL n ++ ([32, 40] ++ (joinL [32] (phTs ph) ++ [41]))))
def phTs : List Stp → List (List Nat)
  | [] => []
  | s :: r => stT s :: phTs r
end
def phT (ph : List Stp) : List Nat := joinL [32] (phTs ph)
mutual
def stN : Stp → Nat
  | .nm _ => 0
  | .lg _ _ ph => phN ph + 1
def phN : List Stp → Nat
  | [] => 0
  | s :: r => max (stN s) (phN r)
end
mutual
def stOk : Stp → Prop
  | .nm _ => True
  | .lg _ n ph => n < 2 ^ 100 ∧ phOk ph
def phOk : List Stp → Prop
  | [] => True
  | s :: r => stOk s ∧ phOk r
end
theorem phD_map (ph : List Stp) : phD ph = ph.map stD := by
  induction ph with
  | nil => rfl
  | cons s r ih => rw [phD, ih]; rfl
theorem phTs_map (ph : List Stp) : phTs ph = ph.map stT := by
  induction ph with
  | nil => rfl
  | cons s r ih => rw [phTs, ih]; rfl
theorem phN_mem {ph : List Stp} {s : Stp} (h : s ∈ ph) : stN s ≤ phN ph := by
  induction ph with
  | nil => cases h
  | cons t r ih =>
    rw [phN]
    rcases List.mem_cons.mp h with rfl | h
    · omega
    · have := ih h; omega
theorem phOk_mem {ph : List Stp} {s : Stp} (h : s ∈ ph) (ok : phOk ph) : stOk s := by
  induction ph with
  | nil => cases h
  | cons t r ih =>
    rw [phOk] at ok
    rcases List.mem_cons.mp h with rfl | h
    · exact ok.1
    · exact ih h ok.2
theorem phOk_all {ph : List Stp} (h : ∀ s ∈ ph, stOk s) : phOk ph := by
  induction ph with
  | nil => trivial
  | cons t r ih => exact ⟨h t (by simp), ih fun s hs => h s (by simp [hs])⟩
theorem phN_all {ph : List Stp} {k : Nat} (h : ∀ s ∈ ph, stN s ≤ k) : phN ph ≤ k := by
  induction ph with
  | nil => simp [phN]
  | cons t r ih => have h1 := h t (by simp); have h2 := ih fun s hs => h s (by simp [hs]); rw [phN]; omega
theorem phD_app (a b : List Stp) : phD a ++ phD b = phD (a ++ b) := by simp [phD_map]
theorem phD_len (a : List Stp) : (phD a).length = a.length := by simp [phD_map]
mutual
theorem stD_depth : ∀ s : Stp, (stD s).depth ≤ 2 * stN s + 1
  | .nm w => by simp [stD, PyData.depth]
  | .lg w n ph => by have := phD_depth ph; simp [stD, PyData.depth, PyData.depthAll, stN]; omega
theorem phD_depth : ∀ ph : List Stp, PyData.depthAll (phD ph) ≤ 2 * phN ph + 1
  | [] => by simp [phD, PyData.depthAll]
  | s :: r => by have h1 := stD_depth s; have h2 := phD_depth r; simp [phD, PyData.depthAll, phN]; omega
end
mutual
theorem stD_plain : ∀ s : Stp, (stD s).plain = true
  | .nm w => by simp [stD, PyData.plain]
  | .lg w n ph => by have := phD_plain ph; simp [stD, PyData.plain, PyData.plainAll, this]
theorem phD_plain : ∀ ph : List Stp, PyData.plainAll (phD ph) = true
  | [] => rfl
  | s :: r => by have h1 := stD_plain s; have h2 := phD_plain r; simp [phD, PyData.plainAll, h1, h2]
end
theorem joinL_cons2 (s x y : List Nat) (r : List (List Nat)) : joinL s (x :: y :: r) = x ++ (s ++ joinL s (y :: r)) := rfl
theorem joinL_len1 : ∀ (xs : List (List Nat)), xs ≠ [] → (joinL [32] xs).length + 1 = (xs.map List.length).sum + xs.length
  | [], h => absurd rfl h
  | [x], _ => by simp [joinL]
  | x :: y :: r, _ => by
    have := joinL_len1 (y :: r) (by simp)
    rw [joinL_cons2]
    simp only [List.length_append, List.map_cons, List.sum_cons, List.length_cons, List.length_nil] at this ⊢
    omega
theorem joinL_fit (xs : List (List Nat)) : (xs.map List.length).sum + xs.length * [32].length ≤ (joinL [32] xs).length + 1 := by
  cases xs with
  | nil => simp
  | cons x r => have := joinL_len1 (x :: r) (by simp); simp only [List.length_singleton, Nat.mul_one] at *; omega
theorem joinL_mem {xs : List (List Nat)} {x : List Nat} (h : x ∈ xs) : x.length ≤ (joinL [32] xs).length := by
  have h1 := joinL_fit xs
  have h2 : ∀ (xs : List (List Nat)), x ∈ xs → x.length + xs.length ≤ (xs.map List.length).sum + xs.length := by
    intro xs
    induction xs with
    | nil => intro h; cases h
    | cons y r ih =>
      intro h
      rcases List.mem_cons.mp h with rfl | h
      · simp
      · have := ih h; simp at *; omega
  have h3 := h2 xs h
  have h4 : 1 ≤ xs.length := by cases xs with | nil => cases h | cons => simp
  simp at h1
  omega
/-! ### reading phrases -/
def isTitle (l : List Nat) : Bool := decide (1 ≤ l.length) && decide (l.length ≤ 8) && l.all fun c => decide (97 ≤ c) && decide (c ≤ 122)
def closeG : List Nat → Nat → Int → Option Nat
  | [], _, _ => none
  | c :: r, k, dp => if dp + (if c = 40 then 1 else 0) - (if c = 41 then 1 else 0) = 0 then some k else closeG r (k + 1) (dp + (if c = 40 then 1 else 0) - (if c = 41 then 1 else 0))
def closeF (l : List Nat) (b : Nat) : Option Nat := closeG (l.drop b) b 0
theorem closeG_ge : ∀ (l : List Nat) (k : Nat) (dp : Int) (e : Nat), closeG l k dp = some e → k ≤ e ∧ e < k + l.length
  | [], _, _, _, h => by cases h
  | c :: r, k, dp, e, h => by
    rw [closeG] at h
    generalize dp + (if c = 40 then 1 else 0) - (if c = 41 then 1 else 0) = q at h
    by_cases hq : q = 0
    · rw [if_pos hq] at h
      cases h; simp
    · rw [if_neg hq] at h
      have := closeG_ge r _ _ e h
      simp; omega
theorem closeF_ge {l : List Nat} {b e : Nat} (h : closeF l b = some e) : b ≤ e ∧ e < l.length := by
  have := closeG_ge _ _ _ _ h
  simp at this
  omega
def isW (w : List Nat) : Bool := decide (w = wUnder) || decide (w = wTimes)
def nameF (w : List Nat) : Option (Stp × Nat) := if isTitle w = true then some (.nm w, w.length) else none
def inner (l : List Nat) (b e : Nat) : List Nat := (l.drop (b + 1)).take (e - (b + 1))
def longF (ph : List Nat → Option (List Stp)) (l w n : List Nat) : Option (Stp × Nat) := match closeF l (w.length + n.length + 2) with
  | some e => if canon n = true then (ph (inner l (w.length + n.length + 2) e)).map fun p => (.lg w (NumText.digitsVal n) p, e + 1) else none
  | none => none
/-- the first step of a text, as the law reads it -/
def headF (ph : List Nat → Option (List Stp)) (l : List Nat) : Option (Stp × Nat) := match pcs l with
  | w :: n :: t :: _ => if isW w = true ∧ t.head? = some 40 then longF ph l w n else nameF w
  | w :: _ => nameF w
  | [] => none
def restF (r : List Nat) : Option (List Nat) := if r = [] then some [] else if r.head? ≠ some 32 ∨ r = [32] then none else some (r.drop 1)
def goF (hd : List Nat → Option (Stp × Nat)) (ph : List Nat → Option (List Stp)) (l : List Nat) : Option (List Stp) :=
  if l = [] then some [] else match hd l with
    | none => none
    | some (s, k) => match restF (l.drop k) with
      | none => none
      | some r => (ph r).map (s :: ·)
def parseF : Nat → List Nat → Option (List Stp)
  | 0, _ => none
  | n + 1, l => goF (headF (parseF n)) (parseF n) l
theorem inner_len {l : List Nat} {b e : Nat} (h : b < l.length) : (inner l b e).length < l.length := by simp [inner]; omega
theorem pcs_free {l p : List Nat} (h : p ∈ pcs l) : 32 ∉ p := by
  have key : ∀ (l acc p : List Nat), 32 ∉ acc → p ∈ spl [32] 0 acc l → 32 ∉ p := by
    intro l
    induction l with
    | nil => intro acc p ha hp; rw [spl_nil] at hp; simp at hp; subst hp; exact ha
    | cons c r ih =>
      intro acc p ha hp
      by_cases h : pre [32] (c :: r) = true
      · rw [spl_hit h] at hp
        rcases List.mem_cons.mp hp with rfl | hp
        · exact ha
        · exact ih [] p (by simp) hp
      · rw [spl_miss (by simpa using h)] at hp
        refine ih _ p ?_ hp
        simp [pre] at h
        simp [ha]
        exact fun z => h z.symm
  exact key l [] p (by simp) h
theorem pcs3 {l w n t : List Nat} {r : List (List Nat)} (h : pcs l = w :: n :: t :: r) : l = w ++ ([32] ++ (n ++ ([32] ++ joinL [32] (t :: r)))) := by
  have := join_pcs l
  rw [h, joinL_cons2, joinL_cons2] at this
  exact this.symm
theorem closeF_lt {l : List Nat} {b e : Nat} (h : closeF l b = some e) : b < l.length := by
  have := closeF_ge h; omega
theorem longF_congr {f g : List Nat → Option (List Stp)} {l w n : List Nat} (h : ∀ x, x.length < l.length → f x = g x) : longF f l w n = longF g l w n := by
  unfold longF
  cases hc : closeF l (w.length + n.length + 2) with
  | none => rfl
  | some e => simp only [h _ (inner_len (closeF_lt hc))]
theorem headF_congr {f g : List Nat → Option (List Stp)} {l : List Nat} (h : ∀ x, x.length < l.length → f x = g x) : headF f l = headF g l := by
  unfold headF
  split
  · rw [longF_congr h]
  · rfl
  · rfl
theorem nameF_pos {w : List Nat} {s : Stp} {k : Nat} (h : nameF w = some (s, k)) : 1 ≤ k := by
  unfold nameF at h
  split at h
  · rename_i hw
    cases h
    simp [isTitle] at hw
    omega
  · cases h
theorem longF_pos {f : List Nat → Option (List Stp)} {l w n : List Nat} {s : Stp} {k : Nat} (h : longF f l w n = some (s, k)) : 1 ≤ k := by
  unfold longF at h
  split at h
  · split at h
    · simp at h
      obtain ⟨_, _, _, rfl⟩ := h
      omega
    · cases h
  · cases h
theorem headF_pos {f : List Nat → Option (List Stp)} {l : List Nat} {s : Stp} {k : Nat} (h : headF f l = some (s, k)) : 1 ≤ k := by
  unfold headF at h
  split at h
  · split at h
    · exact longF_pos h
    · exact nameF_pos h
  · exact nameF_pos h
  · cases h
theorem restF_len {r x : List Nat} (h : restF r = some x) : x.length ≤ r.length := by
  unfold restF at h
  split at h
  · cases h; simp
  · split at h
    · cases h
    · cases h; simp
theorem goF_congr {hd hd' : List Nat → Option (Stp × Nat)} {f g : List Nat → Option (List Stp)} {l : List Nat} (h1 : hd l = hd' l) (hp : ∀ s k, hd' l = some (s, k) → 1 ≤ k) (h : ∀ x, x.length < l.length → f x = g x) : goF hd f l = goF hd' g l := by
  unfold goF
  by_cases hl : l = []
  · rw [if_pos hl, if_pos hl]
  · rw [if_neg hl, if_neg hl, h1]
    cases he : hd' l with
    | none => rfl
    | some sk =>
      obtain ⟨s, k⟩ := sk
      have hk := hp s k he
      simp only
      cases hr : restF (l.drop k) with
      | none => rfl
      | some x =>
        have := restF_len hr
        simp at this
        have hl' : 0 < l.length := List.length_pos_iff.mpr hl
        simp only
        rw [h x (by omega)]
theorem parseF_fuel : ∀ (n m : Nat) (l : List Nat), l.length < n → l.length < m → parseF n l = parseF m l
  | 0, _, _, h, _ => by omega
  | n + 1, 0, _, _, h => by omega
  | n + 1, m + 1, l, h1, h2 => by
    rw [parseF, parseF]
    refine goF_congr (headF_congr fun x hx => parseF_fuel n m x (by omega) (by omega)) (fun s k => headF_pos) fun x hx => parseF_fuel n m x (by omega) (by omega)
def parse (l : List Nat) : Option (List Stp) := parseF (l.length + 1) l
theorem parse_eq (l : List Nat) : parse l = goF (headF parse) parse l := by
  unfold parse
  rw [parseF]
  refine goF_congr (headF_congr fun x hx => parseF_fuel _ _ _ (by omega) (by omega)) (fun s k => headF_pos) fun x hx => parseF_fuel _ _ _ (by omega) (by omega)

/-! ### as the program reads them -/
/-- what stands before the first " (", and whether there is one -/
def numBr (r : List Nat) : List Nat × Bool := match par [32, 40] [] r with
  | some (a, _) => (a, true)
  | none => (r, false)
def rstOf : List (List Nat) → List Nat
  | [] => []
  | x :: xs => joinL [32] (x :: xs)
def longP (ph : List Nat → Option (List Stp)) (l : List Nat) : Option (Stp × Nat) := match pcs l with
  | w :: r =>
    let m := numBr (rstOf r)
    let b := w.length + m.1.length + 2
    match (if m.2 = true then closeF l b else none) with
    | some e => if isW w = true ∧ canon m.1 = true then (ph (inner l b e)).map fun p => (.lg w (NumText.digitsVal m.1) p, e + 1) else none
    | none => none
  | [] => none
def stepP (ph : List Nat → Option (List Stp)) (l : List Nat) : Option (Stp × Nat) := match longP ph l with
  | some x => some x
  | none => nameF (pcs l).head!
def parsP (n : Nat) : List Nat → Option (List Stp) := match n with
  | 0 => fun _ => none
  | n + 1 => fun l => goF (stepP (parsP n)) (parsP n) l
theorem par_cons {c : Nat} {r acc : List Nat} : par [32, 40] acc (c :: r) = if c = 32 ∧ r.head? = some 40 then some (acc, r.drop 1) else par [32, 40] (acc ++ [c]) r := by
  by_cases h : c = 32 ∧ r.head? = some 40
  · rw [if_pos h]
    obtain ⟨rfl, h⟩ := h
    cases r with
    | nil => cases h
    | cons d r =>
      simp at h
      subst h
      rw [par_hit (by simp [pre])]
      rfl
  · rw [if_neg h, par_miss]
    simp only [pre]
    cases r with
    | nil => simp
    | cons d r => simp at h ⊢; exact h
/-- a first piece without a blank, and behind it a bracket or not -/
theorem par_piece : ∀ (n acc r : List Nat), 32 ∉ n → par [32, 40] acc (n ++ r) = par [32, 40] (acc ++ n) r
  | [], acc, r, _ => by simp
  | c :: n, acc, r, h => by
    rw [List.cons_append, par_cons, if_neg]
    · rw [par_piece n (acc ++ [c]) r (fun z => h (by simp [z]))]
      simp
    · rintro ⟨rfl, _⟩
      exact h (by simp)
theorem par_pref : ∀ (r acc a b : List Nat), par [32, 40] acc r = some (a, b) → ∃ x, a = acc ++ x ∧ r = x ++ ([32, 40] ++ b)
  | [], acc, a, b, h => by cases h
  | c :: r, acc, a, b, h => by
    rw [par_cons] at h
    by_cases hc : c = 32 ∧ r.head? = some 40
    · rw [if_pos hc] at h
      obtain ⟨rfl, hc⟩ := hc
      cases r with
      | nil => cases hc
      | cons d r =>
        simp at hc
        subst hc
        cases h
        exact ⟨[], by simp, by simp⟩
    · rw [if_neg hc] at h
      obtain ⟨x, h1, h2⟩ := par_pref r _ a b h
      exact ⟨c :: x, by rw [h1]; simp, by rw [h2]; simp⟩
theorem rstOf_ne {x : List Nat} {xs : List (List Nat)} : rstOf (x :: xs) = joinL [32] (x :: xs) := rfl
theorem canon_no32 {l : List Nat} (h : canon l = true) : 32 ∉ l := canon_free h (by omega)
/-- a canonical number before the first " (" is a whole piece, and the next one begins with a bracket -/
theorem numBr_canon {n : List Nat} {xs : List (List Nat)} (hn : 32 ∉ n) (h2 : (numBr (rstOf (n :: xs))).2 = true) (hc : canon (numBr (rstOf (n :: xs))).1 = true) :
    (numBr (rstOf (n :: xs))).1 = n ∧ ∃ t r, xs = t :: r ∧ t.head? = some 40 := by
  cases xs with
  | nil =>
    exfalso
    have e : rstOf [n] = n ++ [] := by simp [rstOf, joinL]
    rw [e] at h2
    unfold numBr at h2
    rw [par_piece n [] [] hn] at h2
    cases h2
  | cons t r =>
    have e : rstOf (n :: t :: r) = n ++ (32 :: joinL [32] (t :: r)) := rfl
    rw [e] at h2 hc ⊢
    unfold numBr at h2 hc ⊢
    rw [par_piece n [] _ hn] at h2 hc ⊢
    rw [par_cons] at h2 hc ⊢
    by_cases hb : (32 : Nat) = 32 ∧ (joinL [32] (t :: r)).head? = some 40
    · rw [if_pos hb]
      refine ⟨by simp, t, r, rfl, ?_⟩
      have hb := hb.2
      cases r with
      | nil => exact hb
      | cons u r =>
        rw [joinL_cons2] at hb
        cases t with
        | nil => simp at hb
        | cons a t => simpa using hb
    · exfalso
      rw [if_neg hb] at h2 hc
      cases hp : par [32, 40] ([] ++ n ++ [32]) (joinL [32] (t :: r)) with
      | none => rw [hp] at h2; cases h2
      | some ab =>
        obtain ⟨a, b⟩ := ab
        rw [hp] at hc
        obtain ⟨x, hx, _⟩ := par_pref _ _ _ _ hp
        simp only at hc
        exact canon_no32 hc (by rw [hx]; simp)
/-- a piece, and behind it one that begins with a bracket -/
theorem numBr_br {n t : List Nat} {r : List (List Nat)} (hn : 32 ∉ n) (ht : t.head? = some 40) : numBr (rstOf (n :: t :: r)) = (n, true) := by
  have e : rstOf (n :: t :: r) = n ++ (32 :: joinL [32] (t :: r)) := rfl
  have hb : (joinL [32] (t :: r)).head? = some 40 := by
    cases r with
    | nil => exact ht
    | cons u r =>
      rw [joinL_cons2]
      cases t with
      | nil => cases ht
      | cons a t => simpa using ht
  rw [e]
  unfold numBr
  rw [par_piece n [] _ hn, par_cons, if_pos ⟨rfl, hb⟩]
  simp
theorem pcs_app {w x : List Nat} (h : 32 ∉ w) : pcs (w ++ (32 :: x)) = w :: pcs x := by
  have key : ∀ (w acc : List Nat), 32 ∉ w → spl [32] 0 acc (w ++ (32 :: x)) = (acc ++ w) :: spl [32] 0 [] x := by
    intro w
    induction w with
    | nil => intro acc _; rw [List.nil_append, spl_hit (by simp [pre])]; simp
    | cons c w ih =>
      intro acc h
      rw [List.cons_append, spl_miss, ih _ (fun z => h (by simp [z]))]
      · simp
      · simp [pre]
        rintro rfl
        exact h (by simp)
  unfold pcs
  rw [key w [] h]
  simp
theorem pcs_one {w : List Nat} (h : 32 ∉ w) : pcs w = [w] := by
  have key : ∀ (w acc : List Nat), 32 ∉ w → spl [32] 0 acc w = [acc ++ w] := by
    intro w
    induction w with
    | nil => intro acc _; rw [spl_nil]; simp
    | cons c w ih =>
      intro acc h
      rw [spl_miss, ih _ (fun z => h (by simp [z]))]
      · simp
      · simp [pre]
        rintro rfl
        exact h (by simp)
  unfold pcs
  rw [key w [] h]
  simp
theorem not_title {w : List Nat} (h : w.head? = some 40) : isTitle w = false := by
  cases w with
  | nil => cases h
  | cons c w => simp at h; subst h; simp [isTitle]
theorem not_canon {w : List Nat} (h : w.head? = some 40) : canon w = false := by
  cases hc : canon w with
  | false => rfl
  | true =>
    cases w with
    | nil => cases h
    | cons c w =>
      simp at h; subst h
      have := (canon_iff.mp hc).2.1 40 (by simp)
      omega
theorem not_W {w : List Nat} (h : w.head? = some 40) : isW w = false := by
  cases w with
  | nil => cases h
  | cons c w => simp at h; subst h; simp [isW, wUnder, wTimes]
/-- what begins with a bracket is no phrase -/
theorem parsP_br {n : Nat} {x : List Nat} : parsP n (40 :: x) = none := by
  cases n with
  | zero => rfl
  | succ n =>
    show goF _ _ _ = none
    unfold goF
    rw [if_neg (by simp)]
    obtain ⟨p, r, hp⟩ := pcs_ne (40 :: x)
    have hh : p.head? = some 40 := by
      have := join_pcs (40 :: x)
      rw [hp] at this
      cases p with
      | nil => cases r with
        | nil => simp [joinL] at this
        | cons q r => rw [joinL_cons2] at this; simp at this
      | cons c p => cases r with
        | nil => simp [joinL] at this; simp [this.1]
        | cons q r => rw [joinL_cons2] at this; simp at this; simp [this.1]
    have : stepP (parsP n) (40 :: x) = none := by
      unfold stepP longP
      rw [hp]
      simp only [not_W hh, Bool.false_eq_true, false_and, if_false, List.head!]
      split
      · rename_i y e; split at e <;> cases e
      · simp [nameF, not_title hh]
    rw [this]
/-- a piece, then a bracket: no phrase -/
theorem parsP_pb {n : Nat} {q x : List Nat} (hq : 32 ∉ q) : parsP n (q ++ (32 :: 40 :: x)) = none := by
  cases n with
  | zero => rfl
  | succ n =>
    show goF _ _ _ = none
    unfold goF
    rw [if_neg (by simp)]
    obtain ⟨p, r, hp⟩ := pcs_ne (40 :: x)
    have hh : p.head? = some 40 := by
      have := join_pcs (40 :: x)
      rw [hp] at this
      cases p with
      | nil => cases r with
        | nil => simp [joinL] at this
        | cons q r => rw [joinL_cons2] at this; simp at this
      | cons c p => cases r with
        | nil => simp [joinL] at this; simp [this.1]
        | cons q r => rw [joinL_cons2] at this; simp at this; simp [this.1]
    have hp2 : pcs (q ++ (32 :: 40 :: x)) = q :: p :: r := by rw [pcs_app hq, hp]
    have hf : 32 ∉ p := pcs_free (l := 40 :: x) (by rw [hp]; simp)
    have hl : longP (parsP n) (q ++ (32 :: 40 :: x)) = none := by
      unfold longP
      rw [hp2]
      simp only
      cases h2 : (numBr (rstOf (p :: r))).2 with
      | false => simp
      | true =>
        cases hc : canon (numBr (rstOf (p :: r))).1 with
        | true =>
          have := (numBr_canon hf h2 hc).1
          rw [this, not_canon hh] at hc
          cases hc
        | false =>
          simp only [if_true, Bool.false_eq_true, and_false, if_false]
          split <;> rfl
    have hs : stepP (parsP n) (q ++ (32 :: 40 :: x)) = nameF q := by
      unfold stepP
      rw [hl, hp2]
      rfl
    rw [hs]
    unfold nameF
    by_cases ht : isTitle q = true
    · rw [if_pos ht]
      simp [restF, parsP_br]
    · rw [if_neg ht]
theorem headF_some {f : List Nat → Option (List Stp)} {l w n t : List Nat} {r : List (List Nat)} (h : pcs l = w :: n :: t :: r) : headF f l = if isW w = true ∧ t.head? = some 40 then longF f l w n else nameF w := by
  unfold headF; rw [h]
theorem W_title {w : List Nat} (h : isW w = true) : isTitle w = true := by
  simp [isW] at h
  rcases h with rfl | rfl <;> decide
theorem longP_pos {f : List Nat → Option (List Stp)} {l : List Nat} {s : Stp} {k : Nat} (h : longP f l = some (s, k)) : 1 ≤ k := by
  unfold longP at h
  split at h
  · simp only at h
    split at h
    · split at h
      · simp at h
        obtain ⟨_, _, _, rfl⟩ := h
        omega
      · cases h
    · cases h
  · cases h
theorem stepP_pos {f : List Nat → Option (List Stp)} {l : List Nat} {s : Stp} {k : Nat} (h : stepP f l = some (s, k)) : 1 ≤ k := by
  unfold stepP at h
  split at h
  · rename_i x e
    cases h
    exact longP_pos e
  · exact nameF_pos h
theorem longP_congr {f g : List Nat → Option (List Stp)} {l : List Nat} (h : ∀ x, x.length < l.length → f x = g x) : longP f l = longP g l := by
  unfold longP
  split
  · rename_i w r e
    simp only
    split
    · rename_i e' he
      have : closeF l (w.length + (numBr (rstOf r)).1.length + 2) = some e' := by
        split at he
        · exact he
        · cases he
      rw [h _ (inner_len (closeF_lt this))]
    · rfl
  · rfl
theorem stepP_congr {f g : List Nat → Option (List Stp)} {l : List Nat} (h : ∀ x, x.length < l.length → f x = g x) : stepP f l = stepP g l := by
  unfold stepP; rw [longP_congr h]
/-- where the law's head is a step, the program's is the same; where it is none, the program reads no phrase -/
theorem step_alike {n : Nat} {l : List Nat} (hl : l ≠ []) : stepP (parsP n) l = headF (parsP n) l ∨ (headF (parsP n) l = none ∧ goF (stepP (parsP n)) (parsP n) l = none) := by
  obtain ⟨w, r, hp⟩ := pcs_ne l
  have fw : 32 ∉ w := pcs_free (l := l) (by rw [hp]; simp)
  -- the long one fails: the name
  have nm : ∀ f, longP f l = none → stepP f l = nameF w := by
    intro f h
    unfold stepP; rw [h, hp]; rfl
  cases r with
  | nil =>
    left
    have : longP (parsP n) l = none := by unfold longP; rw [hp]; rfl
    rw [nm _ this]; unfold headF; rw [hp]
  | cons m r =>
  have fm : 32 ∉ m := pcs_free (l := l) (by rw [hp]; simp)
  by_cases hc : (numBr (rstOf (m :: r))).2 = true ∧ canon (numBr (rstOf (m :: r))).1 = true
  · obtain ⟨e1, t, r', rfl, ht⟩ := numBr_canon fm hc.1 hc.2
    have hcm : canon m = true := by rw [← e1]; exact hc.2
    have e2 := numBr_br (r := r') fm ht
    by_cases hw : isW w = true
    · have el : longP (parsP n) l = longF (parsP n) l w m := by
        unfold longP longF; rw [hp]; simp only [e2, if_true, hw, hcm, true_and]
      have eh : headF (parsP n) l = longF (parsP n) l w m := by rw [headF_some hp, if_pos ⟨hw, ht⟩]
      cases hL : longF (parsP n) l w m with
      | some x =>
        left
        rw [eh, hL]
        unfold stepP
        rw [el, hL]
      | none =>
        right
        refine ⟨by rw [eh, hL], ?_⟩
        have es : stepP (parsP n) l = nameF w := nm _ (by rw [el, hL])
        unfold goF
        rw [if_neg hl, es]
        simp only [nameF, W_title hw, if_true]
        have ed : l.drop w.length = 32 :: (m ++ (32 :: joinL [32] (t :: r'))) := by
          rw [pcs3 hp]; simp
        rw [ed]
        have er : restF (32 :: (m ++ (32 :: joinL [32] (t :: r')))) = some (m ++ (32 :: joinL [32] (t :: r'))) := by simp [restF]
        rw [er]
        have hj : ∃ x, joinL [32] (t :: r') = 40 :: x := by
          cases t with
          | nil => cases ht
          | cons a t =>
            simp at ht; subst ht
            cases r' with
            | nil => exact ⟨t, rfl⟩
            | cons u r' => exact ⟨_, rfl⟩
        obtain ⟨x, hx⟩ := hj
        rw [hx]
        simp only [parsP_pb fm, Option.map_none]
    · left
      have : longP (parsP n) l = none := by
        unfold longP; rw [hp]
        simp only [hw, false_and, if_false]
        split <;> rfl
      rw [nm _ this, headF_some hp, if_neg (fun z => hw z.1)]
  · have hlP : longP (parsP n) l = none := by
      unfold longP; rw [hp]
      simp only
      split
      · rename_i e he
        split at he
        · rename_i h2
          rw [if_neg (fun z => hc ⟨h2, z.2⟩)]
        · cases he
      · rfl
    have es := nm _ hlP
    cases r with
    | nil =>
      left
      rw [es]; unfold headF; rw [hp]
    | cons t r' =>
      by_cases hb : isW w = true ∧ t.head? = some 40
      · right
        obtain ⟨hw, ht⟩ := hb
        have e2 := numBr_br (r := r') fm ht
        rw [e2] at hc
        have hcm : canon m = false := by cases h : canon m with | false => rfl | true => exact absurd ⟨rfl, h⟩ hc
        refine ⟨?_, ?_⟩
        · rw [headF_some hp, if_pos ⟨hw, ht⟩]
          unfold longF
          simp only [hcm, Bool.false_eq_true, if_false]
          split <;> rfl
        · unfold goF
          rw [if_neg hl, es]
          simp only [nameF, W_title hw, if_true]
          have ed : l.drop w.length = 32 :: (m ++ (32 :: joinL [32] (t :: r'))) := by
            rw [pcs3 hp]; simp
          rw [ed]
          have er : restF (32 :: (m ++ (32 :: joinL [32] (t :: r')))) = some (m ++ (32 :: joinL [32] (t :: r'))) := by simp [restF]
          rw [er]
          have hj : ∃ x, joinL [32] (t :: r') = 40 :: x := by
            cases t with
            | nil => cases ht
            | cons a t =>
              simp at ht; subst ht
              cases r' with
              | nil => exact ⟨t, rfl⟩
              | cons u r' => exact ⟨_, rfl⟩
          obtain ⟨x, hx⟩ := hj
          rw [hx]
          simp only [parsP_pb fm, Option.map_none]
      · left
        rw [es, headF_some hp, if_neg hb]
theorem parsP_eq : ∀ (n : Nat) (l : List Nat), l.length < n → parsP n l = parseF n l
  | 0, _, h => by omega
  | n + 1, l, h => by
    have ih : ∀ x : List Nat, x.length < l.length → parsP n x = parseF n x := fun x hx => parsP_eq n x (by omega)
    show goF (stepP (parsP n)) (parsP n) l = goF (headF (parseF n)) (parseF n) l
    by_cases hl : l = []
    · subst hl; simp [goF]
    · rcases step_alike (n := n) hl with e | ⟨e1, e2⟩
      · exact goF_congr (e.trans (headF_congr ih)) (fun s k => headF_pos) ih
      · rw [e2]
        unfold goF
        rw [if_neg hl, ← headF_congr ih, e1]
/-- the program's reading -/
theorem parse_prog (l : List Nat) : parse l = goF (stepP parse) parse l := by
  have h1 : ∀ x : List Nat, x.length < l.length → parsP l.length x = parse x := fun x hx => by
    rw [parsP_eq _ x hx]; exact parseF_fuel _ _ _ hx (by omega)
  have : parse l = parsP (l.length + 1) l := (parsP_eq _ l (by omega)).symm
  rw [this]
  show goF (stepP (parsP l.length)) (parsP l.length) l = _
  exact goF_congr (stepP_congr h1) (fun s k => stepP_pos) h1
end DL

namespace DL
open PySem PySem.Spec PyProof.Rows L2 TL
theorem closeG_char : ∀ (l : List Nat) (k : Nat) (dp : Int) (e : Nat), 0 < dp → closeG l k dp = some e → l[e - k]? = some 41
  | [], _, _, _, _, h => by cases h
  | c :: r, k, dp, e, hd, h => by
    have hge := closeG_ge _ _ _ _ h
    rw [closeG] at h
    by_cases h40 : c = 40
    · have : ¬ dp + (if c = 40 then 1 else 0) - (if c = 41 then 1 else 0) = 0 := by simp [h40]; omega
      rw [if_neg this] at h
      have hge2 := closeG_ge _ _ _ _ h
      have := closeG_char r _ _ e (by simp [h40]; omega) h
      have e1 : e - k = (e - (k + 1)) + 1 := by omega
      rw [e1, List.getElem?_cons_succ]
      exact this
    · by_cases h41 : c = 41
      · by_cases hq : dp = 1
        · rw [if_pos (by simp [h41, hq])] at h
          cases h
          simp [h41]
        · rw [if_neg (by simp [h41]; omega)] at h
          have hge2 := closeG_ge _ _ _ _ h
          have := closeG_char r _ _ e (by simp [h41]; omega) h
          have e1 : e - k = (e - (k + 1)) + 1 := by omega
          rw [e1, List.getElem?_cons_succ]
          exact this
      · rw [if_neg (by simp [h40, h41]; omega)] at h
        have hge2 := closeG_ge _ _ _ _ h
        have := closeG_char r _ _ e (by simp [h40, h41]; omega) h
        have e1 : e - k = (e - (k + 1)) + 1 := by omega
        rw [e1, List.getElem?_cons_succ]
        exact this
theorem closeF_open {x : List Nat} {p : List Nat} {e : Nat} (h : closeF (p ++ (40 :: x)) p.length = some e) : p.length + 1 ≤ e ∧ (p ++ (40 :: x)).take (e + 1) = p ++ (40 :: (inner (p ++ (40 :: x)) p.length e ++ [41])) := by
  have hge := closeF_ge h
  unfold closeF at h
  have hd : (p ++ (40 :: x)).drop p.length = 40 :: x := by simp
  rw [hd, closeG] at h
  rw [if_neg (by simp)] at h
  have h1 := closeG_ge _ _ _ _ h
  have h2 := closeG_char _ _ _ _ (by simp) h
  refine ⟨h1.1, ?_⟩
  have hd2 : (p ++ (40 :: x)).drop (p.length + 1) = x := by
    have : p.length + 1 = p.length + 1 := rfl
    rw [← List.drop_drop, hd]; rfl
  unfold inner
  rw [hd2]
  have e1 : e + 1 = p.length + ((e - (p.length + 1)) + 1 + 1) := by omega
  rw [e1, List.take_length_add_append, List.take_succ_cons, List.take_add_one, h2]
  rfl
theorem head_text {l : List Nat} {w : List Nat} {r : List (List Nat)} (h : pcs l = w :: r) : l.take w.length = w := by
  have := join_pcs l
  rw [h] at this
  rw [← this]
  cases r with
  | nil => simp [joinL]
  | cons x xs => rw [joinL_cons2]; simp
theorem br_text {l w n t : List Nat} {r : List (List Nat)} (h : pcs l = w :: n :: t :: r) (ht : t.head? = some 40) : ∃ x, l = (w ++ ([32] ++ (n ++ [32]))) ++ (40 :: x) ∧ (w ++ ([32] ++ (n ++ [32]))).length = w.length + n.length + 2 := by
  have e := pcs3 h
  have hj : ∃ x, joinL [32] (t :: r) = 40 :: x := by
    cases t with
    | nil => cases ht
    | cons a t =>
      simp at ht; subst ht
      cases r with
      | nil => exact ⟨t, rfl⟩
      | cons u r => exact ⟨_, rfl⟩
  obtain ⟨x, hx⟩ := hj
  rw [hx] at e
  exact ⟨x, by rw [e]; simp, by simp; omega⟩
theorem inner_count {l p x : List Nat} {e : Nat} (h : l = p ++ (40 :: x)) : (inner l p.length e).count 40 + 1 ≤ l.count 40 := by
  subst h
  have hd2 : (p ++ (40 :: x)).drop (p.length + 1) = x := by
    rw [← List.drop_drop]; simp
  unfold inner
  rw [hd2]
  have h1 : (x.take (e - (p.length + 1))).count 40 ≤ x.count 40 := (List.take_sublist _ _).count_le 40
  rw [List.count_append, List.count_cons_self]
  omega
structure PhOk (p : List Stp) (l : List Nat) : Prop where
  t : phT p = l
  ok : phOk p
  n : phN p ≤ l.count 40
structure StOk (s : Stp) (l : List Nat) : Prop where
  t : stT s = l
  ok : stOk s
  n : stN s ≤ l.count 40
theorem nameF_ok {w : List Nat} {s : Stp} {k : Nat} (h : nameF w = some (s, k)) : StOk s w ∧ k = w.length := by
  unfold nameF at h
  split at h
  · cases h
    exact ⟨⟨rfl, trivial, Nat.zero_le _⟩, rfl⟩
  · cases h
theorem headF_ok {f : List Nat → Option (List Stp)} {l : List Nat} (ih : ∀ x p, x.length < l.length → f x = some p → PhOk p x) {s : Stp} {k : Nat} (h : headF f l = some (s, k)) : StOk s (l.take k) := by
  unfold headF at h
  split at h
  · rename_i w n t r hp
    split at h
    · rename_i hb
      obtain ⟨x, hx, hxl⟩ := br_text hp hb.2
      unfold longF at h
      split at h
      · rename_i e he
        split at h
        · rename_i hc
          simp only [Option.map_eq_some_iff] at h
          obtain ⟨p, hp', hs⟩ := h
          cases hs
          have hi := ih _ _ (inner_len (closeF_lt he)) hp'
          rw [← hxl] at he hi
          have he2 : closeF ((w ++ ([32] ++ (n ++ [32]))) ++ (40 :: x)) (w ++ ([32] ++ (n ++ [32]))).length = some e := by rw [← hx]; exact he
          have hco := closeF_open he2
          rw [← hx] at hco
          have hcnt := inner_count (e := e) hx
          have hv := digitsVal_lt _ n rfl (canon_iff.mp hc).2.1
          have hv2 : (10 : Nat) ^ n.length ≤ 10 ^ 9 := Nat.pow_le_pow_right (by decide) (canon_iff.mp hc).1.2
          refine ⟨?_, ⟨?_, hi.ok⟩, ?_⟩
          · rw [hco.2, stT, canon_num hc]
            have := hi.t
            unfold phT at this
            rw [this]
            simp
          · exact Nat.lt_of_lt_of_le hv (Nat.le_trans hv2 (by decide))
          · rw [hco.2, stN]
            have := hi.n
            simp only [List.count_append, List.count_cons_self]
            omega
        · cases h
      · cases h
    · obtain ⟨h1, rfl⟩ := nameF_ok h
      rw [head_text hp]; exact h1
  · rename_i w r hp
    obtain ⟨h1, rfl⟩ := nameF_ok h
    rw [head_text hp]; exact h1
  · cases h
theorem parseF_ok : ∀ (n : Nat) (l : List Nat) (p : List Stp), parseF n l = some p → PhOk p l
  | 0, _, _, h => by cases h
  | n + 1, l, p, h => by
    rw [parseF] at h
    unfold goF at h
    split at h
    · rename_i hl
      cases h
      subst hl
      exact ⟨rfl, trivial, Nat.le_refl _⟩
    · rename_i hl
      split at h
      · cases h
      · rename_i s k hh
        split at h
        · cases h
        · rename_i r hr
          simp only [Option.map_eq_some_iff] at h
          obtain ⟨p', hp', rfl⟩ := h
          have hs := headF_ok (fun x q _ hq => parseF_ok n x q hq) hh
          have hp := parseF_ok n r p' hp'
          have hcat : l.count 40 = (l.take k).count 40 + (l.drop k).count 40 := by rw [← List.count_append, List.take_append_drop]
          have hrl : r.count 40 ≤ (l.drop k).count 40 := by
            unfold restF at hr
            split at hr
            · cases hr; simp
            · split at hr
              · cases hr
              · cases hr; exact (List.drop_sublist _ _).count_le 40
          refine ⟨?_, ⟨hs.ok, hp.ok⟩, ?_⟩
          · unfold phT
            rw [phTs, hs.t]
            unfold restF at hr
            split at hr
            · rename_i hd
              cases hr
              have : phTs p' = [] := by
                cases p' with
                | nil => rfl
                | cons a b =>
                  exfalso
                  cases n with
                  | zero => cases hp'
                  | succ n => rw [parseF] at hp'; simp [goF] at hp'
              rw [this]
              show l.take k = l
              have := List.take_append_drop k l
              rw [hd, List.append_nil] at this
              exact this
            · rename_i hd
              split at hr
              · cases hr
              · rename_i hc
                cases hr
                cases hq : l.drop k with
                | nil => exact absurd hq hd
                | cons c x =>
                  rw [hq] at hc
                  simp at hc
                  obtain ⟨rfl, hx⟩ := hc
                  have ht := hp.t
                  rw [hq] at ht
                  simp at ht
                  unfold phT at ht
                  cases p' with
                  | nil => simp [phTs, joinL] at ht; exact absurd ht (hx rfl)
                  | cons a b =>
                    rw [phTs] at ht ⊢
                    rw [joinL_cons2, ht]
                    have := List.take_append_drop k l
                    rw [hq] at this
                    exact this
          · rw [phN]
            have := hs.n
            have := hp.n
            omega
theorem parse_ok {l : List Nat} {p : List Stp} (h : parse l = some p) : PhOk p l := parseF_ok _ _ _ h
/-- an effect that was read is told as the text -/
theorem effF_ok {l : List Nat} {n : Int} {gs : List Int} (h : effF l = some (n, gs)) : effT n gs = l ∧ isEff n gs = true ∧ leastOf n gs = (n, gs) ∧ gs.length ≤ l.length + 1 ∧ n < 2 ^ 100 := by
  unfold effF at h
  split at h
  · rename_i p q r hp
    split at h
    · rename_i hc
      cases h
      obtain ⟨h1, h2, h3, h4, h5⟩ := hc
      refine ⟨?_, h4, h5, ?_, ?_⟩
      · unfold effT
        have : ((r.map valL).map fun g => numL g.toNat) = r := by
          rw [List.map_map]
          conv => rhs; rw [← List.map_id r]
          apply List.map_congr_left
          intro x hx
          have hx' := List.all_eq_true.mp h3 x hx
          simp only [Function.comp_def, valL_nat, canon_num hx', id]
        rw [this, valL_nat, canon_num h2]
        have := join_pcs l
        rw [hp, h1] at this
        exact this
      · have := pcs_len l
        rw [hp] at this
        simp at this ⊢
        omega
      · have := valL_lt (canon_iff.mp h2).1.2 (canon_iff.mp h2).2.1
        omega
    · cases h
  · cases h
end DL

namespace DL
open PySem PySem.Spec PyProof.Rows L2 TL
/-! ### the law's coin -/
theorem x_I {C : Int → Int → Prop} {g : Int → Int → Int} {i j : Int} {Q : D → Prop} (hC : C i j) (h : Q (.int (g i j))) : rdI C g (.int i) (.int j) Q := ⟨hC, h⟩
def Pu (B : Nat) (p : List D) : Prop := ∃ a b c : Int, p = [.int a, .int b, .int c] ∧ 0 ≤ b ∧ b ≤ 10 ^ 25 ∧ 0 ≤ c ∧ c + B ≤ 10 ^ 9
theorem Pu.mono {B B' : Nat} {p : List D} (h : Pu B p) (hb : B' ≤ B) : Pu B' p := by
  obtain ⟨a, b, c, h1, h2, h3, h4, h5⟩ := h
  exact ⟨a, b, c, h1, h2, h3, h4, by omega⟩
def sp_coin : SpdP := fun pds ds Q => ∃ (B : Nat) (m : Int), Pu (B + 1) pds ∧ ds = [.int m] ∧ 0 < m ∧ m < 2 ^ 29 ∧ ∀ (r : Int) pds', 0 ≤ r → r < m → Pu B pds' → Q (.int r) pds'
theorem bits_le {i : Int} (h : i.natAbs < 2 ^ 120) : (Builtin.Int.intBits i : Int) ≤ 120 := by
  unfold PySem.Builtin.Int.intBits
  split
  · simp
  · rename_i hz
    have hz' : i.natAbs ≠ 0 := by simpa using hz
    have := (Nat.log2_lt hz').mpr h
    omega
theorem pow_ok {i : Int} {k : Int} (h : i.natAbs < 2 ^ 120) (hk : 0 ≤ k) (hk2 : k ≤ 100) : CPowW i k := by
  refine ⟨hk, ?_⟩
  have h1 := bits_le h
  have h2 : (0 : Int) ≤ (Builtin.Int.intBits i : Int) := by omega
  have : (Builtin.Int.intBits i : Int) * k ≤ 120 * 100 := Int.mul_le_mul h1 hk2 hk (by omega)
  omega
/-- what a comprehension tells that throws coins; how many turns are left is known -/
theorem lc_relK {i : Nat} {te : TEd} {Q : List D → En → Prop} {R : D → Prop} (I : Nat → En → Prop) :
    ∀ (ds acc : List D) (m : En), I ds.length m → (∀ d ∈ ds, ∀ k n, I (k + 1) n → ∀ Q' : D → En → Prop, (∀ y n', R y → I k (n'.set i Sl.non) → Q' y n') → te (n.set i (Sl.val d)) Q') → acc.length + ds.length ≤ sizeLine → (∀ y ∈ acc, R y) →
      (∀ ys n', ys.length = acc.length + ds.length → (∀ y ∈ ys, R y) → I 0 n' → Q ys (n'.set i Sl.non)) → lcL (gdName i) dYes te [i] Q ds acc m
  | [], acc, m, hI, _, _, ha, h => by rw [e_lcL0]; simp only [e_wipe1, e_wipe0]; exact h acc m (by simp) ha hI
  | d :: ds, acc, m, hI, h, hs, ha, q => by
    rw [e_lcL1]
    simp only [e_gname, e_yes, if_true]
    refine h d (by simp) ds.length m hI _ fun y n' hy hn => ⟨by simp at hs; omega, ?_⟩
    simp only [e_wipe1, e_wipe0]
    refine lc_relK I ds (acc ++ [y]) _ hn (fun d' hd => h d' (by simp [hd])) (by simp at hs ⊢; omega) ?_ fun ys n2 h1 h2 h3 => q ys n2 (by simp at h1 ⊢; omega) h2 h3
    intro z hz
    simp at hz
    rcases hz with hz | rfl
    · exact ha z hz
    · exact hy
/-- texts that are like this -/
def TxD (P : List Nat → Prop) (d : D) : Prop := ∃ l, d = .str (mkS l) ∧ P l
theorem texts_of {P : List Nat → Prop} : ∀ {ys : List D}, (∀ y ∈ ys, TxD P y) → ∃ xs : List (List Nat), ys = (xs.map fun l => PyData.str (mkS l)) ∧ xs.length = ys.length ∧ ∀ l ∈ xs, P l
  | [], _ => ⟨[], rfl, rfl, fun _ h => by cases h⟩
  | y :: ys, h => by
    obtain ⟨l, rfl, hl⟩ := h y (by simp)
    obtain ⟨xs, h1, h2, h3⟩ := texts_of (ys := ys) fun z hz => h z (by simp [hz])
    refine ⟨l :: xs, by rw [h1]; rfl, by simp [h2], ?_⟩
    intro z hz
    rcases List.mem_cons.mp hz with rfl | hz
    · exact hl
    · exact h3 z hz
/-- texts of so many signs, without a bracket -/
def Tx (k : Nat) (l : List Nat) : Prop := l.length ≤ k ∧ 40 ∉ l
theorem Tx.mono {k k' : Nat} {l : List Nat} (h : Tx k l) (hk : k ≤ k') : Tx k' l := ⟨by have := h.1; omega, h.2⟩
theorem Tx.app {j k : Nat} {l m : List Nat} (h : Tx j l) (h' : Tx k m) : Tx (j + k) (l ++ m) := ⟨by have := h.1; have := h'.1; simp; omega, by simp [h.2, h'.2]⟩
theorem Tx.take {k : Nat} {l : List Nat} (h : Tx k l) (n : Nat) : Tx (min n k) (l.take n) := ⟨by have := h.1; simp; omega, fun z => h.2 (List.mem_of_mem_take z)⟩
theorem Tx.drop {k : Nat} {l : List Nat} (h : Tx k l) (n : Nat) : Tx k (l.drop n) := ⟨by have := h.1; simp; omega, fun z => h.2 (List.mem_of_mem_drop z)⟩
theorem joinL_nil_len : ∀ (xs : List (List Nat)) (k : Nat), (∀ x ∈ xs, Tx k x) → Tx (xs.length * k) (joinL [] xs)
  | [], k, _ => ⟨by simp [joinL], by simp [joinL]⟩
  | [x], k, h => by have := h x (by simp); simpa [joinL] using this
  | x :: y :: r, k, h => by
    have h1 := h x (by simp)
    have h2 := joinL_nil_len (y :: r) k fun z hz => h z (by simp [hz])
    have h3 := Tx.app h1 h2
    have e : joinL [] (x :: y :: r) = x ++ joinL [] (y :: r) := rfl
    rw [e]
    refine Tx.mono h3 ?_
    simp only [List.length_cons, Nat.add_mul, Nat.one_mul]
    omega
theorem atI_mem {α : Type} {xs : List α} {i : Int} (h0 : 0 ≤ i) (h : i < xs.length) : ∃ x, x ∈ xs ∧ atI xs i = some x := by
  rw [atI_int h0]
  have hk : i.toNat < xs.length := by omega
  exact ⟨xs[i.toNat], List.getElem_mem hk, List.getElem?_eq_getElem hk⟩
theorem atI_str {l : List Nat} {i : Int} (h0 : 0 ≤ i) (h : i < l.length) : ∃ c, c ∈ l ∧ atI (mkS l).cps.toList i = some c := atI_mem (xs := l) h0 h
theorem fmod_in (i : Int) {m : Int} (h : 0 < m) : 0 ≤ i.fmod m ∧ i.fmod m < m := ⟨Int.fmod_nonneg_of_pos i h, Int.fmod_lt_of_pos i h⟩
def letters : List Nat := [97, 98, 99, 100, 101, 102, 103, 104, 105, 106, 107, 108, 109, 110, 111, 112, 113, 114, 115, 116, 117, 118, 119, 120, 121, 122]
theorem letters_ok {c : Nat} (h : c ∈ letters) : c ≠ 40 := by rintro rfl; revert h; decide
theorem s_letters : ((Str.ofString "abcdefghijklmnopqrstuvwxyz" : Str)) = mkS letters := litS _ _ rfl
theorem rngD_mem {lo : Int} {n : Nat} {d : D} (h : d ∈ rngD lo n) : ∃ k : Int, d = .int k ∧ lo ≤ k ∧ k < lo + n := by
  unfold rngD at h
  obtain ⟨k, hk, rfl⟩ := List.mem_map.mp h
  simp at hk
  exact ⟨_, rfl, by omega, by omega⟩
/-- literal texts -/
theorem lits_ok (P : List Nat → Bool) (ss : List String) (h : (ss.all fun s => P (s.toList.map Char.toNat)) = true) : ∀ d ∈ (ss.map fun s => PyData.str (Str.ofString s)), TxD (fun l => P l = true) d := by
  intro d hd
  obtain ⟨s, hs, rfl⟩ := List.mem_map.mp hd
  exact ⟨_, by rw [litS s _ rfl], List.all_eq_true.mp h s hs⟩
theorem lst_eff : ∀ (l : List Int) (n : Int), 0 ≤ n → (∀ g ∈ l, 1 ≤ g ∧ g ≤ n) → 0 ≤ (lst n l).1 ∧ (lst n l).1 ≤ n ∧ (lst n l).2.length ≤ l.length ∧ ∀ g ∈ (lst n l).2, 1 ≤ g ∧ g ≤ (lst n l).1
  | [], n, h0, _ => by simp [lst, h0]
  | g :: r, n, h0, h => by
    rw [lst]
    split
    · rename_i hc
      have hg := h g (by simp)
      have hm := foldr_max r
      have := lst_eff r (n - 1) (by omega) (fun x hx => by have := h x (by simp [hx]); have := hm.2 x hx; omega)
      refine ⟨this.1, by omega, by simp; omega, this.2.2.2⟩
    · exact ⟨h0, by simp, by simp, h⟩
theorem leastOf_eff {n : Int} {gs : List Int} (h : isEff n gs = true) : isEff (leastOf n gs).1 (leastOf n gs).2 = true ∧ (leastOf n gs).1 ≤ n ∧ (leastOf n gs).2.length ≤ gs.length := by
  simp [isEff] at h
  have := lst_eff gs.reverse n h.1 (fun g hg => h.2 g (by simpa using hg))
  unfold leastOf
  simp [isEff]
  refine ⟨⟨this.1, fun x hx => this.2.2.2 x hx⟩, this.2.1, by simpa using this.2.2.1⟩

theorem joinL_cnt (c : Nat) (S : List Nat) : ∀ (xs : List (List Nat)), (joinL S xs).count c = (xs.map (List.count c)).sum + (xs.length - 1) * S.count c
  | [] => by simp [joinL]
  | [x] => by simp [joinL]
  | x :: y :: r => by
    have := joinL_cnt c S (y :: r)
    rw [joinL_cons2, List.count_append, List.count_append, this]
    simp only [List.map_cons, List.sum_cons, List.length_cons, Nat.add_sub_cancel, Nat.add_mul, Nat.one_mul]
    omega
theorem joinL_lenS (S : List Nat) : ∀ (xs : List (List Nat)), (joinL S xs).length = (xs.map List.length).sum + (xs.length - 1) * S.length
  | [] => by simp [joinL]
  | [x] => by simp [joinL]
  | x :: y :: r => by
    have := joinL_lenS S (y :: r)
    rw [joinL_cons2, List.length_append, List.length_append, this]
    simp only [List.map_cons, List.sum_cons, List.length_cons, Nat.add_sub_cancel, Nat.add_mul, Nat.one_mul]
    omega
/-- a drawn step -/
def SG (d : Nat) (s : Stp) : Prop := DL.stN s ≤ d ∧ stOk s ∧ (stT s).length ≤ 100 * 3 ^ d ∧ (stT s).count 40 + 1 ≤ 2 ^ d
def Cc : Nat → Nat
  | 0 => 20
  | d + 1 => 20 + 4 * Cc d
theorem SG_nm {d : Nat} {w : List Nat} (h : Tx 20 w) : SG d (.nm w) := by
  have h3 : 1 ≤ 3 ^ d := Nat.one_le_pow _ _ (by decide)
  have h2 : 1 ≤ 2 ^ d := Nat.one_le_pow _ _ (by decide)
  have hc : w.count 40 = 0 := List.count_eq_zero.mpr h.2
  have hl := h.1
  refine ⟨by simp [DL.stN], trivial, by rw [stT]; omega, by rw [stT]; omega⟩
theorem SG_lg {d n : Nat} {w : List Nat} {p : List Stp} (hw : w = wUnder ∨ w = wTimes) (hn : n < 100) (hp : p.length ≤ 2) (h : ∀ s ∈ p, SG d s) : SG (d + 1) (.lg w n p) := by
  have h3 : 1 ≤ 3 ^ d := Nat.one_le_pow _ _ (by decide)
  have h2 : 1 ≤ 2 ^ d := Nat.one_le_pow _ _ (by decide)
  have hwl : w.length = 5 ∧ w.count 40 = 0 := by rcases hw with rfl | rfl <;> decide
  have hnl : (numL n).length ≤ 40 := numL_short (Nat.lt_of_lt_of_le hn (by decide))
  have hnc : (numL n).count 40 = 0 := List.count_eq_zero.mpr (numL_free (by omega))
  have hjl := joinL_lenS [32] (phTs p)
  have hjc := joinL_cnt 40 [32] (phTs p)
  have hsl : ((phTs p).map List.length).sum ≤ p.length * (100 * 3 ^ d) := by
    have := sum_le List.length (100 * 3 ^ d) (phTs p) (by
      intro x hx
      rw [phTs_map] at hx
      obtain ⟨s, hs, rfl⟩ := List.mem_map.mp hx
      exact (h s hs).2.2.1)
    rw [phTs_map] at this ⊢
    simpa using this
  have hsc : ((phTs p).map (List.count 40)).sum ≤ p.length * (2 ^ d - 1) := by
    have := sum_le (List.count 40) (2 ^ d - 1) (phTs p) (by
      intro x hx
      rw [phTs_map] at hx
      obtain ⟨s, hs, rfl⟩ := List.mem_map.mp hx
      have := (h s hs).2.2.2
      omega)
    rw [phTs_map] at this ⊢
    simpa using this
  have hll : (phTs p).length = p.length := by rw [phTs_map]; simp
  have b1 : p.length * (100 * 3 ^ d) ≤ 2 * (100 * 3 ^ d) := Nat.mul_le_mul_right _ hp
  have b2 : p.length * (2 ^ d - 1) ≤ 2 * (2 ^ d - 1) := Nat.mul_le_mul_right _ hp
  refine ⟨?_, ⟨Nat.lt_of_lt_of_le hn (by decide), phOk_all fun s hs => (h s hs).2.1⟩, ?_, ?_⟩
  · have := phN_all (k := d) fun s hs => (h s hs).1
    rw [DL.stN]; omega
  · rw [stT]
    simp only [List.length_append, List.length_cons, List.length_nil, hjl, hll, Nat.pow_succ]
    omega
  · have e1 : List.count 40 [32] = 0 := rfl
    have e2 : List.count 40 [32, 40] = 1 := rfl
    have e3 : List.count 40 [41] = 0 := rfl
    rw [e1] at hjc
    rw [stT]
    simp only [List.count_append, hjc, hwl.2, hnc, e1, e2, e3, Nat.pow_succ]
    omega

theorem cutL_sub {α : Type} (xs : List α) (lo hi : Option Int) : (cutL xs lo hi).Sublist xs := (List.take_sublist _ _).trans (List.drop_sublist _ _)
theorem spl_ne {S : List Nat} (hS : S ≠ []) : ∀ (k : Nat) (l acc : List Nat), l.length ≤ k → spl S 0 acc l ≠ [] := by
  intro k
  induction k with
  | zero => intro l acc h; have e : l = [] := List.length_eq_zero_iff.mp (by omega); subst e; rw [spl_nil]; simp
  | succ k ih =>
    intro l acc h
    cases l with
    | nil => rw [spl_nil]; simp
    | cons c r =>
      by_cases hp : pre S (c :: r) = true
      · rw [spl_hit hp]; simp
      · rw [spl_miss (by simpa using hp)]; exact ih r _ (by simp at h; omega)
theorem join_spl {S : List Nat} (hS : S ≠ []) : ∀ (k : Nat) (l acc : List Nat), l.length ≤ k → joinL S (spl S 0 acc l) = acc ++ l := by
  intro k
  induction k with
  | zero => intro l acc h; have e : l = [] := List.length_eq_zero_iff.mp (by omega); subst e; rw [spl_nil]; simp [joinL]
  | succ k ih =>
    intro l acc h
    cases l with
    | nil => rw [spl_nil]; simp [joinL]
    | cons c r =>
      simp at h
      by_cases hp : pre S (c :: r) = true
      · rw [spl_hit hp, spl_pass]
        have e := ih (r.drop (S.length - 1)) [] (by simp; omega)
        have hne := spl_ne hS k (r.drop (S.length - 1)) [] (by simp; omega)
        cases hq : spl S 0 [] (r.drop (S.length - 1)) with
        | nil => exact absurd hq hne
        | cons a b =>
          rw [hq] at e
          rw [joinL_cons2, e]
          have ht : (c :: r).take S.length = S := eq_of_beq hp
          have hd : r.drop (S.length - 1) = (c :: r).drop S.length := by
            cases S with
            | nil => exact absurd rfl hS
            | cons s S => rfl
          rw [hd, List.nil_append]
          conv => lhs; rw [← ht]
          rw [ht]
          have := List.take_append_drop S.length (c :: r)
          rw [ht] at this
          rw [this]
      · rw [spl_miss (by simpa using hp), ih r _ (by omega)]
        simp
theorem split_S (l S : List Nat) (hS : S ≠ []) (hk : (mkS S).cps.all (· < 256) = true) : Txt.split (mkS l) (mkS S) = (spl S 0 [] l).map mkS := by
  refine map_tl_inj ?_
  rw [split_spl _ _ hS (kind_ok hk)]
  simp [Function.comp_def]
open PySem.StrLaws in
theorem replL_fit {y z : List Nat} (hy : y ≠ []) (hc : z.count 40 ≤ y.count 40) (hl : z.length ≤ y.length) : ∀ (k : Nat) (l : List Nat), l.length ≤ k → (replL y z l).count 40 ≤ l.count 40 ∧ (replL y z l).length ≤ l.length := by
  intro k
  induction k with
  | zero => intro l h; have e : l = [] := List.length_eq_zero_iff.mp (by omega); subst e; rw [replL_nil]; simp
  | succ k ih =>
    intro l h
    cases l with
    | nil => rw [replL_nil]; simp
    | cons c r =>
      simp at h
      have hyl : 0 < y.length := List.length_pos_iff.mpr hy
      by_cases hp : (c :: r).take y.length = y
      · rw [replL_hit hy hp]
        have := ih ((c :: r).drop y.length) (by simp; omega)
        have e := List.take_append_drop y.length (c :: r)
        rw [hp] at e
        have e1 := congrArg (List.count 40) e
        have e2 := congrArg List.length e
        rw [List.count_append] at e1 ⊢
        rw [List.length_append] at e2 ⊢
        omega
      · rw [replL_miss hp]
        have := ih r (by omega)
        rw [List.count_cons, List.count_cons, List.length_cons, List.length_cons]
        omega
theorem sum_set {α : Type} (f : α → Nat) : ∀ (xs : List α) (i : Nat) (y : α) (h : i < xs.length), ((xs.set i y).map f).sum + f xs[i] = (xs.map f).sum + f y
  | [], i, y, h => by simp at h
  | x :: xs, 0, y, h => by simp; omega
  | x :: xs, i + 1, y, h => by
    have := sum_set f xs i y (by simpa using h)
    simp only [List.set_cons_succ, List.map_cons, List.sum_cons, List.getElem_cons_succ]
    omega
theorem sum_swap {α : Type} (f : α → Nat) (xs : List α) (i j : Nat) (hi : i < xs.length) (hj : j < xs.length) : ((((xs.set i xs[j]).set j xs[i])).map f).sum = (xs.map f).sum := by
  have h1 := sum_set f xs i xs[j] hi
  have h2 := sum_set f (xs.set i xs[j]) j xs[i] (by simpa using hj)
  have h3 : (xs.set i xs[j])[j]'(by simpa using hj) = xs[j] := by
    rw [List.getElem_set]; split <;> rfl
  rw [h3] at h2
  omega
theorem ixN_nn {n : Nat} {i : Int} (h0 : 0 ≤ i) (h1 : i < n) : ixN n i = some i.toNat := by unfold ixN; rw [if_pos h0, if_pos h1]
/-- a text that the law may read -/
def OT (t : List Nat) : Prop := t.count 40 ≤ 50 ∧ t.length ≤ 50000
theorem OT.sub {a b : List Nat} (h : a.Sublist b) (hb : OT b) : OT a := ⟨Nat.le_trans (h.count_le 40) hb.1, Nat.le_trans h.length_le hb.2⟩
end DL

/-! D-layer: the script, a list that is read alone; a def that makes a list of ints of it -/
namespace DL
open PySem PySem.Spec PyProof.Rows L2
theorem sm_seqL {K : PySem.W.Frag} {H H' : Hp} {a : Addr} {xs : List V} (e : Same H H') (h : SqL K H a xs) : SqL K H' a xs := by
  rcases h with (h | ⟨o, h⟩) | h
  · exact .inl (.inl (e _ _ h))
  · exact .inl (.inr ⟨o, e _ _ h⟩)
  · exact .inr h
def GScr (K : PySem.W.Frag) (a : Addr) (ns : List Int) : Gd := ⟨fun P _ => SqL K P a (ns.map V.int), fun h s _ => sm_seqL s h⟩
section
variable {X : Cx} {G : Gd} {pos p : Pos} {e b : Expr} {de db : TEd} {a : Addr} {ns : List Int}
def dLenR (i : Nat) (a : Addr) (ns : List Int) : TEd := fun n Q => n[i]? = some (Sl.raw (.ref a)) ∧ Q (.int (ns.length : Nat)) n
theorem pd_lenR (i : Nat) {y : Str} {p1 : Pos} (hm : X.mg "len" = none) (hN : X.N[i]? = some y := by rfl) (hv : Vis X.env.scope y := by first | exact Or.inl rfl | exact Or.inr (Or.inl rfl) | exact Or.inr (Or.inr rfl)) (hd : (y == ("__debug__" : Str)) = false := by decide)
    (hcd : (y == ("__classdict__" : Str)) = false := by decide) (hg : Gl X "len" := by rfl) (hs : starEach (.Name y p1 :: []) X.env = (false, eval (.Name y p1) X.env) :: starEach [] X.env := by rfl) : PEd X (GScr X.K a ns) (.Call (.Name "len" p) [.Name y p1] [] pos) (dLenR i a ns) := by
  refine ⟨_, pe_callB call_lenAll hg hm PySem.boot_len (pa_cons (pe_var hN hv hd hcd) pa_nil hs) (by decide) (by decide) hs rfl, ?_⟩
  intro P F H σ n Qd Q I g h q
  obtain ⟨h1, h2⟩ := h
  have g' : SqL X.K P a (ns.map V.int) := g
  refine ⟨_, I.rw i _ h1, .inl ⟨_, _, rfl, .inl (sm_seqL I.pf g'), ?_⟩⟩
  rw [List.length_map]
  exact q _ n _ F H h2 I (Gr.refl P F) (.int _)
def dIxR (i : Nat) (a : Addr) (ns : List Int) (db : TEd) : TEd := fun n Q => n[i]? = some (Sl.raw (.ref a)) ∧ db n fun d n1 => ∃ k z : Int, d = .int k ∧ atI ns k = some z ∧ Q (.int z) n1
theorem pd_ixR (i : Nat) {x : Str} {p : Pos} (hb : PEd X (GScr X.K a ns) b db) (hs : PlainIx b := by exact fun _ _ => rfl) (hN : X.N[i]? = some x := by rfl) (hv : Vis X.env.scope x := by first | exact Or.inl rfl | exact Or.inr (Or.inl rfl) | exact Or.inr (Or.inr rfl)) (hd : (x == ("__debug__" : Str)) = false := by decide)
    (hcd : (x == ("__classdict__" : Str)) = false := by decide) : PEd X (GScr X.K a ns) (.Subscript (.Name x p) b pos) (dIxR i a ns db) := by
  obtain ⟨u, h3, h4⟩ := hb
  refine ⟨_, pe_ix ix_seq (pe_var hN hv hd hcd) h3 hs, ?_⟩
  intro P F H σ n Qd Q I g h q
  obtain ⟨h1, h2⟩ := h
  refine ⟨_, I.rw i _ h1, h4 P F H σ n _ _ I g h2 fun y n1 w F1 H1 h5 I1 g1 r2 => ?_⟩
  obtain ⟨k, z, rfl, hz, h5⟩ := h5
  cases r2
  have g' : SqL X.K P a (ns.map V.int) := g
  have hz' : atI (ns.map V.int) k = some (.int z) := by
    unfold atI at hz ⊢
    rw [List.length_map]
    cases e : ixN ns.length k with
    | none => rw [e] at hz; cases hz
    | some m =>
      rw [e] at hz
      show (ns.map V.int)[m]? = _
      rw [List.getElem?_map]
      have hz2 : ns[m]? = some z := hz
      rw [hz2]; rfl
  exact .inl ⟨_, _, _, _, rfl, rfl, sm_seqL I1.pf g', hz', q _ n1 _ F1 H1 h5 I1 g1 (.int z)⟩
/-- the promise of a def of the script and a place: a new list of ints -/
def spN (K : PySem.W.Frag) (ns : List Int) (sd : Int → (List Int → Prop) → Prop) : Sp := fun vs H Q _ => ∃ (a : Addr) (i : Int) (Qd : List Int → Prop), vs = [.ref a, .int i] ∧ SqL K H a (ns.map V.int) ∧ sd i Qd ∧
  ∀ zs b H', Qd zs → Same H H' → H b = none → H' b = some (.lst (zs.map V.int)) → Q (.ref b) H'
theorem rpa_ints {K : PySem.W.Frag} {F : Hp} : ∀ zs : List Int, RpA K F (zs.map V.int) (iL zs)
  | [] => .nil
  | z :: zs => .cons (.int z) (rpa_ints zs)
theorem rpa_back {K : PySem.W.Frag} {F : Hp} : ∀ {vs : List V} {zs : List Int}, RpA K F vs (iL zs) → vs = zs.map V.int
  | [], [], _ => rfl
  | _ :: _, [], h => by cases h
  | [], _ :: _, h => by cases h
  | v :: vs, z :: zs, h => by
    cases h with
    | cons h1 h2 => cases h1; rw [rpa_back h2]; rfl
def dCallR (i : Nat) (a : Addr) (sd : Int → (List Int → Prop) → Prop) (de : TEd) : TAd := fun n Q => n[i]? = some (Sl.raw (.ref a)) ∧ de n fun d n1 => ∃ j : Int, d = .int j ∧ sd j fun zs => Q (iL zs) n1
theorem pn_callR (i : Nat) {sd : Int → (List Int → Prop) → Prop} {nm x : Str} {k : Nat} {ps : List Str} {p1 : Pos} (c : Cal X.prog X.w X.K X.mg X.base CX0 nm k ps (spN X.K ns sd)) (hr : Room k X.A) (he : PEd X (GScr X.K a ns) e de) (hN : X.N[i]? = some x := by rfl) (hv : Vis X.env.scope x := by first | exact Or.inl rfl | exact Or.inr (Or.inl rfl) | exact Or.inr (Or.inr rfl)) (hd : (x == ("__debug__" : Str)) = false := by decide)
    (hcd : (x == ("__classdict__" : Str)) = false := by decide) (hg : Gl X nm := by rfl) (hdb : (nm == ("__debug__" : Str)) = false := by decide)
    (hs1 : starEach (.Name x p1 :: e :: []) X.env = (false, eval (.Name x p1) X.env) :: starEach (e :: []) X.env := by rfl) (hs2 : starEach (e :: []) X.env = (false, eval e X.env) :: starEach [] X.env := by rfl) (hpl : (backTo pos (starEach (e :: []) X.env)).any (·.1) = false := by rfl) :
    PNd X (GScr X.K a ns) (.Call (.Name nm p) [.Name x p1, e] [] pos) (dCallR i a sd de) := by
  obtain ⟨f, fd, F, gm, kp, hb⟩ := c.ex
  obtain ⟨t, a1, b1⟩ := he
  refine ⟨_, pe_call (E := E0) F hr hg gm kp hb .nil pass0 (pa_cons (pe_var hN hv hd hcd) (pa_cons a1 pa_nil hs2) hs1) hdb hs1 hpl, ?_⟩
  intro P F H σ n Qd Q I g h q
  obtain ⟨h1, h2⟩ := h
  refine ⟨_, I.rw i _ h1, b1 P F H σ n _ _ I g h2 fun d n1 w F1 H1 h5 I1 g1 r2 => ?_⟩
  obtain ⟨j, rfl, h5⟩ := h5
  cases r2
  have g' : SqL X.K P a (ns.map V.int) := g
  refine ⟨a, j, _, rfl, sm_seqL I1.pf g', h5, fun zs b H' hz s hb' hl => ?_⟩
  have fr : ∀ {Z : Hp}, Same Z H1 → Z b = none := fun {Z} hZ => by
    cases e : Z b with
    | none => rfl
    | some o => rw [hZ _ _ e] at hb'; cases hb'
  refine q (iL zs) n1 b _ F1 H' hz (I1.grow (Gr.refl H1 F1) s (I1.ff.trans s)) g1 hl (rpa_ints zs) (fr I1.ff) (fr I1.pf) fun m t ds e1 e2 => ?_
  obtain ⟨A, y1, ⟨vs, y2, _⟩, _⟩ := I1.ow m t ds e1
  rw [e2] at y1
  cases y1
  rw [hb'] at y2
  cases y2
end
theorem IA.startR {K : PySem.W.Frag} {H : Hp} {N : List Str} {v : V} {vs : List V} {ds : List D} (r : RpA K (fun _ => none) vs ds) :
    IA K H (fun _ => none) H (L2.start N (v :: vs)) (startN N (Sl.raw v :: ds.map Sl.val)) where
  pf := Same.refl H
  ff := fun b u q => by cases q
  vl := fun i d e => by
    rcases startN_get e with z | z
    · cases i with
      | zero => cases z
      | succ i =>
        rw [List.getElem?_cons_succ, List.getElem?_map] at z
        cases y : ds[i]? with
        | none => rw [y] at z; cases z
        | some d' =>
          rw [y] at z
          cases z
          obtain ⟨u, h1, h2⟩ := RpA.get r y
          exact ⟨u, start_get (by rw [List.getElem?_cons_succ]; exact h1), h2⟩
    · cases z
  ow := fun i t d e => by
    rcases startN_get e with z | z
    · cases i with
      | zero => cases z
      | succ i =>
        rw [List.getElem?_cons_succ, List.getElem?_map] at z
        cases y : ds[i]? with
        | none => rw [y] at z; cases z
        | some d' => rw [y] at z; cases z
    · cases z
  dj := fun i j t u d e A h1 _ _ _ => by
    rcases startN_get h1 with z | z
    · cases i with
      | zero => cases z
      | succ i =>
        rw [List.getElem?_cons_succ, List.getElem?_map] at z
        cases y : ds[i]? with
        | none => rw [y] at z; cases z
        | some d' => rw [y] at z; cases z
    · cases z
  ln := by rw [start_len, startN_len, List.length_cons, List.length_cons, List.length_map, RpA.length r]
  rw := fun i u e => by
    rcases startN_get e with z | z
    · cases i with
      | zero => cases z; exact start_get rfl
      | succ i =>
        rw [List.getElem?_cons_succ, List.getElem?_map] at z
        cases y : ds[i]? with
        | none => rw [y] at z; cases z
        | some d' => rw [y] at z; cases z
    · cases z
section
variable {P : Program} {w : World} {K : PySem.W.Frag} {mg : Str → Option Value} {base : Heap}
theorem fun_dN {x qual : Str} {st : Stmt} {f : Addr} {fd : FuncData} {N ps : List Str} {k : Nat} {ns : List Int} {sd : Int → (List Int → Prop) → Prop} {td : Addr → TSd} (F : Fun K x qual st f fd) (S : FnScope N ps (defScope st)) (gm : mg x = some (.ref f)) (hb : Binds K fd ps []) (hp : ps.length = 2)
    (body : ∀ (a : Addr) (cdv : Value) (A : Around) (outer : List Env) (s : Shared) (H : Hp) (E : XK), Room k (A.deeper (envOfC qual (defScope st) s.heap.objs.size f cdv)) → PSsd (cxOf CX0 P w K mg base N qual (defScope st) f cdv A outer s H E).nox (GScr K a ns) (defBody st) (td a))
    (law : ∀ (a : Addr) (i : Int) (Qd : List Int → Prop), sd i Qd → td a { nx := fun _ => False, rt := fun d _ => ∃ zs, d = .list (iL zs) ∧ Qd zs } (startN N [Sl.raw (.ref a), Sl.val (.int i)])) : Cal P w K mg base CX0 x (k + 1) ps (spN K ns sd) := by
  refine ⟨f, fd, F.ok S (fun vs H Q E h => ?_) (fun cdv A outer s H vs Q E hr h => ?_), gm, F.kp, hb⟩
  · obtain ⟨a, i, Qd, rfl, _⟩ := h
    rw [hp]; rfl
  · obtain ⟨a, i, Qd, rfl, hS, hs, q⟩ := h
    obtain ⟨t, a1, b⟩ := body a cdv A outer s H E hr
    refine ⟨t, a1, ?_⟩
    refine b H (fun _ => none) H _ _ _ _ (IA.startR (ds := [.int i]) (.cons (.int i) .nil)) hS (law a i Qd hs) ⟨fun _ _ _ _ z => z.elim, fun d n' σ' v F2 H2 h1 I g r2 => ?_, fun _ _ _ _ z => z.elim, fun _ _ _ _ z => z.elim⟩
    obtain ⟨zs, rfl, hz⟩ := h1
    cases r2 with
    | lst e1 e2 =>
      rename_i c vs'
      have e3 := rpa_back e2
      subst e3
      refine q zs c H2 hz I.pf ?_ (I.ff _ _ e1)
      cases e : H c with
      | none => rfl
      | some o => exact absurd rfl (g.n c (by rw [e]; simp) (by rw [e1]; simp))
/-- the law's own promise -/
def spLaw (K : PySem.W.Frag) : Sp := fun vs H Q _ => ∃ (a : Addr) (ns : List Int), vs = [.ref a] ∧ ns.length ≤ 100 ∧ SqL K H a (ns.map V.int) ∧ ∀ H', Q (.bl true) H'
theorem fun_dLaw {x qual : Str} {st : Stmt} {f : Addr} {fd : FuncData} {N : List Str} {p : Str} {k : Nat} {td : Addr → List Int → TSd} (F : Fun K x qual st f fd) (S : FnScope N [p] (defScope st))
    (body : ∀ (a : Addr) (ns : List Int) (cdv : Value) (A : Around) (outer : List Env) (s : Shared) (H : Hp) (E : XK), Room k (A.deeper (envOfC qual (defScope st) s.heap.objs.size f cdv)) → PSsd (cxOf CX0 P w K mg base N qual (defScope st) f cdv A outer s H E).nox (GScr K a ns) (defBody st) (td a ns))
    (law : ∀ (a : Addr) (ns : List Int), ns.length ≤ 100 → td a ns { nx := fun _ => False, rt := fun d _ => d = .bool true } (startN N [Sl.raw (.ref a)])) : FnOk P w K mg base CX0 (k + 1) f fd [p] (spLaw K) := by
  refine F.ok S (fun vs H Q E h => ?_) (fun cdv A outer s H vs Q E hr h => ?_)
  · obtain ⟨a, ns, rfl, _⟩ := h
    rfl
  · obtain ⟨a, ns, rfl, hl, hS, q⟩ := h
    obtain ⟨t, a1, b⟩ := body a ns cdv A outer s H E hr
    refine ⟨t, a1, ?_⟩
    refine b H (fun _ => none) H _ _ _ _ (IA.startR (ds := []) .nil) hS (law a ns hl) ⟨fun _ _ _ _ z => z.elim, fun d n' σ' v F2 H2 h1 I g r2 => ?_, fun _ _ _ _ z => z.elim, fun _ _ _ _ z => z.elim⟩
    subst h1
    cases r2
    exact q H2
end
end DL

namespace K55
open PySem PySem.Spec PyProof.Rows L2 DL
def topS (i : Nat) : Stmt := PySem.Challenge.pw_pileshifts_k55_phrases_that_are_none.main.body.getD i (.Pass ⟨0, 0, 0, 0⟩)
structure Mgs (K : PySem.W.Frag) (mg : Str → Option Value) (ea : Str → Addr) : Prop where
  m_len : mg "len" = none
  m_max : mg "max" = none
  m_min : mg "min" = none
  m_abs : mg "abs" = none
  m_int : mg "int" = none
  m_str : mg "str" = none
  m_all : mg "all" = none
  m_list : mg "list" = none
  m_isinstance : mg "isinstance" = none
  m_range : mg "range" = none
  m_set : mg "set" = none
  m_tuple : mg "tuple" = none
  g_DIGITS : ∃ t, mg "DIGITS" = some (.str "0123456789" t)
  g_LETTERS : ∃ t, mg "LETTERS" = some (.str "abcdefghijklmnopqrstuvwxyz" t)
  g_MOST_DIGITS : ∃ t, mg "MOST_DIGITS" = some (.int 9 t)
  gC_Unreadable : mg "Unreadable" = some (.ref (ea "Unreadable"))
  gC_InvalidEffect : mg "InvalidEffect" = some (.ref (ea "InvalidEffect"))
  gC_InvalidStep : mg "InvalidStep" = some (.ref (ea "InvalidStep"))
  gC_UnknownWord : mg "UnknownWord" = some (.ref (ea "UnknownWord"))
  gC_PileError : mg "PileError" = some (.ref (ea "PileError"))
  exm_Unreadable_PileError : PySem.W.exmOne K (.ref (ea "Unreadable")) (.ref (ea "PileError")) = some true
  cl_Unreadable : (PySem.W.clsIn K (ea "Unreadable")).isSome = true
  ec_Unreadable : ExcC K (ea "Unreadable")
  xf_Unreadable : XfC K (ea "Unreadable")
  nv_Unreadable : PySem.W.findIn K (.ref (ea "Unreadable")) "value" = some none
  ki_Unreadable : PySem.W.kitOne K (.ref (ea "Unreadable")) (.ref (ea "Unreadable")) = some true
  ki_InvalidEffect_InvalidStep_UnknownWord : PySem.W.kitAny K (.ref (ea "Unreadable")) [.ref (ea "InvalidEffect"), .ref (ea "InvalidStep"), .ref (ea "UnknownWord")] = some false
/-! ### is_effect -/
abbrev st_is_effect : Stmt := topS 7
abbrev nn_is_effect : List Str := ["one", "needs", "gives", "spot"]
theorem sc_is_effect : FnScope nn_is_effect ["one"] (defScope st_is_effect) := ⟨rfl, rfl, rfl, by decide +kernel, rfl, by decide +kernel, by decide +kernel⟩
def d_is_effect : TSd :=
    (dSeq (dAsg (dVar 0) (gdTup 2 (gdCons (gdName 1) (gdCons (gdName 2) gdNil))))
    (dRet (dAndV (dOp (rdB0 fun i j => decide (j ≤ i)) (dVar 1) (dC (.int 0))) (dCB rdAll (dCons (dFrz (dLc (dItL (dVar 2)) (gdName 3) dYes (dChain (rdB0 fun i j => decide (i ≤ j)) (rdB0 fun i j => decide (i ≤ j)) (dC (.int 1)) (dVar 3) (dVar 1)) [3])) dNil)))))
theorem bd_is_effect {P : Program} {w : World} {K : PySem.W.Frag} {mg : Str → Option Value} {base : Heap} {ea : Str → Addr} {k : Nat} {f : Addr} (T : Mgs K mg ea) (cdv : Value) (A : Around) (outer : List Env) (s : Shared) (H : Hp) (E : XK) (hr : Room k (A.deeper (envOfC "is_effect" (defScope st_is_effect) s.heap.objs.size f cdv))) :
    PSsd (cxOf CX0 P w K mg base nn_is_effect "is_effect" (defScope st_is_effect) f cdv A outer s H E).nox G0 (defBody st_is_effect) (d_is_effect) :=
  (psd_cons (psd_asg (pdv 0) (pgd_tup rfl (pgsd_cons (pgd_name 1 sc_is_effect.nd) (pgsd_cons (pgd_name 2 sc_is_effect.nd) pgsd_nil))))
      (psd_one (psd_ret (pd_and (pd_ge (pdv 1) pd_int) (pd_one (pd_all T.m_all rfl (PNd.frz (pn_lc [("spot", 3)] rfl sc_is_effect.nd (pid_list (pdv 2)) (blkOk_by (N := nn_is_effect) (sc := defScope st_is_effect) (by decide +kernel)) (fun _ _ _ _ _ => (pgd_name 3 sc_is_effect.nd)) (fun _ _ _ _ _ => ptsd_nil) (fun _ _ _ _ _ => (pd_chain op_le op_le snd_B0 snd_B0 pd_int (pdv 3) (pdv 1)))))))))))
/-! ### least_of -/
abbrev st_least_of : Stmt := topS 8
abbrev nn_least_of : List Str := ["needs", "gives", "tops", "spot", "size"]
theorem sc_least_of : FnScope nn_least_of ["needs", "gives"] (defScope st_least_of) := ⟨rfl, rfl, rfl, by decide +kernel, rfl, by decide +kernel, by decide +kernel⟩
def d_least_of : TSd :=
    (dSeq (dSetO 2 (dNewL (dCons (dC (.int 0)) dNil)))
    (dSeq (dFor (dItL (dVar 1)) (gdName 3)
    ((dApp 2 (dCB rdMax2 (dCons (dIxN 2 (dUn rdNeg (dC (.int 1)))) (dCons (dVar 3) dNil))))))
    (dSeq (dSet 4 (dLenN 1))
    (dSeq (dWhile (dAnd (dTest (dOp (rdB0 fun i j => decide (j < i)) (dVar 4) (dC (.int 0)))) (dAnd (dTest (dOp rdEq (dIxN 1 (dOp (rdI0 fun i j => i - j) (dVar 4) (dC (.int 1)))) (dVar 0))) (dTest (dOp (rdB0 fun i j => decide (i < j)) (dIxN 2 (dOp (rdI0 fun i j => i - j) (dVar 4) (dC (.int 1)))) (dVar 0)))))
    ((dPar 4 0 (dOp (rdI0 fun i j => i - j) (dVar 4) (dC (.int 1))) (dOp (rdI0 fun i j => i - j) (dVar 0) (dC (.int 1))))))
    (dRet (dTup (dCons (dVar 0) (dCons (dFrz (dListOf (dSl (dVar 1) dNoP (dPart (dVar 4))))) dNil))))))))
theorem bd_least_of {P : Program} {w : World} {K : PySem.W.Frag} {mg : Str → Option Value} {base : Heap} {ea : Str → Addr} {k : Nat} {f : Addr} (T : Mgs K mg ea) (cdv : Value) (A : Around) (outer : List Env) (s : Shared) (H : Hp) (E : XK) (hr : Room k (A.deeper (envOfC "least_of" (defScope st_least_of) s.heap.objs.size f cdv))) :
    PSsd (cxOf CX0 P w K mg base nn_least_of "least_of" (defScope st_least_of) f cdv A outer s H E).nox G0 (defBody st_least_of) (d_least_of) :=
  (psd_cons (psd_setO 2 sc_least_of.nd (pn_lst (pad_cons pd_int pad_nil)))
      (psd_cons (psd_for PassesOwn.never rfl (pid_list (pdv 1)) (pgd_name 3 sc_least_of.nd) (psd_one (psd_app 2 (pd_max2 T.m_max rfl (pad_cons (pd_ixN 2 (pd_neg pd_int)) (pad_cons (pdv 3) pad_nil))))))
      (psd_cons (psd_set 4 sc_least_of.nd (pd_lenN 1 T.m_len))
      (psd_cons (psd_while PassesOwn.never (PWd.pt (pdw_and (pdt_gt (pdv 4) pd_int) (pdw_and (pdt_eq hr (pd_ixN 1 (pd_sub (pdv 4) pd_int)) (pdv 0)) (pdw_and1 (pdt_lt (pd_ixN 2 (pd_sub (pdv 4) pd_int)) (pdv 0)))))) (psd_one (psd_par 4 0 rfl sc_least_of.nd (pd_sub (pdv 4) pd_int) (pd_sub (pdv 0) pd_int))))
      (psd_one (psd_ret (pd_tup (pad_cons (pdv 0) (pad_cons (PNd.frz (pn_listOf T.m_list (pd_slice (pdv 1) pod_none (pod_some (pdv 4))))) pad_nil)))))))))
/-! ### checked -/
abbrev st_checked : Stmt := topS 9
abbrev nn_checked : List Str := ["one", "needs", "gives"]
theorem sc_checked : FnScope nn_checked ["one"] (defScope st_checked) := ⟨rfl, rfl, rfl, by decide +kernel, rfl, by decide +kernel, by decide +kernel⟩
def d_checked (least_of : Spd0) (is_effect : Spd0) : TSd :=
    (dSeq (dAsg (dVar 0) (gdTup 2 (gdCons (gdName 1) (gdCons (gdName 2) gdNil))))
    (dSeq (dIfS (dNot (dTru (dCall is_effect (dCons (dVar 0) dNil))))
    (dNever)
    (dNext))
    (dRet (dCall least_of (dCons (dVar 1) (dCons (dVar 2) dNil))))))
theorem bd_checked {P : Program} {w : World} {K : PySem.W.Frag} {mg : Str → Option Value} {base : Heap} {ea : Str → Addr} {k : Nat} {f : Addr} {least_of : Spd0} {is_effect : Spd0} (T : Mgs K mg ea) (c_least_of : Cal0 P w K mg base "least_of" k ["needs", "gives"] least_of) (c_is_effect : Cal0 P w K mg base "is_effect" k ["one"] is_effect) (cdv : Value) (A : Around) (outer : List Env) (s : Shared) (H : Hp) (E : XK) (hr : Room k (A.deeper (envOfC "checked" (defScope st_checked) s.heap.objs.size f cdv))) :
    PSsd (cxOf CX0 P w K mg base nn_checked "checked" (defScope st_checked) f cdv A outer s H E).nox G0 (defBody st_checked) (d_checked least_of is_effect) :=
  (psd_cons (psd_asg (pdv 0) (pgd_tup rfl (pgsd_cons (pgd_name 1 sc_checked.nd) (pgsd_cons (pgd_name 2 sc_checked.nd) pgsd_nil))))
      (psd_cons (psd_if (pdt_not (pdt_tru (pd_call c_is_effect hr (pad_cons (pdv 0) pad_nil)))) (psd_one psd_never) psd_nil)
      (psd_one (psd_ret (pd_call c_least_of hr (pad_cons (pdv 1) (pad_cons (pdv 2) pad_nil)))))))
/-! ### least -/
abbrev st_least : Stmt := topS 10
abbrev nn_least : List Str := ["needs", "gives"]
theorem sc_least : FnScope nn_least ["needs", "gives"] (defScope st_least) := ⟨rfl, rfl, rfl, by decide +kernel, rfl, by decide +kernel, by decide +kernel⟩
def d_least (checked : Spd0) : TSd :=
    (dRet (dCall checked (dCons (dTup (dCons (dVar 0) (dCons (dVar 1) dNil))) dNil)))
theorem bd_least {P : Program} {w : World} {K : PySem.W.Frag} {mg : Str → Option Value} {base : Heap} {ea : Str → Addr} {k : Nat} {f : Addr} {checked : Spd0} (T : Mgs K mg ea) (c_checked : Cal0 P w K mg base "checked" k ["one"] checked) (cdv : Value) (A : Around) (outer : List Env) (s : Shared) (H : Hp) (E : XK) (hr : Room k (A.deeper (envOfC "least" (defScope st_least) s.heap.objs.size f cdv))) :
    PSsd (cxOf CX0 P w K mg base nn_least "least" (defScope st_least) f cdv A outer s H E).nox G0 (defBody st_least) (d_least checked) :=
  (psd_one (psd_ret (pd_call c_checked hr (pad_cons (pd_tup (pad_cons (pdv 0) (pad_cons (pdv 1) pad_nil))) pad_nil))))
/-! ### show_effect -/
abbrev st_show_effect : Stmt := topS 12
abbrev nn_show_effect : List Str := ["one", "needs", "gives", "place"]
theorem sc_show_effect : FnScope nn_show_effect ["one"] (defScope st_show_effect) := ⟨rfl, rfl, rfl, by decide +kernel, rfl, by decide +kernel, by decide +kernel⟩
def d_show_effect (least : Spd0) : TSd :=
    (dSeq (dAsg (dCallS least (dVar 0)) (gdTup 2 (gdCons (gdName 1) (gdCons (gdName 2) gdNil))))
    (dRet (dM1 rdJoin (dC (.str " ")) (dFrz (dNewL (dCons (dCB rdStr (dCons (dVar 1) dNil)) (dCons (dC (.str "|")) (dStar (dFrz (dLc (dItL (dVar 2)) (gdName 3) dYes (dCB rdStr (dCons (dVar 3) dNil)) [3])) dNil))))))))
theorem bd_show_effect {P : Program} {w : World} {K : PySem.W.Frag} {mg : Str → Option Value} {base : Heap} {ea : Str → Addr} {k : Nat} {f : Addr} {least : Spd0} (T : Mgs K mg ea) (c_least : Cal0 P w K mg base "least" k ["needs", "gives"] least) (cdv : Value) (A : Around) (outer : List Env) (s : Shared) (H : Hp) (E : XK) (hr : Room k (A.deeper (envOfC "show_effect" (defScope st_show_effect) s.heap.objs.size f cdv))) :
    PSsd (cxOf CX0 P w K mg base nn_show_effect "show_effect" (defScope st_show_effect) f cdv A outer s H E).nox G0 (defBody st_show_effect) (d_show_effect least) :=
  (psd_cons (psd_asg (pd_callS c_least hr (pdv 0)) (pgd_tup rfl (pgsd_cons (pgd_name 1 sc_show_effect.nd) (pgsd_cons (pgd_name 2 sc_show_effect.nd) pgsd_nil))))
      (psd_one (psd_ret (pd_join pd_str (pd_lst (pad_cons (pd_strc T.m_str (pdv 1)) (pad_cons pd_str (pad_star (PNd.frz (pn_lc [("place", 3)] rfl sc_show_effect.nd (pid_list (pdv 2)) (blkOk_by (N := nn_show_effect) (sc := defScope st_show_effect) (by decide +kernel)) (fun _ _ _ _ _ => (pgd_name 3 sc_show_effect.nd)) (fun _ _ _ _ _ => ptsd_nil) (fun _ _ _ _ _ => (pd_strc T.m_str (pdv 3))))) pad_nil))))))))
/-! ### show_step -/
abbrev st_show_step : Stmt := topS 13
abbrev nn_show_step : List Str := ["step", "word", "number", "phrase"]
theorem sc_show_step : FnScope nn_show_step ["step"] (defScope st_show_step) := ⟨rfl, rfl, rfl, by decide +kernel, rfl, by decide +kernel, by decide +kernel⟩
def d_show_step (show_phrase : Spd0) : TSd :=
    (dSeq (dIfS (dTru (dIsi "str" (dVar 0)))
    ((dRet (dVar 0)))
    (dNext))
    (dSeq (dAsg (dVar 0) (gdTup 3 (gdCons (gdName 1) (gdCons (gdName 2) (gdCons (gdName 3) gdNil)))))
    (dRet (dJoined [(dFmt (dVar 1)), (dC (.str " ")), (dFmt (dVar 2)), (dC (.str " (")), (dFmt (dCall show_phrase (dCons (dVar 3) dNil))), (dC (.str ")"))]))))
theorem bd_show_step {P : Program} {w : World} {K : PySem.W.Frag} {mg : Str → Option Value} {base : Heap} {ea : Str → Addr} {k : Nat} {f : Addr} {show_phrase : Spd0} (T : Mgs K mg ea) (c_show_phrase : Cal0 P w K mg base "show_phrase" k ["phrase"] show_phrase) (cdv : Value) (A : Around) (outer : List Env) (s : Shared) (H : Hp) (E : XK) (hr : Room k (A.deeper (envOfC "show_step" (defScope st_show_step) s.heap.objs.size f cdv))) :
    PSsd (cxOf CX0 P w K mg base nn_show_step "show_step" (defScope st_show_step) f cdv A outer s H E).nox G0 (defBody st_show_step) (d_show_step show_phrase) :=
  (psd_cons (psd_if (pdt_tru (pd_isi "str" T.m_isinstance T.m_str (pdv 0))) (psd_one (psd_ret (pdv 0))) psd_nil)
      (psd_cons (psd_asg (pdv 0) (pgd_tup rfl (pgsd_cons (pgd_name 1 sc_show_step.nd) (pgsd_cons (pgd_name 2 sc_show_step.nd) (pgsd_cons (pgd_name 3 sc_show_step.nd) pgsd_nil)))))
      (psd_one (psd_ret (pd_joined (PJd.cons (pd_fmt (pdv 1)) (PJd.cons pd_str (PJd.cons (pd_fmt (pdv 2)) (PJd.cons pd_str (PJd.cons (pd_fmt (pd_call c_show_phrase hr (pad_cons (pdv 3) pad_nil))) (PJd.cons pd_str PJd.nil)))))))))))
/-! ### show_phrase -/
abbrev st_show_phrase : Stmt := topS 14
abbrev nn_show_phrase : List Str := ["phrase", "step"]
theorem sc_show_phrase : FnScope nn_show_phrase ["phrase"] (defScope st_show_phrase) := ⟨rfl, rfl, rfl, by decide +kernel, rfl, by decide +kernel, by decide +kernel⟩
def d_show_phrase (show_step : Spd0) : TSd :=
    (dRet (dM1 rdJoin (dC (.str " ")) (dFrz (dLc (dItL (dVar 0)) (gdName 1) dYes (dCall show_step (dCons (dVar 1) dNil)) [1]))))
theorem bd_show_phrase {P : Program} {w : World} {K : PySem.W.Frag} {mg : Str → Option Value} {base : Heap} {ea : Str → Addr} {k : Nat} {f : Addr} {show_step : Spd0} (T : Mgs K mg ea) (c_show_step : Cal0 P w K mg base "show_step" k ["step"] show_step) (cdv : Value) (A : Around) (outer : List Env) (s : Shared) (H : Hp) (E : XK) (hr : Room k (A.deeper (envOfC "show_phrase" (defScope st_show_phrase) s.heap.objs.size f cdv))) :
    PSsd (cxOf CX0 P w K mg base nn_show_phrase "show_phrase" (defScope st_show_phrase) f cdv A outer s H E).nox G0 (defBody st_show_phrase) (d_show_phrase show_step) :=
  (psd_one (psd_ret (pd_join pd_str (PNd.frz (pn_lc [("step", 1)] rfl sc_show_phrase.nd (pid_list (pdv 0)) (blkOk_by (N := nn_show_phrase) (sc := defScope st_show_phrase) (by decide +kernel)) (fun _ _ _ _ _ => (pgd_name 1 sc_show_phrase.nd)) (fun _ _ _ _ _ => ptsd_nil) (fun _ _ _ _ _ => (pd_call c_show_step hr (pad_cons (pdv 1) pad_nil))))))))
/-! ### number_in -/
abbrev st_number_in : Stmt := topS 19
abbrev nn_number_in : List Str := ["text", "sign"]
theorem sc_number_in : FnScope nn_number_in ["text"] (defScope st_number_in) := ⟨rfl, rfl, rfl, by decide +kernel, rfl, by decide +kernel, by decide +kernel⟩
def d_number_in : TSd :=
    (dSeq (dIfS (dOr (dNot (dTest (dChain (rdB0 fun i j => decide (i ≤ j)) (rdB0 fun i j => decide (i ≤ j)) (dC (.int 1)) (dLenN 0) (dC (.int 9))))) (dNot (dTru (dCB rdAll (dCons (dFrz (dLc (dItS (dVar 0)) (gdName 1) dYes (dOp (rdIn false) (dVar 1) (dC (.str "0123456789"))) [1])) dNil)))))
    ((dRet (dC .none)))
    (dNext))
    (dRet (dIf (dOr (dTest (dOp rdNe (dIxN 0 (dC (.int 0))) (dC (.str "0")))) (dTest (dOp rdEq (dVar 0) (dC (.str "0"))))) (dCB rdInt (dCons (dVar 0) dNil)) (dC .none))))
theorem bd_number_in {P : Program} {w : World} {K : PySem.W.Frag} {mg : Str → Option Value} {base : Heap} {ea : Str → Addr} {k : Nat} {f : Addr} (T : Mgs K mg ea) (cdv : Value) (A : Around) (outer : List Env) (s : Shared) (H : Hp) (E : XK) (hr : Room k (A.deeper (envOfC "number_in" (defScope st_number_in) s.heap.objs.size f cdv))) :
    PSsd (cxOf CX0 P w K mg base nn_number_in "number_in" (defScope st_number_in) f cdv A outer s H E).nox G0 (defBody st_number_in) (d_number_in) :=
  (psd_cons (psd_if (PWd.pt (pdw_or (pdt_not (pdt_chain op_le op_le snd_B0 snd_B0 pd_int (pd_lenN 0 T.m_len) (pd_gint T.g_MOST_DIGITS))) (pdw_or1 (pdt_not (pdt_tru (pd_all T.m_all rfl (PNd.frz (pn_lc [("sign", 1)] rfl sc_number_in.nd (pid_str (pdv 0)) (blkOk_by (N := nn_number_in) (sc := defScope st_number_in) (by decide +kernel)) (fun _ _ _ _ _ => (pgd_name 1 sc_number_in.nd)) (fun _ _ _ _ _ => ptsd_nil) (fun _ _ _ _ _ => (pd_in hr (pdv 1) (pd_gstr T.g_DIGITS))))))))))) (psd_one (psd_ret pd_non)) psd_nil)
      (psd_one (psd_ret (pd_if (PWd.pt (pdw_or (pdt_ne hr (pd_ixN 0 pd_int) pd_str) (pdw_or1 (pdt_eq hr (pdv 0) pd_str)))) (pd_intc T.m_int (pdv 0)) pd_non))))
/-! ### effect_in -/
abbrev st_effect_in : Stmt := topS 20
abbrev nn_effect_in : List Str := ["text", "pieces", "needs", "gives", "piece"]
theorem sc_effect_in : FnScope nn_effect_in ["text"] (defScope st_effect_in) := ⟨rfl, rfl, rfl, by decide +kernel, rfl, by decide +kernel, by decide +kernel⟩
def d_effect_in (least : Spd0) (is_effect : Spd0) (number_in : Spd0) : TSd :=
    (dSeq (dSetO 1 (dSplit (dVar 0) (dC (.str " "))))
    (dSeq (dParVN 2 3 (dCall number_in (dCons (dIxN 1 (dC (.int 0))) dNil)) (dLc (dItL (dSl (dVar 1) (dPart (dC (.int 2))) dNoP)) (gdName 4) dYes (dCall number_in (dCons (dVar 4) dNil)) [4]))
    (dSeq (dIfS (dOr (dTest (dOp rdIsN (dVar 2) (dC .none))) (dOr (dTest (dOp rdNe (dSl (dVar 1) (dPart (dC (.int 1))) (dPart (dC (.int 2)))) (dFrz (dNewL (dCons (dC (.str "|")) dNil))))) (dTest (dOp (rdIn false) (dC .none) (dVar 3)))))
    ((dRet (dC .none)))
    (dNext))
    (dSeq (dIfS (dOr (dNot (dTru (dCall is_effect (dCons (dTup (dCons (dVar 2) (dCons (dVar 3) dNil))) dNil)))) (dTest (dOp rdNe (dCall least (dCons (dVar 2) (dCons (dVar 3) dNil))) (dTup (dCons (dVar 2) (dCons (dVar 3) dNil))))))
    ((dRet (dC .none)))
    (dNext))
    (dRet (dTup (dCons (dVar 2) (dCons (dVar 3) dNil))))))))
theorem bd_effect_in {P : Program} {w : World} {K : PySem.W.Frag} {mg : Str → Option Value} {base : Heap} {ea : Str → Addr} {k : Nat} {f : Addr} {least : Spd0} {is_effect : Spd0} {number_in : Spd0} (T : Mgs K mg ea) (c_least : Cal0 P w K mg base "least" k ["needs", "gives"] least) (c_is_effect : Cal0 P w K mg base "is_effect" k ["one"] is_effect) (c_number_in : Cal0 P w K mg base "number_in" k ["text"] number_in) (cdv : Value) (A : Around) (outer : List Env) (s : Shared) (H : Hp) (E : XK) (hr : Room k (A.deeper (envOfC "effect_in" (defScope st_effect_in) s.heap.objs.size f cdv))) :
    PSsd (cxOf CX0 P w K mg base nn_effect_in "effect_in" (defScope st_effect_in) f cdv A outer s H E).nox G0 (defBody st_effect_in) (d_effect_in least is_effect number_in) :=
  (psd_cons (psd_setO 1 sc_effect_in.nd (pn_split (pdv 0) pd_str))
      (psd_cons (psd_parVN 2 3 rfl sc_effect_in.nd (pd_call c_number_in hr (pad_cons (pd_ixN 1 pd_int) pad_nil)) (pn_lc [("piece", 4)] rfl sc_effect_in.nd (pid_list (pd_slice (pdv 1) (pod_some pd_int) pod_none)) (blkOk_by (N := nn_effect_in) (sc := defScope st_effect_in) (by decide +kernel)) (fun _ _ _ _ _ => (pgd_name 4 sc_effect_in.nd)) (fun _ _ _ _ _ => ptsd_nil) (fun _ _ _ _ _ => (pd_call c_number_in hr (pad_cons (pdv 4) pad_nil)))))
      (psd_cons (psd_if (PWd.pt (pdw_or (pdt_isN (pdv 2) pd_non) (pdw_or (pdt_ne hr (pd_slice (pdv 1) (pod_some pd_int) (pod_some pd_int)) (pd_lst (pad_cons pd_str pad_nil))) (pdw_or1 (pdt_in hr pd_non (pdv 3)))))) (psd_one (psd_ret pd_non)) psd_nil)
      (psd_cons (psd_if (PWd.pt (pdw_or (pdt_not (pdt_tru (pd_call c_is_effect hr (pad_cons (pd_tup (pad_cons (pdv 2) (pad_cons (pdv 3) pad_nil))) pad_nil)))) (pdw_or1 (pdt_ne hr (pd_call c_least hr (pad_cons (pdv 2) (pad_cons (pdv 3) pad_nil))) (pd_tup (pad_cons (pdv 2) (pad_cons (pdv 3) pad_nil))))))) (psd_one (psd_ret pd_non)) psd_nil)
      (psd_one (psd_ret (pd_tup (pad_cons (pdv 2) (pad_cons (pdv 3) pad_nil)))))))))
/-! ### is_title -/
abbrev st_is_title : Stmt := topS 21
abbrev nn_is_title : List Str := ["text", "sign"]
theorem sc_is_title : FnScope nn_is_title ["text"] (defScope st_is_title) := ⟨rfl, rfl, rfl, by decide +kernel, rfl, by decide +kernel, by decide +kernel⟩
def d_is_title : TSd :=
    (dRet (dAndV (dChain (rdB0 fun i j => decide (i ≤ j)) (rdB0 fun i j => decide (i ≤ j)) (dC (.int 1)) (dLenN 0) (dC (.int 8))) (dCB rdAll (dCons (dFrz (dLc (dItS (dVar 0)) (gdName 1) dYes (dOp (rdIn false) (dVar 1) (dC (.str "abcdefghijklmnopqrstuvwxyz"))) [1])) dNil))))
theorem bd_is_title {P : Program} {w : World} {K : PySem.W.Frag} {mg : Str → Option Value} {base : Heap} {ea : Str → Addr} {k : Nat} {f : Addr} (T : Mgs K mg ea) (cdv : Value) (A : Around) (outer : List Env) (s : Shared) (H : Hp) (E : XK) (hr : Room k (A.deeper (envOfC "is_title" (defScope st_is_title) s.heap.objs.size f cdv))) :
    PSsd (cxOf CX0 P w K mg base nn_is_title "is_title" (defScope st_is_title) f cdv A outer s H E).nox G0 (defBody st_is_title) (d_is_title) :=
  (psd_one (psd_ret (pd_and (pd_chain op_le op_le snd_B0 snd_B0 pd_int (pd_lenN 0 T.m_len) pd_int) (pd_one (pd_all T.m_all rfl (PNd.frz (pn_lc [("sign", 1)] rfl sc_is_title.nd (pid_str (pdv 0)) (blkOk_by (N := nn_is_title) (sc := defScope st_is_title) (by decide +kernel)) (fun _ _ _ _ _ => (pgd_name 1 sc_is_title.nd)) (fun _ _ _ _ _ => ptsd_nil) (fun _ _ _ _ _ => (pd_in hr (pdv 1) (pd_gstr T.g_LETTERS))))))))))
/-! ### closing_place -/
abbrev st_closing_place : Stmt := topS 22
abbrev nn_closing_place : List Str := ["text", "begin", "depth", "at"]
theorem sc_closing_place : FnScope nn_closing_place ["text", "begin"] (defScope st_closing_place) := ⟨rfl, rfl, rfl, by decide +kernel, rfl, by decide +kernel, by decide +kernel⟩
def d_closing_place : TSd :=
    (dSeq (dSet 2 (dC (.int 0)))
    (dSeq (dFor (dRng2 (dVar 1) (dLenN 0)) (gdName 3)
    ((dSeq (dAug 2 (rdI0 fun i j => i + j) (dOp (rdI0 fun i j => i - j) (dCB rdInt (dCons (dOp rdEq (dIxN 0 (dVar 3)) (dC (.str "("))) dNil)) (dCB rdInt (dCons (dOp rdEq (dIxN 0 (dVar 3)) (dC (.str ")"))) dNil))))
    (dIfS (dTest (dOp rdEq (dVar 2) (dC (.int 0))))
    ((dRet (dVar 3)))
    (dNext)))))
    (dRet (dC .none))))
theorem bd_closing_place {P : Program} {w : World} {K : PySem.W.Frag} {mg : Str → Option Value} {base : Heap} {ea : Str → Addr} {k : Nat} {f : Addr} (T : Mgs K mg ea) (cdv : Value) (A : Around) (outer : List Env) (s : Shared) (H : Hp) (E : XK) (hr : Room k (A.deeper (envOfC "closing_place" (defScope st_closing_place) s.heap.objs.size f cdv))) :
    PSsd (cxOf CX0 P w K mg base nn_closing_place "closing_place" (defScope st_closing_place) f cdv A outer s H E).nox G0 (defBody st_closing_place) (d_closing_place) :=
  (psd_cons (psd_set 2 sc_closing_place.nd pd_int)
      (psd_cons (psd_for PassesOwn.never rfl (pid_rng2 T.m_range (pdv 1) (pd_lenN 0 T.m_len)) (pgd_name 3 sc_closing_place.nd) (psd_cons (psd_augAdd 2 sc_closing_place.nd (pd_sub (pd_intc T.m_int (pd_eq hr (pd_ixN 0 (pdv 3)) pd_str)) (pd_intc T.m_int (pd_eq hr (pd_ixN 0 (pdv 3)) pd_str))))
      (psd_one (psd_if (pdt_eq hr (pdv 2) pd_int) (psd_one (psd_ret (pdv 3))) psd_nil))))
      (psd_one (psd_ret pd_non))))
/-! ### long_step -/
abbrev st_long_step : Stmt := topS 23
abbrev nn_long_step : List Str := ["text", "word", "space", "rest", "number", "mark", "behind", "begin", "end", "inner"]
theorem sc_long_step : FnScope nn_long_step ["text"] (defScope st_long_step) := ⟨rfl, rfl, rfl, by decide +kernel, rfl, by decide +kernel, by decide +kernel⟩
def d_long_step (number_in : Spd0) (phrase_in : Spd0) (closing_place : Spd0) : TSd :=
    (dSeq (dAsg (dM1 rdPartition (dVar 0) (dC (.str " "))) (gdTup 3 (gdCons (gdName 1) (gdCons (gdName 2) (gdCons (gdName 3) gdNil)))))
    (dSeq (dAsg (dM1 rdPartition (dVar 3) (dC (.str " ("))) (gdTup 3 (gdCons (gdName 4) (gdCons (gdName 5) (gdCons (gdName 6) gdNil)))))
    (dSeq (dSet 7 (dOp rdAdd (dOp rdAdd (dOp rdAdd (dLenN 1) (dC (.int 1))) (dLenN 4)) (dC (.int 1))))
    (dSeq (dSet 8 (dIf (dTest (dOp rdNe (dVar 5) (dC (.str "")))) (dCall closing_place (dCons (dVar 0) (dCons (dVar 7) dNil))) (dC .none)))
    (dSeq (dIfS (dOr (dTest (dOp (rdIn true) (dVar 1) (dTup (dCons (dC (.str "under")) (dCons (dC (.str "times")) dNil))))) (dOr (dTest (dOp rdIsN (dCall number_in (dCons (dVar 4) dNil)) (dC .none))) (dTest (dOp rdIsN (dVar 8) (dC .none)))))
    ((dRet (dC .none)))
    (dNext))
    (dSeq (dSet 9 (dCall phrase_in (dCons (dSl (dVar 0) (dPart (dOp rdAdd (dVar 7) (dC (.int 1)))) (dPart (dVar 8))) dNil)))
    (dRet (dIf (dTest (dOp rdIsN (dVar 9) (dC .none))) (dC .none) (dTup (dCons (dTup (dCons (dVar 1) (dCons (dCall number_in (dCons (dVar 4) dNil)) (dCons (dVar 9) dNil)))) (dCons (dOp rdAdd (dVar 8) (dC (.int 1))) dNil)))))))))))
theorem bd_long_step {P : Program} {w : World} {K : PySem.W.Frag} {mg : Str → Option Value} {base : Heap} {ea : Str → Addr} {k : Nat} {f : Addr} {number_in : Spd0} {phrase_in : Spd0} {closing_place : Spd0} (T : Mgs K mg ea) (c_number_in : Cal0 P w K mg base "number_in" k ["text"] number_in) (c_phrase_in : Cal0 P w K mg base "phrase_in" k ["text"] phrase_in) (c_closing_place : Cal0 P w K mg base "closing_place" k ["text", "begin"] closing_place) (cdv : Value) (A : Around) (outer : List Env) (s : Shared) (H : Hp) (E : XK) (hr : Room k (A.deeper (envOfC "long_step" (defScope st_long_step) s.heap.objs.size f cdv))) :
    PSsd (cxOf CX0 P w K mg base nn_long_step "long_step" (defScope st_long_step) f cdv A outer s H E).nox G0 (defBody st_long_step) (d_long_step number_in phrase_in closing_place) :=
  (psd_cons (psd_asg (pd_partition (pdv 0) pd_str) (pgd_tup rfl (pgsd_cons (pgd_name 1 sc_long_step.nd) (pgsd_cons (pgd_name 2 sc_long_step.nd) (pgsd_cons (pgd_name 3 sc_long_step.nd) pgsd_nil)))))
      (psd_cons (psd_asg (pd_partition (pdv 3) pd_str) (pgd_tup rfl (pgsd_cons (pgd_name 4 sc_long_step.nd) (pgsd_cons (pgd_name 5 sc_long_step.nd) (pgsd_cons (pgd_name 6 sc_long_step.nd) pgsd_nil)))))
      (psd_cons (psd_set 7 sc_long_step.nd (pd_add (pd_add (pd_add (pd_lenN 1 T.m_len) pd_int) (pd_lenN 4 T.m_len)) pd_int))
      (psd_cons (psd_set 8 sc_long_step.nd (pd_if (pdt_ne hr (pdv 5) pd_str) (pd_call c_closing_place hr (pad_cons (pdv 0) (pad_cons (pdv 7) pad_nil))) pd_non))
      (psd_cons (psd_if (PWd.pt (pdw_or (pdt_notIn hr (pdv 1) (pd_tup (pad_cons pd_str (pad_cons pd_str pad_nil)))) (pdw_or (pdt_isN (pd_call c_number_in hr (pad_cons (pdv 4) pad_nil)) pd_non) (pdw_or1 (pdt_isN (pdv 8) pd_non))))) (psd_one (psd_ret pd_non)) psd_nil)
      (psd_cons (psd_set 9 sc_long_step.nd (pd_call c_phrase_in hr (pad_cons (pd_slice (pdv 0) (pod_some (pd_add (pdv 7) pd_int)) (pod_some (pdv 8))) pad_nil)))
      (psd_one (psd_ret (pd_if (pdt_isN (pdv 9) pd_non) pd_non (pd_tup (pad_cons (pd_tup (pad_cons (pdv 1) (pad_cons (pd_call c_number_in hr (pad_cons (pdv 4) pad_nil)) (pad_cons (pdv 9) pad_nil)))) (pad_cons (pd_add (pdv 8) pd_int) pad_nil))))))))))))
/-! ### step_at -/
abbrev st_step_at : Stmt := topS 24
abbrev nn_step_at : List Str := ["text", "found", "name"]
theorem sc_step_at : FnScope nn_step_at ["text"] (defScope st_step_at) := ⟨rfl, rfl, rfl, by decide +kernel, rfl, by decide +kernel, by decide +kernel⟩
def d_step_at (is_title : Spd0) (long_step : Spd0) : TSd :=
    (dSeq (dSet 1 (dCall long_step (dCons (dVar 0) dNil)))
    (dSeq (dIfS (dTest (dOp rdIsN (dVar 1) (dC .none)))
    ((dSeq (dSet 2 (dOp rdIx (dM1 rdPartition (dVar 0) (dC (.str " "))) (dC (.int 0))))
    (dRet (dIf (dTru (dCall is_title (dCons (dVar 2) dNil))) (dTup (dCons (dVar 2) (dCons (dLenN 2) dNil))) (dC .none)))))
    (dNext))
    (dRet (dVar 1))))
theorem bd_step_at {P : Program} {w : World} {K : PySem.W.Frag} {mg : Str → Option Value} {base : Heap} {ea : Str → Addr} {k : Nat} {f : Addr} {is_title : Spd0} {long_step : Spd0} (T : Mgs K mg ea) (c_is_title : Cal0 P w K mg base "is_title" k ["text"] is_title) (c_long_step : Cal0 P w K mg base "long_step" k ["text"] long_step) (cdv : Value) (A : Around) (outer : List Env) (s : Shared) (H : Hp) (E : XK) (hr : Room k (A.deeper (envOfC "step_at" (defScope st_step_at) s.heap.objs.size f cdv))) :
    PSsd (cxOf CX0 P w K mg base nn_step_at "step_at" (defScope st_step_at) f cdv A outer s H E).nox G0 (defBody st_step_at) (d_step_at is_title long_step) :=
  (psd_cons (psd_set 1 sc_step_at.nd (pd_call c_long_step hr (pad_cons (pdv 0) pad_nil)))
      (psd_cons (psd_if (pdt_isN (pdv 1) pd_non) (psd_cons (psd_set 2 sc_step_at.nd (pd_ix (pd_partition (pdv 0) pd_str) pd_int))
      (psd_one (psd_ret (pd_if (pdt_tru (pd_call c_is_title hr (pad_cons (pdv 2) pad_nil))) (pd_tup (pad_cons (pdv 2) (pad_cons (pd_lenN 2 T.m_len) pad_nil))) pd_non)))) psd_nil)
      (psd_one (psd_ret (pdv 1)))))
/-! ### phrase_in -/
abbrev st_phrase_in : Stmt := topS 25
abbrev nn_phrase_in : List Str := ["text", "found", "rest", "step"]
theorem sc_phrase_in : FnScope nn_phrase_in ["text"] (defScope st_phrase_in) := ⟨rfl, rfl, rfl, by decide +kernel, rfl, by decide +kernel, by decide +kernel⟩
def d_phrase_in (step_at : Spd0) : TSd :=
    (dSeq (dParNV 1 2 (dNewL dNil) (dVar 0))
    (dSeq (dWhile (dTest (dOp rdNe (dVar 2) (dC (.str ""))))
    ((dSeq (dSet 3 (dCall step_at (dCons (dVar 2) dNil)))
    (dSeq (dIfS (dTest (dOp rdIsN (dVar 3) (dC .none)))
    ((dRet (dC .none)))
    (dNext))
    (dSeq (dApp 1 (dIxN 3 (dC (.int 0))))
    (dSeq (dSet 2 (dSl (dVar 2) (dPart (dIxN 3 (dC (.int 1)))) dNoP))
    (dIfS (dTest (dOp rdNe (dVar 2) (dC (.str ""))))
    ((dSeq (dIfS (dOr (dTest (dOp rdNe (dIxN 2 (dC (.int 0))) (dC (.str " ")))) (dTest (dOp rdEq (dVar 2) (dC (.str " ")))))
    ((dRet (dC .none)))
    (dNext))
    (dSet 2 (dSl (dVar 2) (dPart (dC (.int 1))) dNoP))))
    (dNext))))))))
    (dRet (dVar 1))))
theorem bd_phrase_in {P : Program} {w : World} {K : PySem.W.Frag} {mg : Str → Option Value} {base : Heap} {ea : Str → Addr} {k : Nat} {f : Addr} {step_at : Spd0} (T : Mgs K mg ea) (c_step_at : Cal0 P w K mg base "step_at" k ["text"] step_at) (cdv : Value) (A : Around) (outer : List Env) (s : Shared) (H : Hp) (E : XK) (hr : Room k (A.deeper (envOfC "phrase_in" (defScope st_phrase_in) s.heap.objs.size f cdv))) :
    PSsd (cxOf CX0 P w K mg base nn_phrase_in "phrase_in" (defScope st_phrase_in) f cdv A outer s H E).nox G0 (defBody st_phrase_in) (d_phrase_in step_at) :=
  (psd_cons (psd_parNV 1 2 rfl sc_phrase_in.nd (pn_lst pad_nil) (pdv 0))
      (psd_cons (psd_while PassesOwn.never (pdt_ne hr (pdv 2) pd_str) (psd_cons (psd_set 3 sc_phrase_in.nd (pd_call c_step_at hr (pad_cons (pdv 2) pad_nil)))
      (psd_cons (psd_if (pdt_isN (pdv 3) pd_non) (psd_one (psd_ret pd_non)) psd_nil)
      (psd_cons (psd_app 1 (pd_ixN 3 pd_int))
      (psd_cons (psd_set 2 sc_phrase_in.nd (pd_slice (pdv 2) (pod_some (pd_ixN 3 pd_int)) pod_none))
      (psd_one (psd_if (pdt_ne hr (pdv 2) pd_str) (psd_cons (psd_if (PWd.pt (pdw_or (pdt_ne hr (pd_ixN 2 pd_int) pd_str) (pdw_or1 (pdt_eq hr (pdv 2) pd_str)))) (psd_one (psd_ret pd_non)) psd_nil)
      (psd_one (psd_set 2 sc_phrase_in.nd (pd_slice (pdv 2) (pod_some pd_int) pod_none)))) psd_nil)))))))
      (psd_one (psd_ret (pdv 1)))))
/-! ### read_effect -/
abbrev st_read_effect : Stmt := topS 26
abbrev nn_read_effect : List Str := ["text", "found"]
theorem sc_read_effect : FnScope nn_read_effect ["text"] (defScope st_read_effect) := ⟨rfl, rfl, rfl, by decide +kernel, rfl, by decide +kernel, by decide +kernel⟩
def d_read_effect (show_effect : Spd0) (effect_in : Spd0) (Ed : Str → D → En → Prop) : TSd :=
    (dSeq (dSet 1 (dCall effect_in (dCons (dVar 0) dNil)))
    (dSeq (dIfS (dOr (dTest (dOp rdIsN (dVar 1) (dC .none))) (dTest (dOp rdNe (dCall show_effect (dCons (dVar 1) dNil)) (dVar 0))))
    ((dRaise "Unreadable" Ed (dVar 0)))
    (dNext))
    (dRet (dVar 1))))
theorem bd_read_effect {P : Program} {w : World} {K : PySem.W.Frag} {mg : Str → Option Value} {base : Heap} {ea : Str → Addr} {k j : Nat} {f : Addr} {show_effect : Spd0} {effect_in : Spd0} (T : Mgs K mg ea) (c_show_effect : Cal0 P w K mg base "show_effect" k ["one"] show_effect) (c_effect_in : Cal0 P w K mg base "effect_in" k ["text"] effect_in) (x_Unreadable : ExcK P w K mg base "Unreadable" (ea "Unreadable") j) (hj : j + 1 ≤ k) (cdv : Value) (A : Around) (outer : List Env) (s : Shared) (H : Hp) (E : XK) (Ed : Str → D → En → Prop) (hr : Room k (A.deeper (envOfC "read_effect" (defScope st_read_effect) s.heap.objs.size f cdv))) :
    PSsd (cxOf (L2.CX P w) P w K mg base nn_read_effect "read_effect" (defScope st_read_effect) f cdv A outer s H E) (GE K mg (fun cls d _ H => E cls d H) Ed) (defBody st_read_effect) (d_read_effect show_effect effect_in Ed) := by
  have tk : Takes (cxOf (L2.CX P w) P w K mg base nn_read_effect "read_effect" (defScope st_read_effect) f cdv A outer s H E) (fun cls d _ H => E cls d H) := takes_of rfl rfl rfl rfl
  have hrj := hr.mono hj
  exact (psd_cons (psd_set 1 sc_read_effect.nd (pd_call c_effect_in hr (pad_cons (pdv 0) pad_nil)))
      (psd_cons (psd_if (PWd.pt (pdw_or (pdt_isN (pdv 1) pd_non) (pdw_or1 (pdt_ne hr (pd_call c_show_effect hr (pad_cons (pdv 1) pad_nil)) (pdv 0))))) (psd_one (psd_raise (k := j) x_Unreadable hrj rfl tk (pdv 0))) psd_nil)
      (psd_one (psd_ret (pdv 1)))))
/-! ### read_phrase -/
abbrev st_read_phrase : Stmt := topS 27
abbrev nn_read_phrase : List Str := ["text", "found"]
theorem sc_read_phrase : FnScope nn_read_phrase ["text"] (defScope st_read_phrase) := ⟨rfl, rfl, rfl, by decide +kernel, rfl, by decide +kernel, by decide +kernel⟩
def d_read_phrase (show_phrase : Spd0) (phrase_in : Spd0) (Ed : Str → D → En → Prop) : TSd :=
    (dSeq (dSet 1 (dCall phrase_in (dCons (dVar 0) dNil)))
    (dSeq (dIfS (dOr (dTest (dOp rdIsN (dVar 1) (dC .none))) (dTest (dOp rdNe (dCall show_phrase (dCons (dVar 1) dNil)) (dVar 0))))
    ((dRaise "Unreadable" Ed (dVar 0)))
    (dNext))
    (dRet (dVar 1))))
theorem bd_read_phrase {P : Program} {w : World} {K : PySem.W.Frag} {mg : Str → Option Value} {base : Heap} {ea : Str → Addr} {k j : Nat} {f : Addr} {show_phrase : Spd0} {phrase_in : Spd0} (T : Mgs K mg ea) (c_show_phrase : Cal0 P w K mg base "show_phrase" k ["phrase"] show_phrase) (c_phrase_in : Cal0 P w K mg base "phrase_in" k ["text"] phrase_in) (x_Unreadable : ExcK P w K mg base "Unreadable" (ea "Unreadable") j) (hj : j + 1 ≤ k) (cdv : Value) (A : Around) (outer : List Env) (s : Shared) (H : Hp) (E : XK) (Ed : Str → D → En → Prop) (hr : Room k (A.deeper (envOfC "read_phrase" (defScope st_read_phrase) s.heap.objs.size f cdv))) :
    PSsd (cxOf (L2.CX P w) P w K mg base nn_read_phrase "read_phrase" (defScope st_read_phrase) f cdv A outer s H E) (GE K mg (fun cls d _ H => E cls d H) Ed) (defBody st_read_phrase) (d_read_phrase show_phrase phrase_in Ed) := by
  have tk : Takes (cxOf (L2.CX P w) P w K mg base nn_read_phrase "read_phrase" (defScope st_read_phrase) f cdv A outer s H E) (fun cls d _ H => E cls d H) := takes_of rfl rfl rfl rfl
  have hrj := hr.mono hj
  exact (psd_cons (psd_set 1 sc_read_phrase.nd (pd_call c_phrase_in hr (pad_cons (pdv 0) pad_nil)))
      (psd_cons (psd_if (PWd.pt (pdw_or (pdt_isN (pdv 1) pd_non) (pdw_or1 (pdt_ne hr (pd_call c_show_phrase hr (pad_cons (pdv 1) pad_nil)) (pdv 0))))) (psd_one (psd_raise (k := j) x_Unreadable hrj rfl tk (pdv 0))) psd_nil)
      (psd_one (psd_ret (pdv 1)))))
/-! ### _law_coin -/
abbrev st__law_coin : Stmt := topS 30
abbrev nn__law_coin : List Str := ["_law_purse_here", "_law_many", "_law_drawn", "_law_stirred"]
theorem sc__law_coin : FnScope nn__law_coin ["_law_purse_here", "_law_many"] (defScope st__law_coin) := ⟨rfl, rfl, rfl, by decide +kernel, rfl, by decide +kernel, by decide +kernel⟩
def d__law_coin : TSd :=
    (dSeq (dIfS (dTest (dOp (rdB0 fun i j => decide (j < i)) (dIxN 0 (dC (.int 0))) (dC (.int 0))))
    ((dSeq (dSet 2 (dOp (rdI (fun _ j => j ≠ 0) fun i j => i.fmod j) (dCB rdInt (dCons (dIxN 0 (dC (.int 0))) dNil)) (dVar 1)))
    (dSeq (dPutIx 0 (dC (.int 0)) (dOp (rdI CDivN fun i j => i.fdiv j) (dIxN 0 (dC (.int 0))) (dVar 1)))
    (dRet (dVar 2)))))
    (dNext))
    (dSeq (dPutIx 0 (dC (.int 2)) (dOp rdAdd (dIxN 0 (dC (.int 2))) (dC (.int 1))))
    (dSeq (dSet 3 (dOp (rdI (fun _ j => j ≠ 0) fun i j => i.fmod j) (dOp (rdI CPowW fun i j => i ^ j.toNat) (dCB rdInt (dCons (dOp rdAdd (dIxN 0 (dC (.int 1))) (dOp rdMul (dC (.int 2038074743)) (dIxN 0 (dC (.int 2))))) dNil)) (dC (.int 3))) (dOp rdAdd (dOp (rdI CPowW fun i j => i ^ j.toNat) (dC (.int 10)) (dC (.int 25))) (dC (.int 13)))))
    (dSeq (dSet 3 (dOp (rdI (fun _ j => j ≠ 0) fun i j => i.fmod j) (dOp (rdI CPowW fun i j => i ^ j.toNat) (dCB rdInt (dCons (dOp rdAdd (dVar 3) (dOp rdMul (dC (.int 982451653)) (dIxN 0 (dC (.int 2))))) dNil)) (dC (.int 2))) (dOp rdAdd (dOp (rdI CPowW fun i j => i ^ j.toNat) (dC (.int 10)) (dC (.int 24))) (dC (.int 7)))))
    (dRet (dOp (rdI (fun _ j => j ≠ 0) fun i j => i.fmod j) (dCB rdInt (dCons (dOp (rdI CDivN fun i j => i.fdiv j) (dVar 3) (dC (.int 1024))) dNil)) (dVar 1)))))))
theorem bd__law_coin {P : Program} {w : World} {K : PySem.W.Frag} {mg : Str → Option Value} {base : Heap} {ea : Str → Addr} {k : Nat} {f : Addr} (T : Mgs K mg ea) (cdv : Value) (A : Around) (outer : List Env) (s : Shared) (H : Hp) (E : XK) (hr : Room k (A.deeper (envOfC "_law_coin" (defScope st__law_coin) s.heap.objs.size f cdv))) :
    PSsd (cxOf CX0 P w K mg base nn__law_coin "_law_coin" (defScope st__law_coin) f cdv A outer s H E).nox G0 (defBody st__law_coin) (d__law_coin) :=
  (psd_cons (psd_if (pdt_gt (pd_ixN 0 pd_int) pd_int) (psd_cons (psd_set 2 sc__law_coin.nd (pd_mod (pd_intc T.m_int (pd_ixN 0 pd_int)) (pdv 1)))
      (psd_cons (psd_putIx 0 (pd_fdiv (pd_ixN 0 pd_int) (pdv 1)) pd_int)
      (psd_one (psd_ret (pdv 2))))) psd_nil)
      (psd_cons (psd_putIx 0 (pd_add (pd_ixN 0 pd_int) pd_int) pd_int)
      (psd_cons (psd_set 3 sc__law_coin.nd (pd_mod (pd_pow (pd_intc T.m_int (pd_add (pd_ixN 0 pd_int) (pd_mul pd_int (pd_ixN 0 pd_int)))) pd_int) (pd_add (pd_pow pd_int pd_int) pd_int)))
      (psd_cons (psd_set 3 sc__law_coin.nd (pd_mod (pd_pow (pd_intc T.m_int (pd_add (pdv 3) (pd_mul pd_int (pd_ixN 0 pd_int)))) pd_int) (pd_add (pd_pow pd_int pd_int) pd_int)))
      (psd_one (psd_ret (pd_mod (pd_intc T.m_int (pd_fdiv (pdv 3) pd_int)) (pdv 1))))))))
/-! ### _law_words -/
abbrev st__law_words : Stmt := topS 31
abbrev nn__law_words : List Str := ["_law_purse_here", "_law_many", "_law_letters", "_law_sort_here", "_law_menu", "_law_stem", "_law_start", "_law_found", "_law_rank", "_law_size", "_law_base", "_law_word", "_law_tail", "_law_spot_here", "_law_letter_here", "_law_turn"]
theorem sc__law_words : FnScope nn__law_words ["_law_purse_here", "_law_many"] (defScope st__law_words) := ⟨rfl, rfl, rfl, by decide +kernel, rfl, by decide +kernel, by decide +kernel⟩
def d__law_words (_law_coin : SpdP) : TSd :=
    (dSeq (dAsg (dTup (dCons (dC (.str "abcdefghijklmnopqrstuvwxyz")) (dCons (dCallP 0 _law_coin (dCons (dC (.int 5)) dNil)) dNil))) (gdTup 2 (gdCons (gdName 2) (gdCons (gdName 3) gdNil))))
    (dSeq (dSetO 4 (dNewL (dCons (dC (.str "dup")) (dCons (dC (.str "drop")) (dCons (dC (.str "swap")) (dCons (dC (.str "over")) (dCons (dC (.str "rot")) (dCons (dC (.str "nip")) (dCons (dC (.str "under")) dNil)))))))))
    (dSeq (dSet 4 (dOp rdAdd (dVar 4) (dFrz (dNewL (dCons (dC (.str "times")) (dCons (dC (.str "a")) (dCons (dC (.str "b")) (dCons (dC (.str "tuck")) (dCons (dC (.str "pick")) (dCons (dC (.str "two")) (dCons (dC (.str "no")) dNil)))))))))))
    (dSeq (dSet 5 (dM1 rdJoin (dC (.str "")) (dFrz (dLc (dRng1 (dC (.int 8))) (gdName 15) dYes (dIxN 2 (dCallP 0 _law_coin (dCons (dC (.int 26)) dNil))) [15]))))
    (dSeq (dIfS (dAnd (dTest (dOp rdEq (dVar 3) (dC (.int 0)))) (dTest (dOp (rdB0 fun i j => decide (i < j)) (dVar 1) (dC (.int 15)))))
    ((dSeq (dSet 6 (dCallP 0 _law_coin (dCons (dC (.int 14)) dNil)))
    (dRet (dFrz (dLc (dRng1 (dVar 1)) (gdName 8) dYes (dIxN 4 (dOp (rdI (fun _ j => j ≠ 0) fun i j => i.fmod j) (dCB rdInt (dCons (dOp rdAdd (dVar 6) (dOp rdMul (dC (.int 3)) (dVar 8))) dNil)) (dC (.int 14)))) [8])))))
    (dNext))
    (dSeq (dIfS (dAnd (dTest (dOp rdEq (dVar 3) (dC (.int 1)))) (dTest (dOp (rdB0 fun i j => decide (i < j)) (dVar 1) (dC (.int 9)))))
    ((dSeq (dSet 6 (dCallP 0 _law_coin (dCons (dOp (rdI0 fun i j => i - j) (dC (.int 9)) (dVar 1)) dNil)))
    (dRet (dFrz (dLc (dRng1 (dVar 1)) (gdName 8) dYes (dSl (dVar 5) dNoP (dPart (dOp rdAdd (dOp rdAdd (dVar 6) (dVar 8)) (dC (.int 1))))) [8])))))
    (dNext))
    (dSeq (dSetO 7 (dNewL dNil))
    (dSeq (dIfS (dTest (dOp rdEq (dVar 3) (dC (.int 3))))
    ((dFor (dRng1 (dVar 1)) (gdName 8)
    ((dSeq (dSet 9 (dOp rdAdd (dC (.int 1)) (dCallP 0 _law_coin (dCons (dC (.int 8)) dNil))))
    (dApp 7 (dM1 rdJoin (dC (.str "")) (dFrz (dLc (dRng1 (dVar 9)) (gdName 15) dYes (dIxN 2 (dCallP 0 _law_coin (dCons (dC (.int 26)) dNil))) [15]))))))))
    (dNext))
    (dSeq (dIfS (dTest (dOp rdEq (dVar 3) (dC (.int 4))))
    ((dSeq (dSet 10 (dSl (dVar 5) dNoP (dPart (dOp rdAdd (dC (.int 1)) (dCallP 0 _law_coin (dCons (dC (.int 5)) dNil))))))
    (dSeq (dSetO 7 (dNewL (dCons (dVar 10) dNil)))
    (dSeq (dFor (dItL (dVar 4)) (gdName 11)
    ((dApp 7 (dOp rdIx (dFrz (dNewL (dCons (dOp rdAdd (dSl (dVar 11) dNoP (dPart (dC (.int 3)))) (dVar 10)) (dCons (dOp rdAdd (dVar 10) (dSl (dVar 11) dNoP (dPart (dC (.int 3))))) dNil)))) (dCallP 0 _law_coin (dCons (dC (.int 2)) dNil))))))
    (dSetO 7 (dSlL (dVar 7) dNoP (dPart (dVar 1))))))))
    (dNext))
    (dSeq (dIfS (dTest (dOp rdEq (dUn rdLenSet (dVar 7)) (dVar 1)))
    ((dRet (dVar 7)))
    (dNext))
    (dSeq (dAsg (dTup (dCons (dCallP 0 _law_coin (dCons (dC (.int 26)) dNil)) (dCons (dSl (dVar 5) dNoP (dPart (dCallP 0 _law_coin (dCons (dC (.int 8)) dNil)))) dNil))) (gdTup 2 (gdCons (gdName 6) (gdCons (gdName 12) gdNil))))
    (dSeq (dParVN 13 7 (dCallP 0 _law_coin (dCons (dOp rdAdd (dLenN 12) (dC (.int 1))) dNil)) (dNewL dNil))
    (dSeq (dFor (dRng1 (dVar 1)) (gdName 8)
    ((dSeq (dSet 14 (dIxN 2 (dOp (rdI (fun _ j => j ≠ 0) fun i j => i.fmod j) (dCB rdInt (dCons (dOp rdAdd (dVar 6) (dVar 8)) dNil)) (dC (.int 26)))))
    (dApp 7 (dOp rdAdd (dOp rdAdd (dSl (dVar 12) dNoP (dPart (dVar 13))) (dVar 14)) (dSl (dVar 12) (dPart (dVar 13)) dNoP))))))
    (dRet (dVar 7)))))))))))))))
theorem bd__law_words {P : Program} {w : World} {K : PySem.W.Frag} {mg : Str → Option Value} {base : Heap} {ea : Str → Addr} {k : Nat} {f : Addr} {_law_coin : SpdP} (T : Mgs K mg ea) (c__law_coin : CalP P w K mg base "_law_coin" k ["_law_purse_here", "_law_many"] _law_coin) (cdv : Value) (A : Around) (outer : List Env) (s : Shared) (H : Hp) (E : XK) (hr : Room k (A.deeper (envOfC "_law_words" (defScope st__law_words) s.heap.objs.size f cdv))) :
    PSsd (cxOf CX0 P w K mg base nn__law_words "_law_words" (defScope st__law_words) f cdv A outer s H E).nox G0 (defBody st__law_words) (d__law_words _law_coin) :=
  (psd_cons (psd_asg (pd_tup (pad_cons pd_str (pad_cons (pd_callP 0 c__law_coin hr (pad_cons pd_int pad_nil)) pad_nil))) (pgd_tup rfl (pgsd_cons (pgd_name 2 sc__law_words.nd) (pgsd_cons (pgd_name 3 sc__law_words.nd) pgsd_nil))))
      (psd_cons (psd_setO 4 sc__law_words.nd (pn_lst (pad_cons pd_str (pad_cons pd_str (pad_cons pd_str (pad_cons pd_str (pad_cons pd_str (pad_cons pd_str (pad_cons pd_str pad_nil)))))))))
      (psd_cons (psd_set 4 sc__law_words.nd (pd_add (pdv 4) (pd_lst (pad_cons pd_str (pad_cons pd_str (pad_cons pd_str (pad_cons pd_str (pad_cons pd_str (pad_cons pd_str (pad_cons pd_str pad_nil))))))))))
      (psd_cons (psd_set 5 sc__law_words.nd (pd_join pd_str (PNd.frz (pn_lc [("_law_turn", 15)] rfl sc__law_words.nd (pid_rng1 T.m_range pd_int) (blkOk_by (N := nn__law_words) (sc := defScope st__law_words) (by decide +kernel)) (fun _ _ _ _ _ => (pgd_name 15 sc__law_words.nd)) (fun _ _ _ _ _ => ptsd_nil) (fun _ _ _ _ _ => (pd_ixN 2 (pd_callP 0 c__law_coin hr (pad_cons pd_int pad_nil))))))))
      (psd_cons (psd_if (PWd.pt (pdw_and (pdt_eq hr (pdv 3) pd_int) (pdw_and1 (pdt_lt (pdv 1) pd_int)))) (psd_cons (psd_set 6 sc__law_words.nd (pd_callP 0 c__law_coin hr (pad_cons pd_int pad_nil)))
      (psd_one (psd_ret (PNd.frz (pn_lc [("_law_rank", 8)] rfl sc__law_words.nd (pid_rng1 T.m_range (pdv 1)) (blkOk_by (N := nn__law_words) (sc := defScope st__law_words) (by decide +kernel)) (fun _ _ _ _ _ => (pgd_name 8 sc__law_words.nd)) (fun _ _ _ _ _ => ptsd_nil) (fun _ _ _ _ _ => (pd_ixN 4 (pd_mod (pd_intc T.m_int (pd_add (pdv 6) (pd_mul pd_int (pdv 8)))) pd_int)))))))) psd_nil)
      (psd_cons (psd_if (PWd.pt (pdw_and (pdt_eq hr (pdv 3) pd_int) (pdw_and1 (pdt_lt (pdv 1) pd_int)))) (psd_cons (psd_set 6 sc__law_words.nd (pd_callP 0 c__law_coin hr (pad_cons (pd_sub pd_int (pdv 1)) pad_nil)))
      (psd_one (psd_ret (PNd.frz (pn_lc [("_law_rank", 8)] rfl sc__law_words.nd (pid_rng1 T.m_range (pdv 1)) (blkOk_by (N := nn__law_words) (sc := defScope st__law_words) (by decide +kernel)) (fun _ _ _ _ _ => (pgd_name 8 sc__law_words.nd)) (fun _ _ _ _ _ => ptsd_nil) (fun _ _ _ _ _ => (pd_slice (pdv 5) pod_none (pod_some (pd_add (pd_add (pdv 6) (pdv 8)) pd_int))))))))) psd_nil)
      (psd_cons (psd_setO 7 sc__law_words.nd (pn_lst pad_nil))
      (psd_cons (psd_if (pdt_eq hr (pdv 3) pd_int) (psd_one (psd_for PassesOwn.never rfl (pid_rng1 T.m_range (pdv 1)) (pgd_name 8 sc__law_words.nd) (psd_cons (psd_set 9 sc__law_words.nd (pd_add pd_int (pd_callP 0 c__law_coin hr (pad_cons pd_int pad_nil))))
      (psd_one (psd_app 7 (pd_join pd_str (PNd.frz (pn_lc [("_law_turn", 15)] rfl sc__law_words.nd (pid_rng1 T.m_range (pdv 9)) (blkOk_by (N := nn__law_words) (sc := defScope st__law_words) (by decide +kernel)) (fun _ _ _ _ _ => (pgd_name 15 sc__law_words.nd)) (fun _ _ _ _ _ => ptsd_nil) (fun _ _ _ _ _ => (pd_ixN 2 (pd_callP 0 c__law_coin hr (pad_cons pd_int pad_nil)))))))))))) psd_nil)
      (psd_cons (psd_if (pdt_eq hr (pdv 3) pd_int) (psd_cons (psd_set 10 sc__law_words.nd (pd_slice (pdv 5) pod_none (pod_some (pd_add pd_int (pd_callP 0 c__law_coin hr (pad_cons pd_int pad_nil))))))
      (psd_cons (psd_setO 7 sc__law_words.nd (pn_lst (pad_cons (pdv 10) pad_nil)))
      (psd_cons (psd_for PassesOwn.never rfl (pid_list (pdv 4)) (pgd_name 11 sc__law_words.nd) (psd_one (psd_app 7 (pd_ix (pd_lst (pad_cons (pd_add (pd_slice (pdv 11) pod_none (pod_some pd_int)) (pdv 10)) (pad_cons (pd_add (pdv 10) (pd_slice (pdv 11) pod_none (pod_some pd_int))) pad_nil))) (pd_callP 0 c__law_coin hr (pad_cons pd_int pad_nil))))))
      (psd_one (psd_setO 7 sc__law_words.nd (pn_slice (pdv 7) pod_none (pod_some (pdv 1)))))))) psd_nil)
      (psd_cons (psd_if (pdt_eq hr (pd_lenSet T.m_len T.m_set rfl (pdv 7)) (pdv 1)) (psd_one (psd_ret (pdv 7))) psd_nil)
      (psd_cons (psd_asg (pd_tup (pad_cons (pd_callP 0 c__law_coin hr (pad_cons pd_int pad_nil)) (pad_cons (pd_slice (pdv 5) pod_none (pod_some (pd_callP 0 c__law_coin hr (pad_cons pd_int pad_nil)))) pad_nil))) (pgd_tup rfl (pgsd_cons (pgd_name 6 sc__law_words.nd) (pgsd_cons (pgd_name 12 sc__law_words.nd) pgsd_nil))))
      (psd_cons (psd_parVN 13 7 rfl sc__law_words.nd (pd_callP 0 c__law_coin hr (pad_cons (pd_add (pd_lenN 12 T.m_len) pd_int) pad_nil)) (pn_lst pad_nil))
      (psd_cons (psd_for PassesOwn.never rfl (pid_rng1 T.m_range (pdv 1)) (pgd_name 8 sc__law_words.nd) (psd_cons (psd_set 14 sc__law_words.nd (pd_ixN 2 (pd_mod (pd_intc T.m_int (pd_add (pdv 6) (pdv 8))) pd_int)))
      (psd_one (psd_app 7 (pd_add (pd_add (pd_slice (pdv 12) pod_none (pod_some (pdv 13))) (pdv 14)) (pd_slice (pdv 12) (pod_some (pdv 13)) pod_none))))))
      (psd_one (psd_ret (pdv 7))))))))))))))))
/-! ### _law_least -/
abbrev st__law_least : Stmt := topS 32
abbrev nn__law_least : List Str := ["_law_needs", "_law_gives", "_law_turn"]
theorem sc__law_least : FnScope nn__law_least ["_law_needs", "_law_gives"] (defScope st__law_least) := ⟨rfl, rfl, rfl, by decide +kernel, rfl, by decide +kernel, by decide +kernel⟩
def d__law_least : TSd :=
    (dSeq (dFor (dRng1 (dLenN 1)) (gdName 2)
    ((dIfS (dAnd (dTest (dOp (rdB0 fun i j => decide (j < i)) (dVar 0) (dC (.int 0)))) (dAnd (dTest (dOp rdEq (dSl (dVar 1) (dPart (dUn rdNeg (dC (.int 1)))) dNoP) (dFrz (dNewL (dCons (dVar 0) dNil))))) (dTest (dOp (rdIn true) (dVar 0) (dSl (dVar 1) dNoP (dPart (dUn rdNeg (dC (.int 1)))))))))
    ((dPar 0 1 (dOp (rdI0 fun i j => i - j) (dVar 0) (dC (.int 1))) (dSl (dVar 1) dNoP (dPart (dUn rdNeg (dC (.int 1)))))))
    (dNext))))
    (dRet (dTup (dCons (dVar 0) (dCons (dFrz (dListOf (dVar 1))) dNil)))))
theorem bd__law_least {P : Program} {w : World} {K : PySem.W.Frag} {mg : Str → Option Value} {base : Heap} {ea : Str → Addr} {k : Nat} {f : Addr} (T : Mgs K mg ea) (cdv : Value) (A : Around) (outer : List Env) (s : Shared) (H : Hp) (E : XK) (hr : Room k (A.deeper (envOfC "_law_least" (defScope st__law_least) s.heap.objs.size f cdv))) :
    PSsd (cxOf CX0 P w K mg base nn__law_least "_law_least" (defScope st__law_least) f cdv A outer s H E).nox G0 (defBody st__law_least) (d__law_least) :=
  (psd_cons (psd_for PassesOwn.never rfl (pid_rng1 T.m_range (pd_lenN 1 T.m_len)) (pgd_name 2 sc__law_least.nd) (psd_one (psd_if (PWd.pt (pdw_and (pdt_gt (pdv 0) pd_int) (pdw_and (pdt_eq hr (pd_slice (pdv 1) (pod_some (pd_neg pd_int)) pod_none) (pd_lst (pad_cons (pdv 0) pad_nil))) (pdw_and1 (pdt_notIn hr (pdv 0) (pd_slice (pdv 1) pod_none (pod_some (pd_neg pd_int)))))))) (psd_one (psd_par 0 1 rfl sc__law_least.nd (pd_sub (pdv 0) pd_int) (pd_slice (pdv 1) pod_none (pod_some (pd_neg pd_int))))) psd_nil)))
      (psd_one (psd_ret (pd_tup (pad_cons (pdv 0) (pad_cons (PNd.frz (pn_listOf T.m_list (pdv 1))) pad_nil))))))
/-! ### _law_drawn_effect -/
abbrev st__law_drawn_effect : Stmt := topS 33
abbrev nn__law_drawn_effect : List Str := ["_law_purse_here", "_law_needs", "_law_length", "_law_many", "_law_size", "_law_gives", "_law_pool", "_law_turn"]
theorem sc__law_drawn_effect : FnScope nn__law_drawn_effect ["_law_purse_here", "_law_needs", "_law_length"] (defScope st__law_drawn_effect) := ⟨rfl, rfl, rfl, by decide +kernel, rfl, by decide +kernel, by decide +kernel⟩
def d__law_drawn_effect (_law_least : Spd0) (_law_coin : SpdP) : TSd :=
    (dSeq (dSet 3 (dCallP 0 _law_coin (dCons (dOp rdAdd (dVar 1) (dC (.int 1))) dNil)))
    (dSeq (dSet 4 (dIf (dTest (dOp (rdB0 fun i j => decide (j < i)) (dVar 3) (dC (.int 0)))) (dCallP 0 _law_coin (dCons (dOp rdAdd (dVar 2) (dC (.int 1))) dNil)) (dC (.int 0))))
    (dSeq (dSetO 5 (dLc (dRng1 (dVar 4)) (gdName 7) dYes (dOp rdAdd (dC (.int 1)) (dCallP 0 _law_coin (dCons (dVar 3) dNil))) [7]))
    (dSeq (dIfS (dTest (dOp rdEq (dCallP 0 _law_coin (dCons (dC (.int 4)) dNil)) (dC (.int 0))))
    ((dSeq (dSetO 6 (dRngL (dC (.int 1)) (dOp rdAdd (dVar 3) (dC (.int 1)))))
    (dSeq (dSetO 5 (dNewL dNil))
    (dFor (dRng1 (dVar 3)) (gdName 7)
    ((dApp 5 (dPopAt 6 (dCallP 0 _law_coin (dCons (dLenN 6) dNil)))))))))
    (dNext))
    (dRet (dCall _law_least (dCons (dVar 3) (dCons (dVar 5) dNil))))))))
theorem bd__law_drawn_effect {P : Program} {w : World} {K : PySem.W.Frag} {mg : Str → Option Value} {base : Heap} {ea : Str → Addr} {k : Nat} {f : Addr} {_law_least : Spd0} {_law_coin : SpdP} (T : Mgs K mg ea) (c__law_least : Cal0 P w K mg base "_law_least" k ["_law_needs", "_law_gives"] _law_least) (c__law_coin : CalP P w K mg base "_law_coin" k ["_law_purse_here", "_law_many"] _law_coin) (cdv : Value) (A : Around) (outer : List Env) (s : Shared) (H : Hp) (E : XK) (hr : Room k (A.deeper (envOfC "_law_drawn_effect" (defScope st__law_drawn_effect) s.heap.objs.size f cdv))) :
    PSsd (cxOf CX0 P w K mg base nn__law_drawn_effect "_law_drawn_effect" (defScope st__law_drawn_effect) f cdv A outer s H E).nox G0 (defBody st__law_drawn_effect) (d__law_drawn_effect _law_least _law_coin) :=
  (psd_cons (psd_set 3 sc__law_drawn_effect.nd (pd_callP 0 c__law_coin hr (pad_cons (pd_add (pdv 1) pd_int) pad_nil)))
      (psd_cons (psd_set 4 sc__law_drawn_effect.nd (pd_if (pdt_gt (pdv 3) pd_int) (pd_callP 0 c__law_coin hr (pad_cons (pd_add (pdv 2) pd_int) pad_nil)) pd_int))
      (psd_cons (psd_setLcO 5 [("_law_turn", 7)] rfl sc__law_drawn_effect.nd (pid_rng1 T.m_range (pdv 4)) (blkOk_by (N := nn__law_drawn_effect) (sc := defScope st__law_drawn_effect) (by decide +kernel)) (fun _ _ _ _ _ => (pgd_name 7 sc__law_drawn_effect.nd)) (fun _ _ _ _ _ => ptsd_nil) (fun _ _ _ _ _ => (pd_add pd_int (pd_callP 0 c__law_coin hr (pad_cons (pdv 3) pad_nil)))))
      (psd_cons (psd_if (pdt_eq hr (pd_callP 0 c__law_coin hr (pad_cons pd_int pad_nil)) pd_int) (psd_cons (psd_setO 6 sc__law_drawn_effect.nd (pn_listRng T.m_list T.m_range pd_int (pd_add (pdv 3) pd_int)))
      (psd_cons (psd_setO 5 sc__law_drawn_effect.nd (pn_lst pad_nil))
      (psd_one (psd_for PassesOwn.never rfl (pid_rng1 T.m_range (pdv 3)) (pgd_name 7 sc__law_drawn_effect.nd) (psd_one (psd_app 5 (pd_popAt 6 (pd_callP 0 c__law_coin hr (pad_cons (pd_lenN 6 T.m_len) pad_nil))))))))) psd_nil)
      (psd_one (psd_ret (pd_call c__law_least hr (pad_cons (pdv 3) (pad_cons (pdv 5) pad_nil)))))))))
/-! ### _law_drawn_phrase -/
abbrev st__law_drawn_phrase : Stmt := topS 34
abbrev nn__law_drawn_phrase : List Str := ["_law_purse_here", "_law_labels", "_law_many", "_law_deep", "_law_most", "_law_found", "_law_turn", "_law_way", "_law_inner"]
theorem sc__law_drawn_phrase : FnScope nn__law_drawn_phrase ["_law_purse_here", "_law_labels", "_law_many", "_law_deep", "_law_most"] (defScope st__law_drawn_phrase) := ⟨rfl, rfl, rfl, by decide +kernel, rfl, by decide +kernel, by decide +kernel⟩
def d__law_drawn_phrase (_law_coin : SpdP) (_law_drawn_phrase : SpdP) : TSd :=
    (dSeq (dSetO 5 (dNewL dNil))
    (dSeq (dFor (dRng1 (dCallP 0 _law_coin (dCons (dOp rdAdd (dVar 2) (dC (.int 1))) dNil))) (gdName 6)
    ((dSeq (dSet 7 (dCallP 0 _law_coin (dCons (dC (.int 6)) dNil)))
    (dIfS (dAnd (dTest (dOp (rdB0 fun i j => decide (i < j)) (dVar 7) (dC (.int 2)))) (dTest (dOp (rdB0 fun i j => decide (j < i)) (dVar 3) (dC (.int 0)))))
    ((dSeq (dSet 8 (dCallP 0 _law_drawn_phrase (dCons (dVar 1) (dCons (dC (.int 2)) (dCons (dOp (rdI0 fun i j => i - j) (dVar 3) (dC (.int 1))) (dCons (dVar 4) dNil))))))
    (dApp 5 (dTup (dCons (dOp rdIx (dFrz (dNewL (dCons (dC (.str "under")) (dCons (dC (.str "times")) dNil)))) (dVar 7)) (dCons (dCallP 0 _law_coin (dCons (dOp rdAdd (dVar 4) (dC (.int 1))) dNil)) (dCons (dVar 8) dNil)))))))
    ((dIfS (dTest (dOp rdNe (dVar 1) (dFrz (dNewL dNil))))
    ((dApp 5 (dIxN 1 (dCallP 0 _law_coin (dCons (dLenN 1) dNil)))))
    (dNext)))))))
    (dRet (dVar 5))))
theorem bd__law_drawn_phrase {P : Program} {w : World} {K : PySem.W.Frag} {mg : Str → Option Value} {base : Heap} {ea : Str → Addr} {k : Nat} {f : Addr} {_law_coin : SpdP} {_law_drawn_phrase : SpdP} (T : Mgs K mg ea) (c__law_coin : CalP P w K mg base "_law_coin" k ["_law_purse_here", "_law_many"] _law_coin) (c__law_drawn_phrase : CalP P w K mg base "_law_drawn_phrase" k ["_law_purse_here", "_law_labels", "_law_many", "_law_deep", "_law_most"] _law_drawn_phrase) (cdv : Value) (A : Around) (outer : List Env) (s : Shared) (H : Hp) (E : XK) (hr : Room k (A.deeper (envOfC "_law_drawn_phrase" (defScope st__law_drawn_phrase) s.heap.objs.size f cdv))) :
    PSsd (cxOf CX0 P w K mg base nn__law_drawn_phrase "_law_drawn_phrase" (defScope st__law_drawn_phrase) f cdv A outer s H E).nox G0 (defBody st__law_drawn_phrase) (d__law_drawn_phrase _law_coin _law_drawn_phrase) :=
  (psd_cons (psd_setO 5 sc__law_drawn_phrase.nd (pn_lst pad_nil))
      (psd_cons (psd_for PassesOwn.never rfl (pid_rng1 T.m_range (pd_callP 0 c__law_coin hr (pad_cons (pd_add (pdv 2) pd_int) pad_nil))) (pgd_name 6 sc__law_drawn_phrase.nd) (psd_cons (psd_set 7 sc__law_drawn_phrase.nd (pd_callP 0 c__law_coin hr (pad_cons pd_int pad_nil)))
      (psd_one (psd_if (PWd.pt (pdw_and (pdt_lt (pdv 7) pd_int) (pdw_and1 (pdt_gt (pdv 3) pd_int)))) (psd_cons (psd_set 8 sc__law_drawn_phrase.nd (pd_callP 0 c__law_drawn_phrase hr (pad_cons (pdv 1) (pad_cons pd_int (pad_cons (pd_sub (pdv 3) pd_int) (pad_cons (pdv 4) pad_nil))))))
      (psd_one (psd_app 5 (pd_tup (pad_cons (pd_ix (pd_lst (pad_cons pd_str (pad_cons pd_str pad_nil))) (pdv 7)) (pad_cons (pd_callP 0 c__law_coin hr (pad_cons (pd_add (pdv 4) pd_int) pad_nil)) (pad_cons (pdv 8) pad_nil))))))) (psd_one (psd_if (pdt_ne hr (pdv 1) (pd_lst pad_nil)) (psd_one (psd_app 5 (pd_ixN 1 (pd_callP 0 c__law_coin hr (pad_cons (pd_lenN 1 T.m_len) pad_nil))))) psd_nil))))))
      (psd_one (psd_ret (pdv 5)))))
/-! ### _law_effect_text -/
abbrev st__law_effect_text : Stmt := topS 35
abbrev nn__law_effect_text : List Str := ["_law_one", "_law_spot_here"]
theorem sc__law_effect_text : FnScope nn__law_effect_text ["_law_one"] (defScope st__law_effect_text) := ⟨rfl, rfl, rfl, by decide +kernel, rfl, by decide +kernel, by decide +kernel⟩
def d__law_effect_text : TSd :=
    (dRet (dM1 rdJoin (dC (.str " ")) (dOp rdAdd (dFrz (dNewL (dCons (dCB rdStr (dCons (dIxN 0 (dC (.int 0))) dNil)) (dCons (dC (.str "|")) dNil)))) (dFrz (dLc (dItL (dIxN 0 (dC (.int 1)))) (gdName 1) dYes (dCB rdStr (dCons (dVar 1) dNil)) [1])))))
theorem bd__law_effect_text {P : Program} {w : World} {K : PySem.W.Frag} {mg : Str → Option Value} {base : Heap} {ea : Str → Addr} {k : Nat} {f : Addr} (T : Mgs K mg ea) (cdv : Value) (A : Around) (outer : List Env) (s : Shared) (H : Hp) (E : XK) (hr : Room k (A.deeper (envOfC "_law_effect_text" (defScope st__law_effect_text) s.heap.objs.size f cdv))) :
    PSsd (cxOf CX0 P w K mg base nn__law_effect_text "_law_effect_text" (defScope st__law_effect_text) f cdv A outer s H E).nox G0 (defBody st__law_effect_text) (d__law_effect_text) :=
  (psd_one (psd_ret (pd_join pd_str (pd_add (pd_lst (pad_cons (pd_strc T.m_str (pd_ixN 0 pd_int)) (pad_cons pd_str pad_nil))) (PNd.frz (pn_lc [("_law_spot_here", 1)] rfl sc__law_effect_text.nd (pid_list (pd_ixN 0 pd_int)) (blkOk_by (N := nn__law_effect_text) (sc := defScope st__law_effect_text) (by decide +kernel)) (fun _ _ _ _ _ => (pgd_name 1 sc__law_effect_text.nd)) (fun _ _ _ _ _ => ptsd_nil) (fun _ _ _ _ _ => (pd_strc T.m_str (pdv 1)))))))))
/-! ### _law_phrase_text -/
abbrev st__law_phrase_text : Stmt := topS 36
abbrev nn__law_phrase_text : List Str := ["_law_steps_here", "_law_found", "_law_step", "_law_head_here"]
theorem sc__law_phrase_text : FnScope nn__law_phrase_text ["_law_steps_here"] (defScope st__law_phrase_text) := ⟨rfl, rfl, rfl, by decide +kernel, rfl, by decide +kernel, by decide +kernel⟩
def d__law_phrase_text (_law_phrase_text : Spd0) : TSd :=
    (dSeq (dSetO 1 (dNewL dNil))
    (dSeq (dFor (dItL (dVar 0)) (gdName 2)
    ((dIfS (dTru (dIsi "tuple" (dVar 2)))
    ((dSeq (dSet 3 (dOp rdAdd (dOp rdAdd (dIxN 2 (dC (.int 0))) (dC (.str " "))) (dCB rdStr (dCons (dIxN 2 (dC (.int 1))) dNil))))
    (dApp 1 (dOp rdAdd (dOp rdAdd (dOp rdAdd (dVar 3) (dC (.str " ("))) (dCall _law_phrase_text (dCons (dIxN 2 (dC (.int 2))) dNil))) (dC (.str ")"))))))
    ((dApp 1 (dVar 2))))))
    (dRet (dM1 rdJoin (dC (.str " ")) (dVar 1)))))
theorem bd__law_phrase_text {P : Program} {w : World} {K : PySem.W.Frag} {mg : Str → Option Value} {base : Heap} {ea : Str → Addr} {k : Nat} {f : Addr} {_law_phrase_text : Spd0} (T : Mgs K mg ea) (c__law_phrase_text : Cal0 P w K mg base "_law_phrase_text" k ["_law_steps_here"] _law_phrase_text) (cdv : Value) (A : Around) (outer : List Env) (s : Shared) (H : Hp) (E : XK) (hr : Room k (A.deeper (envOfC "_law_phrase_text" (defScope st__law_phrase_text) s.heap.objs.size f cdv))) :
    PSsd (cxOf CX0 P w K mg base nn__law_phrase_text "_law_phrase_text" (defScope st__law_phrase_text) f cdv A outer s H E).nox G0 (defBody st__law_phrase_text) (d__law_phrase_text _law_phrase_text) :=
  (psd_cons (psd_setO 1 sc__law_phrase_text.nd (pn_lst pad_nil))
      (psd_cons (psd_for PassesOwn.never rfl (pid_list (pdv 0)) (pgd_name 2 sc__law_phrase_text.nd) (psd_one (psd_if (pdt_tru (pd_isi "tuple" T.m_isinstance T.m_tuple (pdv 2))) (psd_cons (psd_set 3 sc__law_phrase_text.nd (pd_add (pd_add (pd_ixN 2 pd_int) pd_str) (pd_strc T.m_str (pd_ixN 2 pd_int))))
      (psd_one (psd_app 1 (pd_add (pd_add (pd_add (pdv 3) pd_str) (pd_call c__law_phrase_text hr (pad_cons (pd_ixN 2 pd_int) pad_nil))) pd_str)))) (psd_one (psd_app 1 (pdv 2))))))
      (psd_one (psd_ret (pd_join pd_str (pdv 1))))))
/-! ### _law_number_of -/
abbrev st__law_number_of : Stmt := topS 37
abbrev nn__law_number_of : List Str := ["_law_piece", "_law_sign"]
theorem sc__law_number_of : FnScope nn__law_number_of ["_law_piece"] (defScope st__law_number_of) := ⟨rfl, rfl, rfl, by decide +kernel, rfl, by decide +kernel, by decide +kernel⟩
def d__law_number_of : TSd :=
    (dSeq (dIfS (dOr (dNot (dTest (dChain (rdB0 fun i j => decide (i < j)) (rdB0 fun i j => decide (i < j)) (dC (.int 0)) (dLenN 0) (dC (.int 10))))) (dTest (dOp rdNe (dFrz (dLc (dItS (dVar 0)) (gdName 1) (dTest (dOp (rdIn true) (dVar 1) (dC (.str "0123456789")))) (dVar 1) [1])) (dFrz (dNewL dNil)))))
    ((dRet (dUn rdNeg (dC (.int 1)))))
    (dNext))
    (dRet (dIf (dTest (dOp rdEq (dCB rdStr (dCons (dCB rdInt (dCons (dVar 0) dNil)) dNil)) (dVar 0))) (dCB rdInt (dCons (dVar 0) dNil)) (dUn rdNeg (dC (.int 1))))))
theorem bd__law_number_of {P : Program} {w : World} {K : PySem.W.Frag} {mg : Str → Option Value} {base : Heap} {ea : Str → Addr} {k : Nat} {f : Addr} (T : Mgs K mg ea) (cdv : Value) (A : Around) (outer : List Env) (s : Shared) (H : Hp) (E : XK) (hr : Room k (A.deeper (envOfC "_law_number_of" (defScope st__law_number_of) s.heap.objs.size f cdv))) :
    PSsd (cxOf CX0 P w K mg base nn__law_number_of "_law_number_of" (defScope st__law_number_of) f cdv A outer s H E).nox G0 (defBody st__law_number_of) (d__law_number_of) :=
  (psd_cons (psd_if (PWd.pt (pdw_or (pdt_not (pdt_chain op_lt op_lt snd_B0 snd_B0 pd_int (pd_lenN 0 T.m_len) pd_int)) (pdw_or1 (pdt_ne hr (PNd.frz (pn_lc [("_law_sign", 1)] rfl sc__law_number_of.nd (pid_str (pdv 0)) (blkOk_by (N := nn__law_number_of) (sc := defScope st__law_number_of) (by decide +kernel)) (fun _ _ _ _ _ => (pgd_name 1 sc__law_number_of.nd)) (fun _ _ _ _ _ => (ptsd_one (pdt_notIn hr (pdv 1) pd_str))) (fun _ _ _ _ _ => (pdv 1)))) (pd_lst pad_nil))))) (psd_one (psd_ret (pd_neg pd_int))) psd_nil)
      (psd_one (psd_ret (pd_if (pdt_eq hr (pd_strc T.m_str (pd_intc T.m_int (pdv 0))) (pdv 0)) (pd_intc T.m_int (pdv 0)) (pd_neg pd_int)))))
/-! ### _law_is_title -/
abbrev st__law_is_title : Stmt := topS 38
abbrev nn__law_is_title : List Str := ["_law_piece", "_law_letters", "_law_sign"]
theorem sc__law_is_title : FnScope nn__law_is_title ["_law_piece"] (defScope st__law_is_title) := ⟨rfl, rfl, rfl, by decide +kernel, rfl, by decide +kernel, by decide +kernel⟩
def d__law_is_title : TSd :=
    (dSeq (dSet 1 (dC (.str "abcdefghijklmnopqrstuvwxyz")))
    (dRet (dAndV (dChain (rdB0 fun i j => decide (i < j)) (rdB0 fun i j => decide (i < j)) (dC (.int 0)) (dLenN 0) (dC (.int 9))) (dOp rdEq (dFrz (dLc (dItS (dVar 0)) (gdName 2) (dTest (dOp (rdIn true) (dVar 2) (dVar 1))) (dVar 2) [2])) (dFrz (dNewL dNil))))))
theorem bd__law_is_title {P : Program} {w : World} {K : PySem.W.Frag} {mg : Str → Option Value} {base : Heap} {ea : Str → Addr} {k : Nat} {f : Addr} (T : Mgs K mg ea) (cdv : Value) (A : Around) (outer : List Env) (s : Shared) (H : Hp) (E : XK) (hr : Room k (A.deeper (envOfC "_law_is_title" (defScope st__law_is_title) s.heap.objs.size f cdv))) :
    PSsd (cxOf CX0 P w K mg base nn__law_is_title "_law_is_title" (defScope st__law_is_title) f cdv A outer s H E).nox G0 (defBody st__law_is_title) (d__law_is_title) :=
  (psd_cons (psd_set 1 sc__law_is_title.nd pd_str)
      (psd_one (psd_ret (pd_and (pd_chain op_lt op_lt snd_B0 snd_B0 pd_int (pd_lenN 0 T.m_len) pd_int) (pd_one (pd_eq hr (PNd.frz (pn_lc [("_law_sign", 2)] rfl sc__law_is_title.nd (pid_str (pdv 0)) (blkOk_by (N := nn__law_is_title) (sc := defScope st__law_is_title) (by decide +kernel)) (fun _ _ _ _ _ => (pgd_name 2 sc__law_is_title.nd)) (fun _ _ _ _ _ => (ptsd_one (pdt_notIn hr (pdv 2) (pdv 1)))) (fun _ _ _ _ _ => (pdv 2)))) (pd_lst pad_nil)))))))
/-! ### _law_effect_of -/
abbrev st__law_effect_of : Stmt := topS 39
abbrev nn__law_effect_of : List Str := ["_law_wording", "_law_pieces", "_law_needs", "_law_gives", "_law_one"]
theorem sc__law_effect_of : FnScope nn__law_effect_of ["_law_wording"] (defScope st__law_effect_of) := ⟨rfl, rfl, rfl, by decide +kernel, rfl, by decide +kernel, by decide +kernel⟩
def d__law_effect_of (_law_least : Spd0) (_law_number_of : Spd0) : TSd :=
    (dSeq (dSetO 1 (dSplit (dVar 0) (dC (.str " "))))
    (dSeq (dIfS (dOr (dTest (dOp (rdB0 fun i j => decide (i < j)) (dLenN 1) (dC (.int 2)))) (dTest (dOp rdNe (dIxN 1 (dC (.int 1))) (dC (.str "|")))))
    ((dRet (dFrz (dNewL dNil))))
    (dNext))
    (dSeq (dSet 2 (dCall _law_number_of (dCons (dIxN 1 (dC (.int 0))) dNil)))
    (dSeq (dSetO 3 (dLc (dItL (dSl (dVar 1) (dPart (dC (.int 2))) dNoP)) (gdName 4) dYes (dCall _law_number_of (dCons (dVar 4) dNil)) [4]))
    (dSeq (dIfS (dOr (dTest (dOp (rdB0 fun i j => decide (i < j)) (dVar 2) (dC (.int 0)))) (dTest (dOp rdNe (dFrz (dLc (dItL (dVar 3)) (gdName 4) (dNot (dTest (dChain (rdB0 fun i j => decide (i < j)) (rdB0 fun i j => decide (i ≤ j)) (dC (.int 0)) (dVar 4) (dVar 2)))) (dVar 4) [4])) (dFrz (dNewL dNil)))))
    ((dRet (dFrz (dNewL dNil))))
    (dNext))
    (dRet (dIf (dTest (dOp rdEq (dCall _law_least (dCons (dVar 2) (dCons (dVar 3) dNil))) (dTup (dCons (dVar 2) (dCons (dVar 3) dNil))))) (dFrz (dNewL (dCons (dTup (dCons (dVar 2) (dCons (dVar 3) dNil))) dNil))) (dFrz (dNewL dNil)))))))))
theorem bd__law_effect_of {P : Program} {w : World} {K : PySem.W.Frag} {mg : Str → Option Value} {base : Heap} {ea : Str → Addr} {k : Nat} {f : Addr} {_law_least : Spd0} {_law_number_of : Spd0} (T : Mgs K mg ea) (c__law_least : Cal0 P w K mg base "_law_least" k ["_law_needs", "_law_gives"] _law_least) (c__law_number_of : Cal0 P w K mg base "_law_number_of" k ["_law_piece"] _law_number_of) (cdv : Value) (A : Around) (outer : List Env) (s : Shared) (H : Hp) (E : XK) (hr : Room k (A.deeper (envOfC "_law_effect_of" (defScope st__law_effect_of) s.heap.objs.size f cdv))) :
    PSsd (cxOf CX0 P w K mg base nn__law_effect_of "_law_effect_of" (defScope st__law_effect_of) f cdv A outer s H E).nox G0 (defBody st__law_effect_of) (d__law_effect_of _law_least _law_number_of) :=
  (psd_cons (psd_setO 1 sc__law_effect_of.nd (pn_split (pdv 0) pd_str))
      (psd_cons (psd_if (PWd.pt (pdw_or (pdt_lt (pd_lenN 1 T.m_len) pd_int) (pdw_or1 (pdt_ne hr (pd_ixN 1 pd_int) pd_str)))) (psd_one (psd_ret (pd_lst pad_nil))) psd_nil)
      (psd_cons (psd_set 2 sc__law_effect_of.nd (pd_call c__law_number_of hr (pad_cons (pd_ixN 1 pd_int) pad_nil)))
      (psd_cons (psd_setLcO 3 [("_law_one", 4)] rfl sc__law_effect_of.nd (pid_list (pd_slice (pdv 1) (pod_some pd_int) pod_none)) (blkOk_by (N := nn__law_effect_of) (sc := defScope st__law_effect_of) (by decide +kernel)) (fun _ _ _ _ _ => (pgd_name 4 sc__law_effect_of.nd)) (fun _ _ _ _ _ => ptsd_nil) (fun _ _ _ _ _ => (pd_call c__law_number_of hr (pad_cons (pdv 4) pad_nil))))
      (psd_cons (psd_if (PWd.pt (pdw_or (pdt_lt (pdv 2) pd_int) (pdw_or1 (pdt_ne hr (PNd.frz (pn_lc [("_law_one", 4)] rfl sc__law_effect_of.nd (pid_list (pdv 3)) (blkOk_by (N := nn__law_effect_of) (sc := defScope st__law_effect_of) (by decide +kernel)) (fun _ _ _ _ _ => (pgd_name 4 sc__law_effect_of.nd)) (fun _ _ _ _ _ => (ptsd_one (pdt_not (pdt_chain op_lt op_le snd_B0 snd_B0 pd_int (pdv 4) (pdv 2))))) (fun _ _ _ _ _ => (pdv 4)))) (pd_lst pad_nil))))) (psd_one (psd_ret (pd_lst pad_nil))) psd_nil)
      (psd_one (psd_ret (pd_if (pdt_eq hr (pd_call c__law_least hr (pad_cons (pdv 2) (pad_cons (pdv 3) pad_nil))) (pd_tup (pad_cons (pdv 2) (pad_cons (pdv 3) pad_nil)))) (pd_lst (pad_cons (pd_tup (pad_cons (pdv 2) (pad_cons (pdv 3) pad_nil))) pad_nil)) (pd_lst pad_nil)))))))))
/-! ### _law_close -/
abbrev st__law_close : Stmt := topS 40
abbrev nn__law_close : List Str := ["_law_wording", "_law_spot_here", "_law_depth", "_law_at"]
theorem sc__law_close : FnScope nn__law_close ["_law_wording", "_law_spot_here"] (defScope st__law_close) := ⟨rfl, rfl, rfl, by decide +kernel, rfl, by decide +kernel, by decide +kernel⟩
def d__law_close : TSd :=
    (dSeq (dSet 2 (dC (.int 0)))
    (dSeq (dFor (dRng2 (dVar 1) (dLenN 0)) (gdName 3)
    ((dSeq (dSet 2 (dOp (rdI0 fun i j => i - j) (dOp rdAdd (dVar 2) (dCB rdInt (dCons (dOp rdEq (dIxN 0 (dVar 3)) (dC (.str "("))) dNil))) (dCB rdInt (dCons (dOp rdEq (dIxN 0 (dVar 3)) (dC (.str ")"))) dNil))))
    (dIfS (dTest (dOp rdEq (dVar 2) (dC (.int 0))))
    ((dRet (dVar 3)))
    (dNext)))))
    (dRet (dUn rdNeg (dC (.int 1))))))
theorem bd__law_close {P : Program} {w : World} {K : PySem.W.Frag} {mg : Str → Option Value} {base : Heap} {ea : Str → Addr} {k : Nat} {f : Addr} (T : Mgs K mg ea) (cdv : Value) (A : Around) (outer : List Env) (s : Shared) (H : Hp) (E : XK) (hr : Room k (A.deeper (envOfC "_law_close" (defScope st__law_close) s.heap.objs.size f cdv))) :
    PSsd (cxOf CX0 P w K mg base nn__law_close "_law_close" (defScope st__law_close) f cdv A outer s H E).nox G0 (defBody st__law_close) (d__law_close) :=
  (psd_cons (psd_set 2 sc__law_close.nd pd_int)
      (psd_cons (psd_for PassesOwn.never rfl (pid_rng2 T.m_range (pdv 1) (pd_lenN 0 T.m_len)) (pgd_name 3 sc__law_close.nd) (psd_cons (psd_set 2 sc__law_close.nd (pd_sub (pd_add (pdv 2) (pd_intc T.m_int (pd_eq hr (pd_ixN 0 (pdv 3)) pd_str))) (pd_intc T.m_int (pd_eq hr (pd_ixN 0 (pdv 3)) pd_str))))
      (psd_one (psd_if (pdt_eq hr (pdv 2) pd_int) (psd_one (psd_ret (pdv 3))) psd_nil))))
      (psd_one (psd_ret (pd_neg pd_int)))))
/-! ### _law_head -/
abbrev st__law_head : Stmt := topS 41
abbrev nn__law_head : List Str := ["_law_wording", "_law_pieces", "_law_spot_here", "_law_end", "_law_inner", "_law_one"]
theorem sc__law_head : FnScope nn__law_head ["_law_wording"] (defScope st__law_head) := ⟨rfl, rfl, rfl, by decide +kernel, rfl, by decide +kernel, by decide +kernel⟩
def d__law_head (_law_is_title : Spd0) (_law_number_of : Spd0) (_law_phrase_of : Spd0) (_law_close : Spd0) : TSd :=
    (dSeq (dSetO 1 (dSplit (dVar 0) (dC (.str " "))))
    (dSeq (dIfS (dAnd (dTest (dOp (rdIn false) (dIxN 1 (dC (.int 0))) (dTup (dCons (dC (.str "under")) (dCons (dC (.str "times")) dNil))))) (dAnd (dTest (dOp (rdB0 fun i j => decide (j < i)) (dLenN 1) (dC (.int 2)))) (dTest (dOp rdEq (dSl (dIxN 1 (dC (.int 2))) dNoP (dPart (dC (.int 1)))) (dC (.str "("))))))
    ((dSeq (dSet 2 (dOp rdAdd (dOp rdAdd (dCB rdLen (dCons (dIxN 1 (dC (.int 0))) dNil)) (dCB rdLen (dCons (dIxN 1 (dC (.int 1))) dNil))) (dC (.int 2))))
    (dSeq (dSet 3 (dCall _law_close (dCons (dVar 0) (dCons (dVar 2) dNil))))
    (dSeq (dIfS (dAnd (dTest (dOp (rdB0 fun i j => decide (j < i)) (dVar 3) (dC (.int 0)))) (dTest (dOp (rdB0 fun i j => decide (j ≤ i)) (dCall _law_number_of (dCons (dIxN 1 (dC (.int 1))) dNil)) (dC (.int 0)))))
    ((dSeq (dSet 4 (dCall _law_phrase_of (dCons (dSl (dVar 0) (dPart (dOp rdAdd (dVar 2) (dC (.int 1)))) (dPart (dVar 3))) dNil)))
    (dRet (dFrz (dLc (dItL (dVar 4)) (gdName 5) dYes (dTup (dCons (dTup (dCons (dIxN 1 (dC (.int 0))) (dCons (dCB rdInt (dCons (dIxN 1 (dC (.int 1))) dNil)) (dCons (dVar 5) dNil)))) (dCons (dOp rdAdd (dVar 3) (dC (.int 1))) dNil))) [5])))))
    (dNext))
    (dRet (dFrz (dNewL dNil)))))))
    (dNext))
    (dRet (dIf (dTru (dCall _law_is_title (dCons (dIxN 1 (dC (.int 0))) dNil))) (dFrz (dNewL (dCons (dTup (dCons (dIxN 1 (dC (.int 0))) (dCons (dCB rdLen (dCons (dIxN 1 (dC (.int 0))) dNil)) dNil))) dNil))) (dFrz (dNewL dNil))))))
theorem bd__law_head {P : Program} {w : World} {K : PySem.W.Frag} {mg : Str → Option Value} {base : Heap} {ea : Str → Addr} {k : Nat} {f : Addr} {_law_is_title : Spd0} {_law_number_of : Spd0} {_law_phrase_of : Spd0} {_law_close : Spd0} (T : Mgs K mg ea) (c__law_is_title : Cal0 P w K mg base "_law_is_title" k ["_law_piece"] _law_is_title) (c__law_number_of : Cal0 P w K mg base "_law_number_of" k ["_law_piece"] _law_number_of) (c__law_phrase_of : Cal0 P w K mg base "_law_phrase_of" k ["_law_wording"] _law_phrase_of) (c__law_close : Cal0 P w K mg base "_law_close" k ["_law_wording", "_law_spot_here"] _law_close) (cdv : Value) (A : Around) (outer : List Env) (s : Shared) (H : Hp) (E : XK) (hr : Room k (A.deeper (envOfC "_law_head" (defScope st__law_head) s.heap.objs.size f cdv))) :
    PSsd (cxOf CX0 P w K mg base nn__law_head "_law_head" (defScope st__law_head) f cdv A outer s H E).nox G0 (defBody st__law_head) (d__law_head _law_is_title _law_number_of _law_phrase_of _law_close) :=
  (psd_cons (psd_setO 1 sc__law_head.nd (pn_split (pdv 0) pd_str))
      (psd_cons (psd_if (PWd.pt (pdw_and (pdt_in hr (pd_ixN 1 pd_int) (pd_tup (pad_cons pd_str (pad_cons pd_str pad_nil)))) (pdw_and (pdt_gt (pd_lenN 1 T.m_len) pd_int) (pdw_and1 (pdt_eq hr (pd_slice (pd_ixN 1 pd_int) pod_none (pod_some pd_int)) pd_str))))) (psd_cons (psd_set 2 sc__law_head.nd (pd_add (pd_add (pd_len T.m_len (pd_ixN 1 pd_int)) (pd_len T.m_len (pd_ixN 1 pd_int))) pd_int))
      (psd_cons (psd_set 3 sc__law_head.nd (pd_call c__law_close hr (pad_cons (pdv 0) (pad_cons (pdv 2) pad_nil))))
      (psd_cons (psd_if (PWd.pt (pdw_and (pdt_gt (pdv 3) pd_int) (pdw_and1 (pdt_ge (pd_call c__law_number_of hr (pad_cons (pd_ixN 1 pd_int) pad_nil)) pd_int)))) (psd_cons (psd_set 4 sc__law_head.nd (pd_call c__law_phrase_of hr (pad_cons (pd_slice (pdv 0) (pod_some (pd_add (pdv 2) pd_int)) (pod_some (pdv 3))) pad_nil)))
      (psd_one (psd_ret (PNd.frz (pn_lc [("_law_one", 5)] rfl sc__law_head.nd (pid_list (pdv 4)) (blkOk_by (N := nn__law_head) (sc := defScope st__law_head) (by decide +kernel)) (fun _ _ _ _ _ => (pgd_name 5 sc__law_head.nd)) (fun _ _ _ _ _ => ptsd_nil) (fun _ _ _ _ _ => (pd_tup (pad_cons (pd_tup (pad_cons (pd_ixN 1 pd_int) (pad_cons (pd_intc T.m_int (pd_ixN 1 pd_int)) (pad_cons (pdv 5) pad_nil)))) (pad_cons (pd_add (pdv 3) pd_int) pad_nil))))))))) psd_nil)
      (psd_one (psd_ret (pd_lst pad_nil)))))) psd_nil)
      (psd_one (psd_ret (pd_if (pdt_tru (pd_call c__law_is_title hr (pad_cons (pd_ixN 1 pd_int) pad_nil))) (pd_lst (pad_cons (pd_tup (pad_cons (pd_ixN 1 pd_int) (pad_cons (pd_len T.m_len (pd_ixN 1 pd_int)) pad_nil))) pad_nil)) (pd_lst pad_nil))))))
/-! ### _law_phrase_of -/
abbrev st__law_phrase_of : Stmt := topS 42
abbrev nn__law_phrase_of : List Str := ["_law_wording", "_law_found", "_law_rest", "_law_turn", "_law_head_here"]
theorem sc__law_phrase_of : FnScope nn__law_phrase_of ["_law_wording"] (defScope st__law_phrase_of) := ⟨rfl, rfl, rfl, by decide +kernel, rfl, by decide +kernel, by decide +kernel⟩
def d__law_phrase_of (_law_head : Spd0) : TSd :=
    (dSeq (dParNV 1 2 (dNewL dNil) (dVar 0))
    (dSeq (dFor (dRng1 (dOp rdAdd (dLenN 0) (dC (.int 1)))) (gdName 3)
    ((dSeq (dIfS (dTest (dOp rdEq (dVar 2) (dC (.str ""))))
    ((dRet (dFrz (dNewL (dCons (dVar 1) dNil)))))
    (dNext))
    (dSeq (dSet 4 (dCall _law_head (dCons (dVar 2) dNil)))
    (dSeq (dIfS (dTest (dOp rdEq (dVar 4) (dFrz (dNewL dNil))))
    ((dRet (dFrz (dNewL dNil))))
    (dNext))
    (dSeq (dApp 1 (dOp rdIx (dIxN 4 (dC (.int 0))) (dC (.int 0))))
    (dSeq (dSet 2 (dSl (dVar 2) (dPart (dOp rdIx (dIxN 4 (dC (.int 0))) (dC (.int 1)))) dNoP))
    (dIfS (dTest (dOp rdNe (dVar 2) (dC (.str ""))))
    ((dSeq (dIfS (dOr (dTest (dOp rdNe (dIxN 2 (dC (.int 0))) (dC (.str " ")))) (dTest (dOp rdEq (dVar 2) (dC (.str " ")))))
    ((dRet (dFrz (dNewL dNil))))
    (dNext))
    (dSet 2 (dSl (dVar 2) (dPart (dC (.int 1))) dNoP))))
    (dNext)))))))))
    (dRet (dFrz (dNewL dNil)))))
theorem bd__law_phrase_of {P : Program} {w : World} {K : PySem.W.Frag} {mg : Str → Option Value} {base : Heap} {ea : Str → Addr} {k : Nat} {f : Addr} {_law_head : Spd0} (T : Mgs K mg ea) (c__law_head : Cal0 P w K mg base "_law_head" k ["_law_wording"] _law_head) (cdv : Value) (A : Around) (outer : List Env) (s : Shared) (H : Hp) (E : XK) (hr : Room k (A.deeper (envOfC "_law_phrase_of" (defScope st__law_phrase_of) s.heap.objs.size f cdv))) :
    PSsd (cxOf CX0 P w K mg base nn__law_phrase_of "_law_phrase_of" (defScope st__law_phrase_of) f cdv A outer s H E).nox G0 (defBody st__law_phrase_of) (d__law_phrase_of _law_head) :=
  (psd_cons (psd_parNV 1 2 rfl sc__law_phrase_of.nd (pn_lst pad_nil) (pdv 0))
      (psd_cons (psd_for PassesOwn.never rfl (pid_rng1 T.m_range (pd_add (pd_lenN 0 T.m_len) pd_int)) (pgd_name 3 sc__law_phrase_of.nd) (psd_cons (psd_if (pdt_eq hr (pdv 2) pd_str) (psd_one (psd_ret (pd_lst (pad_cons (pdv 1) pad_nil)))) psd_nil)
      (psd_cons (psd_set 4 sc__law_phrase_of.nd (pd_call c__law_head hr (pad_cons (pdv 2) pad_nil)))
      (psd_cons (psd_if (pdt_eq hr (pdv 4) (pd_lst pad_nil)) (psd_one (psd_ret (pd_lst pad_nil))) psd_nil)
      (psd_cons (psd_app 1 (pd_ix (pd_ixN 4 pd_int) pd_int))
      (psd_cons (psd_set 2 sc__law_phrase_of.nd (pd_slice (pdv 2) (pod_some (pd_ix (pd_ixN 4 pd_int) pd_int)) pod_none))
      (psd_one (psd_if (pdt_ne hr (pdv 2) pd_str) (psd_cons (psd_if (PWd.pt (pdw_or (pdt_ne hr (pd_ixN 2 pd_int) pd_str) (pdw_or1 (pdt_eq hr (pdv 2) pd_str)))) (psd_one (psd_ret (pd_lst pad_nil))) psd_nil)
      (psd_one (psd_set 2 sc__law_phrase_of.nd (pd_slice (pdv 2) (pod_some pd_int) pod_none)))) psd_nil))))))))
      (psd_one (psd_ret (pd_lst pad_nil)))))
/-! ### _law_caught_one -/
abbrev st__law_caught_one : Stmt := topS 43
abbrev nn__law_caught_one : List Str := ["_law_wording", "_law_way", "_law_found", "_law_again", "e", "_law_odd"]
theorem sc__law_caught_one : FnScope nn__law_caught_one ["_law_wording", "_law_way"] (defScope st__law_caught_one) := ⟨rfl, rfl, rfl, by decide +kernel, rfl, by decide +kernel, by decide +kernel⟩
def d__law_caught_one (show_effect : Spd0) (read_effect : SpdX) (show_phrase : Spd0) (read_phrase : SpdX) : TSd :=
    (dSeq (dSetO 2 (dNewL dNil))
    (dSeq (dTry 4 "Unreadable" (fun Ed =>
    (dIfS (dTest (dOp rdEq (dVar 1) (dC (.int 0))))
    ((dSeq (dSet 3 (dCallX read_effect Ed (dCons (dVar 0) dNil)))
    (dSet 2 (dIf (dTest (dOp rdEq (dCall show_effect (dCons (dVar 3) dNil)) (dVar 0))) (dFrz (dNewL (dCons (dVar 3) dNil))) (dFrz (dNewL (dCons (dC (.str "other")) dNil)))))))
    ((dSeq (dSet 3 (dCallX read_phrase Ed (dCons (dVar 0) dNil)))
    (dSet 2 (dIf (dTest (dOp rdEq (dCall show_phrase (dCons (dVar 3) dNil)) (dVar 0))) (dFrz (dNewL (dCons (dVar 3) dNil))) (dFrz (dNewL (dCons (dC (.str "other")) dNil)))))))))
    (fun a d => (dSeq (dSet 5 (dOrV (dExI 4 a false) (dNotV (dExI 4 a true))))
    (dSet 2 (dIf (dOr (dTru (dVar 5)) (dTest (dOp rdNe (dExV 4 a d) (dVar 0)))) (dFrz (dNewL (dCons (dC (.str "odd")) dNil))) (dFrz (dNewL dNil)))))))
    (dRet (dVar 2))))
theorem bd__law_caught_one {P : Program} {w : World} {K : PySem.W.Frag} {mg : Str → Option Value} {base : Heap} {ea : Str → Addr} {k : Nat} {f : Addr} {show_effect : Spd0} {read_effect : SpdX} {show_phrase : Spd0} {read_phrase : SpdX} (T : Mgs K mg ea) (c_show_effect : Cal0 P w K mg base "show_effect" k ["one"] show_effect) (c_read_effect : CalX P w K mg base "read_effect" k ["text"] read_effect) (ck_read_effect : CalXK P w K mg base "read_effect" k "text" read_effect) (c_show_phrase : Cal0 P w K mg base "show_phrase" k ["phrase"] show_phrase) (c_read_phrase : CalX P w K mg base "read_phrase" k ["text"] read_phrase) (cdv : Value) (A : Around) (outer : List Env) (s : Shared) (H : Hp) (E : XK) (hr : Room k (A.deeper (envOfC "_law_caught_one" (defScope st__law_caught_one) s.heap.objs.size f cdv))) :
    PSsd (cxOf CX0 P w K mg base nn__law_caught_one "_law_caught_one" (defScope st__law_caught_one) f cdv A outer s H E).nox G0 (defBody st__law_caught_one) (d__law_caught_one show_effect read_effect show_phrase read_phrase) :=
  (psd_cons (psd_setO 2 sc__law_caught_one.nd (pn_lst pad_nil))
      (psd_cons (psd_try 4 (x0 := "Unreadable") rfl rfl sc__law_caught_one.nd T.gC_Unreadable T.exm_Unreadable_PileError (⟨rfl, by decide, .inl T.gC_PileError⟩) (fun W pn xe Ed tk po => (psd_one (psd_if (pdt_eq hr (pdv 1) pd_int) (psd_cons (psd_set 3 sc__law_caught_one.nd (pd_callXK ck_read_effect hr tk (pdv 0)))
      (psd_one (psd_set 2 sc__law_caught_one.nd (pd_if (pdt_eq hr (pd_call c_show_effect hr (pad_cons (pdv 3) pad_nil)) (pdv 0)) (pd_lst (pad_cons (pdv 3) pad_nil)) (pd_lst (pad_cons pd_str pad_nil)))))) (psd_cons (psd_set 3 sc__law_caught_one.nd (pd_callX c_read_phrase hr tk (pad_cons (pdv 0) pad_nil)))
      (psd_one (psd_set 2 sc__law_caught_one.nd (pd_if (pdt_eq hr (pd_call c_show_phrase hr (pad_cons (pdv 3) pad_nil)) (pdv 0)) (pd_lst (pad_cons (pdv 3) pad_nil)) (pd_lst (pad_cons pd_str pad_nil)))))))))
      (fun a oe pn v d dx hz hf => (have hus := Room.u2 hr; (psd_cons (psd_set 5 sc__law_caught_one.nd (pd_or (pd_exI3 4 (b := false) T.m_isinstance T.gC_InvalidEffect T.gC_InvalidStep T.gC_UnknownWord T.cl_Unreadable T.ec_Unreadable T.ki_InvalidEffect_InvalidStep_UnknownWord hz hf) (pd_one (pd_not (pd_exI 4 (b := true) T.m_isinstance T.gC_Unreadable T.cl_Unreadable T.ec_Unreadable T.ki_Unreadable hz hf)))))
      (psd_one (psd_set 2 sc__law_caught_one.nd (pd_if (PWd.pt (pdw_or (pdt_tru (pdv 5)) (pdw_or1 (pdt_neU hus (pd_exV 4 T.xf_Unreadable T.nv_Unreadable hz hf) (pdv 0))))) (pd_lst (pad_cons pd_str pad_nil)) (pd_lst pad_nil))))))))
      (psd_one (psd_ret (pdv 2)))))
/-! ### _law_odd_one -/
abbrev st__law_odd_one : Stmt := topS 44
abbrev nn__law_odd_one : List Str := ["_law_purse_here", "_law_wording", "_law_menu", "_law_leaf", "_law_turn", "_law_many"]
theorem sc__law_odd_one : FnScope nn__law_odd_one ["_law_purse_here", "_law_wording"] (defScope st__law_odd_one) := ⟨rfl, rfl, rfl, by decide +kernel, rfl, by decide +kernel, by decide +kernel⟩
def d__law_odd_one (_law_coin : SpdP) : TSd :=
    (dSeq (dSetO 2 (dNewL (dCons (dC (.str "")) (dCons (dC (.str " ")) (dCons (dC (.str "0 |")) (dCons (dC (.str "0 | ")) (dCons (dC (.str "0|")) (dCons (dC (.str "0")) (dCons (dC (.str "|")) (dCons (dC (.str "1 |")) (dCons (dC (.str "1 | 1")) (dCons (dC (.str "1 | 1 1")) (dCons (dC (.str "2 | 2 1")) dNil)))))))))))))
    (dSeq (dSet 2 (dOp rdAdd (dVar 2) (dFrz (dNewL (dCons (dC (.str "2 | 1 2")) (dCons (dC (.str "2 | 1 2 2")) (dCons (dC (.str "3 | 3 1 2")) (dCons (dC (.str "3 | 2 1 3")) (dCons (dC (.str "1 | 2")) (dCons (dC (.str "1 | 0")) dNil))))))))))
    (dSeq (dSet 2 (dOp rdAdd (dVar 2) (dFrz (dNewL (dCons (dC (.str "-1 |")) (dCons (dC (.str "01 |")) (dCons (dC (.str "1 | 01")) (dCons (dC (.str "1 || 1")) (dCons (dC (.str "1 | 1,1")) (dCons (dC (.str "1 |  1")) (dCons (dC (.str " 1 | 1 1")) (dCons (dC (.str "1 | 1 1 ")) dNil))))))))))))
    (dSeq (dSet 2 (dOp rdAdd (dVar 2) (dFrz (dNewL (dCons (dC (.str "1 | 1 |")) (dCons (dC (.str "a | 1")) (dCons (dC (.str "1 | a")) (dCons (dC (.str "999999999 |")) (dCons (dC (.str "1000000000 |")) dNil)))))))))
    (dSeq (dSet 2 (dOp rdAdd (dVar 2) (dFrz (dNewL (dCons (dC (.str "a")) (dCons (dC (.str "a b")) (dCons (dC (.str "a  b")) (dCons (dC (.str " a")) (dCons (dC (.str "a ")) (dCons (dC (.str "A")) (dCons (dC (.str "a1")) (dCons (dC (.str "abcdefgh")) (dCons (dC (.str "abcdefghi")) (dCons (dC (.str "under")) dNil))))))))))))))
    (dSeq (dSet 2 (dOp rdAdd (dVar 2) (dFrz (dNewL (dCons (dC (.str "times")) (dCons (dC (.str "under times")) (dCons (dC (.str "under 1 ()")) (dCons (dC (.str "under 1 (a)")) (dCons (dC (.str "under 1 (a b) c")) dNil)))))))))
    (dSeq (dSet 2 (dOp rdAdd (dVar 2) (dFrz (dNewL (dCons (dC (.str "under 1 a")) (dCons (dC (.str "under (a)")) (dCons (dC (.str "under 1(a)")) (dCons (dC (.str "under  1 (a)")) (dCons (dC (.str "under 1  (a)")) dNil)))))))))
    (dSeq (dSet 2 (dOp rdAdd (dVar 2) (dFrz (dNewL (dCons (dC (.str "under 1 (a")) (dCons (dC (.str "under 1 a)")) (dCons (dC (.str "under 1 (a))")) (dCons (dC (.str "under -1 (a)")) (dCons (dC (.str "under 01 (a)")) dNil)))))))))
    (dSeq (dSet 2 (dOp rdAdd (dVar 2) (dFrz (dNewL (dCons (dC (.str "under 1 ( a)")) (dCons (dC (.str "under 1 (a )")) (dCons (dC (.str "under 1 ( )")) (dCons (dC (.str "times 2 (under 1 (a) b) c")) dNil))))))))
    (dSeq (dSet 2 (dOp rdAdd (dVar 2) (dFrz (dNewL (dCons (dC (.str "times 2 (a)b")) (dCons (dC (.str "times 2 (a) b")) (dCons (dC (.str "times 2 (a)  b")) (dCons (dC (.str "(a)")) (dCons (dC (.str "a (b)")) (dCons (dC (.str "dip 1 (a)")) dNil))))))))))
    (dSeq (dSet 2 (dOp rdAdd (dVar 2) (dFrz (dNewL (dCons (dC (.str "times 999999999 (a)")) (dCons (dC (.str "times 1000000000 (a)")) (dCons (dC (.str "times 2 (times)")) dNil)))))))
    (dSeq (dSet 2 (dOp rdAdd (dVar 2) (dFrz (dNewL (dCons (dC (.str "times 2 (times 2)")) (dCons (dC (.str "times 2 (times 2 ())")) (dCons (dC (.str "times times 2 (a)")) (dCons (dC (.str "a 2")) (dCons (dC (.str "2")) dNil)))))))))
    (dSeq (dSet 3 (dC (.str "")))
    (dSeq (dFor (dRng1 (dCallP 0 _law_coin (dCons (dC (.int 20)) dNil))) (gdName 4)
    ((dSet 3 (dOp rdAdd (dOp rdAdd (dC (.str "times 1 (")) (dVar 3)) (dC (.str ")"))))))
    (dSeq (dSet 5 (dOp rdAdd (dC (.int 1)) (dCallP 0 _law_coin (dCons (dC (.int 300)) dNil))))
    (dSeq (dSet 2 (dOp rdAdd (dVar 2) (dFrz (dNewL (dCons (dVar 3) (dCons (dOp rdAdd (dVar 3) (dC (.str ")"))) (dCons (dSl (dVar 3) dNoP (dPart (dUn rdNeg (dC (.int 1))))) (dCons (dOp rdAdd (dVar 3) (dC (.str " a"))) (dCons (dOp rdAdd (dC (.str "60 | ")) (dM1 rdJoin (dC (.str " ")) (dOp rdMul (dFrz (dNewL (dCons (dC (.str "7")) dNil))) (dVar 5)))) dNil)))))))))
    (dSeq (dSet 2 (dOp rdAdd (dVar 2) (dFrz (dNewL (dCons (dM1 rdJoin (dC (.str " ")) (dOp rdMul (dFrz (dNewL (dCons (dC (.str "ab")) dNil))) (dVar 5))) (dCons (dOp rdAdd (dM1 rdJoin (dC (.str " ")) (dOp rdMul (dFrz (dNewL (dCons (dC (.str "ab")) dNil))) (dVar 5))) (dC (.str " "))) dNil))))))
    (dSeq (dSet 2 (dOp rdAdd (dVar 2) (dFrz (dNewL (dCons (dOp rdAdd (dVar 1) (dC (.str " "))) (dCons (dOp rdAdd (dVar 1) (dC (.str " 1"))) (dCons (dOp rdAdd (dVar 1) (dC (.str " a"))) (dCons (dRepl (dVar 1) " (" "(") dNil))))))))
    (dSeq (dSet 2 (dOp rdAdd (dVar 2) (dFrz (dNewL (dCons (dRepl (dVar 1) ")" "") (dCons (dRepl (dVar 1) "|" "") (dCons (dUn rdRevS (dVar 1)) dNil)))))))
    (dSeq (dRet (dIxN 2 (dCallP 0 _law_coin (dCons (dLenN 2) dNil))))
    dNext))))))))))))))))))))
theorem bd__law_odd_one {P : Program} {w : World} {K : PySem.W.Frag} {mg : Str → Option Value} {base : Heap} {ea : Str → Addr} {k : Nat} {f : Addr} {_law_coin : SpdP} (T : Mgs K mg ea) (c__law_coin : CalP P w K mg base "_law_coin" k ["_law_purse_here", "_law_many"] _law_coin) (cdv : Value) (A : Around) (outer : List Env) (s : Shared) (H : Hp) (E : XK) (hr : Room k (A.deeper (envOfC "_law_odd_one" (defScope st__law_odd_one) s.heap.objs.size f cdv))) :
    PSsd (cxOf CX0 P w K mg base nn__law_odd_one "_law_odd_one" (defScope st__law_odd_one) f cdv A outer s H E).nox G0 (defBody st__law_odd_one) (d__law_odd_one _law_coin) :=
  (psd_cons (psd_setO 2 sc__law_odd_one.nd (pn_lst (pad_cons pd_str (pad_cons pd_str (pad_cons pd_str (pad_cons pd_str (pad_cons pd_str (pad_cons pd_str (pad_cons pd_str (pad_cons pd_str (pad_cons pd_str (pad_cons pd_str (pad_cons pd_str pad_nil)))))))))))))
      (psd_cons (psd_set 2 sc__law_odd_one.nd (pd_add (pdv 2) (pd_lst (pad_cons pd_str (pad_cons pd_str (pad_cons pd_str (pad_cons pd_str (pad_cons pd_str (pad_cons pd_str pad_nil)))))))))
      (psd_cons (psd_set 2 sc__law_odd_one.nd (pd_add (pdv 2) (pd_lst (pad_cons pd_str (pad_cons pd_str (pad_cons pd_str (pad_cons pd_str (pad_cons pd_str (pad_cons pd_str (pad_cons pd_str (pad_cons pd_str pad_nil)))))))))))
      (psd_cons (psd_set 2 sc__law_odd_one.nd (pd_add (pdv 2) (pd_lst (pad_cons pd_str (pad_cons pd_str (pad_cons pd_str (pad_cons pd_str (pad_cons pd_str pad_nil))))))))
      (psd_cons (psd_set 2 sc__law_odd_one.nd (pd_add (pdv 2) (pd_lst (pad_cons pd_str (pad_cons pd_str (pad_cons pd_str (pad_cons pd_str (pad_cons pd_str (pad_cons pd_str (pad_cons pd_str (pad_cons pd_str (pad_cons pd_str (pad_cons pd_str pad_nil)))))))))))))
      (psd_cons (psd_set 2 sc__law_odd_one.nd (pd_add (pdv 2) (pd_lst (pad_cons pd_str (pad_cons pd_str (pad_cons pd_str (pad_cons pd_str (pad_cons pd_str pad_nil))))))))
      (psd_cons (psd_set 2 sc__law_odd_one.nd (pd_add (pdv 2) (pd_lst (pad_cons pd_str (pad_cons pd_str (pad_cons pd_str (pad_cons pd_str (pad_cons pd_str pad_nil))))))))
      (psd_cons (psd_set 2 sc__law_odd_one.nd (pd_add (pdv 2) (pd_lst (pad_cons pd_str (pad_cons pd_str (pad_cons pd_str (pad_cons pd_str (pad_cons pd_str pad_nil))))))))
      (psd_cons (psd_set 2 sc__law_odd_one.nd (pd_add (pdv 2) (pd_lst (pad_cons pd_str (pad_cons pd_str (pad_cons pd_str (pad_cons pd_str pad_nil)))))))
      (psd_cons (psd_set 2 sc__law_odd_one.nd (pd_add (pdv 2) (pd_lst (pad_cons pd_str (pad_cons pd_str (pad_cons pd_str (pad_cons pd_str (pad_cons pd_str (pad_cons pd_str pad_nil)))))))))
      (psd_cons (psd_set 2 sc__law_odd_one.nd (pd_add (pdv 2) (pd_lst (pad_cons pd_str (pad_cons pd_str (pad_cons pd_str pad_nil))))))
      (psd_cons (psd_set 2 sc__law_odd_one.nd (pd_add (pdv 2) (pd_lst (pad_cons pd_str (pad_cons pd_str (pad_cons pd_str (pad_cons pd_str (pad_cons pd_str pad_nil))))))))
      (psd_strT 3 sc__law_odd_one.nd (psstd_cons (PSTd.of (psd_for PassesOwn.never rfl (pid_rng1 T.m_range (pd_callP 0 c__law_coin hr (pad_cons pd_int pad_nil))) (pgd_name 4 sc__law_odd_one.nd) (psd_one (psd_set 3 sc__law_odd_one.nd (pd_add (pd_add pd_str (pdv 3)) pd_str)))))
      (psstd_cons (PSTd.of (psd_set 5 sc__law_odd_one.nd (pd_add pd_int (pd_callP 0 c__law_coin hr (pad_cons pd_int pad_nil)))))
      (psstd_cons (PSTd.of (psd_set 2 sc__law_odd_one.nd (pd_add (pdv 2) (pd_lst (pad_cons (pdv 3) (pad_cons (pd_add (pdv 3) pd_str) (pad_cons (pd_slice (pdv 3) pod_none (pod_some (pd_neg pd_int))) (pad_cons (pd_add (pdv 3) pd_str) (pad_cons (pd_add pd_str (pd_join pd_str (pd_mul (pd_lst (pad_cons pd_str pad_nil)) (pdv 5)))) pad_nil)))))))))
      (psstd_cons (PSTd.of (psd_set 2 sc__law_odd_one.nd (pd_add (pdv 2) (pd_lst (pad_cons (pd_join pd_str (pd_mul (pd_lst (pad_cons pd_str pad_nil)) (pdv 5))) (pad_cons (pd_add (pd_join pd_str (pd_mul (pd_lst (pad_cons pd_str pad_nil)) (pdv 5))) pd_str) pad_nil))))))
      (psstd_cons (pstd_set 2 sc__law_odd_one.nd (petd_add (PETd.of (pdv 2)) (petd_lst (patd_cons (PETd.of (pd_add (pdv 1) pd_str)) (patd_cons (PETd.of (pd_add (pdv 1) pd_str)) (patd_cons (PETd.of (pd_add (pdv 1) pd_str)) (patd_cons (petd_repl (pdv 1)) patd_nil)))))))
      (psstd_cons (pstd_set 2 sc__law_odd_one.nd (petd_add (PETd.of (pdv 2)) (petd_lst (patd_cons (petd_repl (pdv 1)) (patd_cons (petd_repl (pdv 1)) (patd_cons (PETd.of (pd_revS (pdv 1))) patd_nil))))))
      (psstd_cons (PSTd.of (psd_ret (pd_ixN 2 (pd_callP 0 c__law_coin hr (pad_cons (pd_lenN 2 T.m_len) pad_nil)))))
      (PSsTd.of psd_nil)))))))))))))))))))))
/-! ### _law_marred_one -/
abbrev st__law_marred_one : Stmt := topS 45
abbrev nn__law_marred_one : List Str := ["_law_purse_here", "_law_wording", "_law_spot", "_law_way", "_law_wide", "_law_signs", "_law_sign", "_law_between", "_law_pieces", "_law_left", "_law_right_here", "_law_piece"]
theorem sc__law_marred_one : FnScope nn__law_marred_one ["_law_purse_here", "_law_wording"] (defScope st__law_marred_one) := ⟨rfl, rfl, rfl, by decide +kernel, rfl, by decide +kernel, by decide +kernel⟩
def d__law_marred_one (_law_coin : SpdP) (_law_odd_one : SpdP) : TSd :=
    (dSeq (dPar 2 3 (dCallP 0 _law_coin (dCons (dOp rdAdd (dLenN 1) (dC (.int 1))) dNil)) (dCallP 0 _law_coin (dCons (dC (.int 8)) dNil)))
    (dSeq (dSet 4 (dC (.str "ABCDEFGHIJKLMNOPQRSTUVWXYZ0123456789abcdefghijklmnopqrstuvwxyz !#$&'()*+,-./:;<=>?\x40[]^_`{|}~\"\\")))
    (dSeq (dSet 5 (dOp rdIx (dFrz (dNewL (dCons (dC (.str "ab 1|(2)under times")) (dCons (dVar 4) dNil)))) (dCallP 0 _law_coin (dCons (dC (.int 2)) dNil))))
    (dSeq (dSet 6 (dIxN 5 (dCallP 0 _law_coin (dCons (dLenN 5) dNil))))
    (dSeq (dIfS (dTest (dOp rdEq (dVar 3) (dC (.int 0))))
    ((dRet (dOp rdAdd (dOp rdAdd (dSl (dVar 1) dNoP (dPart (dVar 2))) (dVar 6)) (dSl (dVar 1) (dPart (dVar 2)) dNoP))))
    (dNext))
    (dSeq (dIfS (dTest (dOp rdEq (dVar 3) (dC (.int 1))))
    ((dRet (dOp rdAdd (dSl (dVar 1) dNoP (dPart (dVar 2))) (dSl (dVar 1) (dPart (dOp rdAdd (dVar 2) (dC (.int 1)))) dNoP))))
    (dNext))
    (dSeq (dIfS (dTest (dOp rdEq (dVar 3) (dC (.int 2))))
    ((dRet (dOp rdAdd (dOp rdAdd (dSl (dVar 1) dNoP (dPart (dVar 2))) (dVar 6)) (dSl (dVar 1) (dPart (dOp rdAdd (dVar 2) (dC (.int 1)))) dNoP))))
    (dNext))
    (dSeq (dIfS (dTest (dOp rdEq (dVar 3) (dC (.int 3))))
    ((dRet (dCallP 0 _law_odd_one (dCons (dVar 1) dNil))))
    (dNext))
    (dSeq (dIfS (dTest (dOp (rdIn false) (dVar 3) (dTup (dCons (dC (.int 4)) (dCons (dC (.int 5)) dNil)))))
    ((dSeq (dSet 7 (dOp rdIx (dFrz (dNewL (dCons (dC (.str " ")) (dCons (dC (.str " (")) dNil)))) (dOp (rdI0 fun i j => i - j) (dVar 3) (dC (.int 4)))))
    (dSeq (dSetO 8 (dSplit (dVar 1) (dVar 7)))
    (dSeq (dPar 9 10 (dCallP 0 _law_coin (dCons (dLenN 8) dNil)) (dCallP 0 _law_coin (dCons (dLenN 8) dNil)))
    (dSeq (dSet 11 (dIxN 8 (dVar 9)))
    (dSeq (dPutIx 8 (dVar 9) (dIxN 8 (dVar 10)))
    (dSeq (dPutIx 8 (dVar 10) (dVar 11))
    (dRet (dM1 rdJoin (dVar 7) (dVar 8))))))))))
    (dNext))
    (dRet (dVar 1)))))))))))
theorem bd__law_marred_one {P : Program} {w : World} {K : PySem.W.Frag} {mg : Str → Option Value} {base : Heap} {ea : Str → Addr} {k : Nat} {f : Addr} {_law_coin : SpdP} {_law_odd_one : SpdP} (T : Mgs K mg ea) (c__law_coin : CalP P w K mg base "_law_coin" k ["_law_purse_here", "_law_many"] _law_coin) (c__law_odd_one : CalP P w K mg base "_law_odd_one" k ["_law_purse_here", "_law_wording"] _law_odd_one) (cdv : Value) (A : Around) (outer : List Env) (s : Shared) (H : Hp) (E : XK) (hr : Room k (A.deeper (envOfC "_law_marred_one" (defScope st__law_marred_one) s.heap.objs.size f cdv))) :
    PSsd (cxOf CX0 P w K mg base nn__law_marred_one "_law_marred_one" (defScope st__law_marred_one) f cdv A outer s H E).nox G0 (defBody st__law_marred_one) (d__law_marred_one _law_coin _law_odd_one) :=
  (psd_cons (psd_par 2 3 rfl sc__law_marred_one.nd (pd_callP 0 c__law_coin hr (pad_cons (pd_add (pd_lenN 1 T.m_len) pd_int) pad_nil)) (pd_callP 0 c__law_coin hr (pad_cons pd_int pad_nil)))
      (psd_cons (psd_set 4 sc__law_marred_one.nd pd_str)
      (psd_cons (psd_set 5 sc__law_marred_one.nd (pd_ix (pd_lst (pad_cons pd_str (pad_cons (pdv 4) pad_nil))) (pd_callP 0 c__law_coin hr (pad_cons pd_int pad_nil))))
      (psd_cons (psd_set 6 sc__law_marred_one.nd (pd_ixN 5 (pd_callP 0 c__law_coin hr (pad_cons (pd_lenN 5 T.m_len) pad_nil))))
      (psd_cons (psd_if (pdt_eq hr (pdv 3) pd_int) (psd_one (psd_ret (pd_add (pd_add (pd_slice (pdv 1) pod_none (pod_some (pdv 2))) (pdv 6)) (pd_slice (pdv 1) (pod_some (pdv 2)) pod_none)))) psd_nil)
      (psd_cons (psd_if (pdt_eq hr (pdv 3) pd_int) (psd_one (psd_ret (pd_add (pd_slice (pdv 1) pod_none (pod_some (pdv 2))) (pd_slice (pdv 1) (pod_some (pd_add (pdv 2) pd_int)) pod_none)))) psd_nil)
      (psd_cons (psd_if (pdt_eq hr (pdv 3) pd_int) (psd_one (psd_ret (pd_add (pd_add (pd_slice (pdv 1) pod_none (pod_some (pdv 2))) (pdv 6)) (pd_slice (pdv 1) (pod_some (pd_add (pdv 2) pd_int)) pod_none)))) psd_nil)
      (psd_cons (psd_if (pdt_eq hr (pdv 3) pd_int) (psd_one (psd_ret (pd_callP 0 c__law_odd_one hr (pad_cons (pdv 1) pad_nil)))) psd_nil)
      (psd_cons (psd_if (pdt_in hr (pdv 3) (pd_tup (pad_cons pd_int (pad_cons pd_int pad_nil)))) (psd_cons (psd_set 7 sc__law_marred_one.nd (pd_ix (pd_lst (pad_cons pd_str (pad_cons pd_str pad_nil))) (pd_sub (pdv 3) pd_int)))
      (psd_cons (psd_setO 8 sc__law_marred_one.nd (pn_split (pdv 1) (pdv 7)))
      (psd_cons (psd_par 9 10 rfl sc__law_marred_one.nd (pd_callP 0 c__law_coin hr (pad_cons (pd_lenN 8 T.m_len) pad_nil)) (pd_callP 0 c__law_coin hr (pad_cons (pd_lenN 8 T.m_len) pad_nil)))
      (psd_cons (psd_set 11 sc__law_marred_one.nd (pd_ixN 8 (pdv 9)))
      (psd_cons (psd_putIx 8 (pd_ixN 8 (pdv 10)) (pdv 9))
      (psd_cons (psd_putIx 8 (pdv 11) (pdv 10))
      (psd_one (psd_ret (pd_join (pdv 7) (pdv 8)))))))))) psd_nil)
      (psd_one (psd_ret (pdv 1))))))))))))
/-! ### _law_right -/
abbrev st__law_right : Stmt := topS 46
abbrev nn__law_right : List Str := ["_law_purse_here", "_law_labels", "_law_words_here", "_law_turn", "_law_bent"]
theorem sc__law_right : FnScope nn__law_right ["_law_purse_here"] (defScope st__law_right) := ⟨rfl, rfl, rfl, by decide +kernel, rfl, by decide +kernel, by decide +kernel⟩
def d__law_right (_law_caught_one : Spd0) (_law_phrase_of : Spd0) (_law_effect_of : Spd0) (_law_marred_one : SpdP) (_law_coin : SpdP) (_law_phrase_text : Spd0) (_law_drawn_phrase : SpdP) (_law_effect_text : Spd0) (_law_drawn_effect : SpdP) (_law_words : SpdP) : TSd :=
    (dSeq (dSet 1 (dCallP 0 _law_words (dCons (dC (.int 4)) dNil)))
    (dSeq (dSetO 2 (dNewL (dCons (dCall _law_effect_text (dCons (dCallP 0 _law_drawn_effect (dCons (dC (.int 4)) (dCons (dC (.int 5)) dNil))) dNil)) dNil)))
    (dSeq (dApp 2 (dCall _law_phrase_text (dCons (dCallP 0 _law_drawn_phrase (dCons (dVar 1) (dCons (dC (.int 4)) (dCons (dC (.int 3)) (dCons (dC (.int 4)) dNil))))) dNil)))
    (dSeq (dFor (dRng1 (dC (.int 8))) (gdName 3)
    ((dSeq (dSet 4 (dCallP 0 _law_marred_one (dCons (dIxN 2 (dCallP 0 _law_coin (dCons (dC (.int 2)) dNil))) dNil)))
    (dSeq (dIfS (dAnd (dTest (dOp (rdB0 fun i j => decide (i ≤ j)) (dLenN 4) (dC (.int 3000)))) (dTest (dOp rdNe (dCall _law_caught_one (dCons (dVar 4) (dCons (dC (.int 0)) dNil))) (dCall _law_effect_of (dCons (dVar 4) dNil)))))
    ((dRet (dC (.bool false))))
    (dNext))
    (dIfS (dAnd (dTest (dOp (rdB0 fun i j => decide (i ≤ j)) (dLenN 4) (dC (.int 3000)))) (dTest (dOp rdNe (dCall _law_caught_one (dCons (dVar 4) (dCons (dC (.int 1)) dNil))) (dCall _law_phrase_of (dCons (dVar 4) dNil)))))
    ((dRet (dC (.bool false))))
    (dNext))))))
    (dRet (dC (.bool true)))))))
theorem bd__law_right {P : Program} {w : World} {K : PySem.W.Frag} {mg : Str → Option Value} {base : Heap} {ea : Str → Addr} {k : Nat} {f : Addr} {_law_caught_one : Spd0} {_law_phrase_of : Spd0} {_law_effect_of : Spd0} {_law_marred_one : SpdP} {_law_coin : SpdP} {_law_phrase_text : Spd0} {_law_drawn_phrase : SpdP} {_law_effect_text : Spd0} {_law_drawn_effect : SpdP} {_law_words : SpdP} (T : Mgs K mg ea) (c__law_caught_one : Cal0 P w K mg base "_law_caught_one" k ["_law_wording", "_law_way"] _law_caught_one) (c__law_phrase_of : Cal0 P w K mg base "_law_phrase_of" k ["_law_wording"] _law_phrase_of) (c__law_effect_of : Cal0 P w K mg base "_law_effect_of" k ["_law_wording"] _law_effect_of) (c__law_marred_one : CalP P w K mg base "_law_marred_one" k ["_law_purse_here", "_law_wording"] _law_marred_one) (c__law_coin : CalP P w K mg base "_law_coin" k ["_law_purse_here", "_law_many"] _law_coin) (c__law_phrase_text : Cal0 P w K mg base "_law_phrase_text" k ["_law_steps_here"] _law_phrase_text) (c__law_drawn_phrase : CalP P w K mg base "_law_drawn_phrase" k ["_law_purse_here", "_law_labels", "_law_many", "_law_deep", "_law_most"] _law_drawn_phrase) (c__law_effect_text : Cal0 P w K mg base "_law_effect_text" k ["_law_one"] _law_effect_text) (c__law_drawn_effect : CalP P w K mg base "_law_drawn_effect" k ["_law_purse_here", "_law_needs", "_law_length"] _law_drawn_effect) (c__law_words : CalP P w K mg base "_law_words" k ["_law_purse_here", "_law_many"] _law_words) (cdv : Value) (A : Around) (outer : List Env) (s : Shared) (H : Hp) (E : XK) (hr : Room k (A.deeper (envOfC "_law_right" (defScope st__law_right) s.heap.objs.size f cdv))) :
    PSsd (cxOf CX0 P w K mg base nn__law_right "_law_right" (defScope st__law_right) f cdv A outer s H E).nox G0 (defBody st__law_right) (d__law_right _law_caught_one _law_phrase_of _law_effect_of _law_marred_one _law_coin _law_phrase_text _law_drawn_phrase _law_effect_text _law_drawn_effect _law_words) :=
  (psd_cons (psd_set 1 sc__law_right.nd (pd_callP 0 c__law_words hr (pad_cons pd_int pad_nil)))
      (psd_cons (psd_setO 2 sc__law_right.nd (pn_lst (pad_cons (pd_call c__law_effect_text hr (pad_cons (pd_callP 0 c__law_drawn_effect hr (pad_cons pd_int (pad_cons pd_int pad_nil))) pad_nil)) pad_nil)))
      (psd_cons (psd_app 2 (pd_call c__law_phrase_text hr (pad_cons (pd_callP 0 c__law_drawn_phrase hr (pad_cons (pdv 1) (pad_cons pd_int (pad_cons pd_int (pad_cons pd_int pad_nil))))) pad_nil)))
      (psd_cons (psd_for PassesOwn.never rfl (pid_rng1 T.m_range pd_int) (pgd_name 3 sc__law_right.nd) (psd_cons (psd_set 4 sc__law_right.nd (pd_callP 0 c__law_marred_one hr (pad_cons (pd_ixN 2 (pd_callP 0 c__law_coin hr (pad_cons pd_int pad_nil))) pad_nil)))
      (psd_cons (psd_if (PWd.pt (pdw_and (pdt_le (pd_lenN 4 T.m_len) pd_int) (pdw_and1 (pdt_ne hr (pd_call c__law_caught_one hr (pad_cons (pdv 4) (pad_cons pd_int pad_nil))) (pd_call c__law_effect_of hr (pad_cons (pdv 4) pad_nil)))))) (psd_one (psd_ret pd_bl)) psd_nil)
      (psd_one (psd_if (PWd.pt (pdw_and (pdt_le (pd_lenN 4 T.m_len) pd_int) (pdw_and1 (pdt_ne hr (pd_call c__law_caught_one hr (pad_cons (pdv 4) (pad_cons pd_int pad_nil))) (pd_call c__law_phrase_of hr (pad_cons (pdv 4) pad_nil)))))) (psd_one (psd_ret pd_bl)) psd_nil)))))
      (psd_one (psd_ret pd_bl))))))

end K55

namespace K55
open PySem PySem.Spec PyProof.Rows L2 TL DL
section
local macro_rules | `(tactic| symm_saturate) => `(tactic| repeat (first
  | with_reducible refine x_seq ?_
  | with_reducible refine x_next ?_
  | with_reducible refine x_ret ?_
  | with_reducible refine x_retN ?_
  | with_reducible refine x_drop ?_
  | with_reducible refine x_ifS ?_
  | with_reducible refine x_gname ?_
  | with_reducible refine i_gnil ?_
  | with_reducible refine x_gcons ?_
  | with_reducible refine x_asg ?_
  | with_reducible refine x_set ?_
  | with_reducible refine x_setO ?_
  | with_reducible refine x_par ?_
  | with_reducible refine x_parVN ?_
  | with_reducible refine x_parNV ?_
  | with_reducible refine x_rng1 ?_
  | with_reducible refine x_rng2 ?_
  | with_reducible refine x_for ?_
  | with_reducible refine x_lc ?_
  | with_reducible refine x_yes ?_
  | with_reducible refine x_c ?_
  | with_reducible refine x_op ?_
  | with_reducible refine x_un ?_
  | with_reducible refine x_add1 ?_
  | with_reducible refine x_I0 ?_
  | with_reducible refine x_B0 ?_
  | with_reducible refine x_neg ?_
  | with_reducible refine x_isN ?_
  | with_reducible refine x_tru ?_
  | with_reducible refine x_truB ?_
  | with_reducible refine x_and ?_
  | with_reducible refine x_or ?_
  | with_reducible refine x_not ?_
  | with_reducible refine x_if ?_
  | with_reducible refine x_nil ?_
  | with_reducible refine x_cons ?_
  | with_reducible refine x_tup ?_
  | with_reducible refine x_lst ?_
  | with_reducible refine x_frz ?_
  | with_reducible refine x_newL ?_
  | with_reducible refine x_noP ?_
  | with_reducible refine x_CB ?_
  | with_reducible refine x_abs ?_
  | with_reducible refine x_max2 ?_
  | with_reducible refine x_min2 ?_
  | with_reducible refine x_int1 ?_
  | with_reducible refine x_int2 ?_
  | with_reducible refine x_len ?_
  | with_reducible refine x_lenD1 ?_
  | with_reducible refine x_lenD2 ?_
  | with_reducible refine x_fmt ?_
  | with_reducible refine x_call ?_
  | with_reducible refine x_raise ?_
  | with_reducible refine x_callX ?_
  | with_reducible refine x_rngL ?_
  | with_reducible refine i_nx ?_
  | with_reducible refine i_rt ?_
  | with_reducible refine i_ct ?_
  | with_reducible refine i_bk ?_
  | with_reducible refine x_isi ?_
  | with_reducible refine x_joined ?_
  | with_reducible refine x_jnil ?_
  | with_reducible refine x_jcons ?_
  | with_reducible refine x_fmtS ?_
  | with_reducible refine x_fmtI ?_
  | with_reducible refine i_mB ?_
  | with_reducible refine i_mI ?_
  | with_reducible refine i_mS ?_
  | with_reducible refine i_mL ?_
  | with_reducible refine i_mLT1 ?_
  | with_reducible refine i_mLT2 ?_
  | with_reducible refine i_mTL1 ?_
  | with_reducible refine i_mTL2 ?_
  | with_reducible refine i_mLL ?_
  | with_reducible refine i_mT ?_
  | with_reducible refine i_mF ?_
  | with_reducible refine i_itT ?_
  | with_reducible refine i_itF ?_
  | with_reducible refine i_test ?_
  | with_reducible refine i_itL ?_
  | with_reducible refine i_itS ?_
  | with_reducible refine i_part ?_
  | with_reducible refine i_sl ?_
  | with_reducible refine i_slD ?_
  | with_reducible refine i_slL ?_
  | with_reducible refine i_listOf ?_
  | with_reducible refine i_catN ?_
  | with_reducible refine i_chain ?_
  | with_reducible refine i_andV ?_
  | with_reducible refine i_orV ?_
  | with_reducible refine i_notV ?_
  | with_reducible refine i_split ?_
  | with_reducible refine i_m1 ?_
  | with_reducible refine i_star ?_
  | with_reducible refine i_callS ?_
  | with_reducible refine i_repl ?_
  | with_reducible refine i_putIx ?_
  | ((with_reducible apply i_gtup); exact rfl)
  | ((with_reducible apply i_len); exact rfl)
  | ((with_reducible apply i_varG); exact rfl)
  | ((with_reducible apply i_lenG); exact rfl)
  | ((with_reducible apply i_ixG); exact rfl)
  | with_reducible refine i_vSv ?_
  | with_reducible refine i_vSo ?_
  | with_reducible refine i_lSv ?_
  | with_reducible refine i_lSo ?_
  | with_reducible refine i_xSv ?_
  | with_reducible refine i_xSo ?_
  | ((with_reducible apply i_aug); exact rfl)
  | ((with_reducible apply i_app); exact rfl)
  | ((with_reducible apply i_mO); exact rfl)
  | ((with_reducible apply i_callP); exact rfl)
  | ((with_reducible apply i_popAt); exact rfl)))
def sp_is_effect : Spd0 := fun ds Q => ∃ n gs, ds = [.tuple [.int n, .list (iL gs)]] ∧ gs.length ≤ sizeLine ∧ Q (.bool (isEff n gs))
theorem pl_is_effect : Law0 nn_is_effect sp_is_effect d_is_effect := by
  rintro ds Q ⟨n, gs, rfl, hs, h⟩
  unfold d_is_effect isEff at *
  symm_saturate
  refine i_mTF (fun hn => ?_) fun hn => ?_
  · rw [hn] at h
    symm_saturate
    refine lc_mapN (m := [Sl.val (.tuple [.int n, .list (iL gs)]), Sl.val (.int n), Sl.val (.list (iL gs)), Sl.non]) (fun d => match d with | .int g => .bool (decide (1 ≤ g) && decide (g ≤ n)) | _ => .none) rfl _ _ ?_ ?_ ?_
    · intro d hd Q' hq
      unfold iL at hd
      simp at hd
      obtain ⟨g, _, rfl⟩ := hd
      symm_saturate
      refine i_mTF (fun h1 => ?_) fun h1 => ?_
      · symm_saturate
        simp only [h1, Bool.true_and] at hq
        exact hq
      · simp only [h1, Bool.false_and] at hq
        exact hq
    · simpa [iL] using hs
    · symm_saturate
      refine ⟨_, by simp [iL, Function.comp_def]; exact boolsD_map (fun g => decide (1 ≤ g) && decide (g ≤ n)) gs, ?_⟩
      symm_saturate
      simp only [Bool.true_and] at h
      simpa [List.all_map, Function.comp_def] using h
  · rw [hn] at h
    exact h
def sp_least_of : Spd0 := fun ds Q => ∃ n gs, ds = [.int n, .list (iL gs)] ∧ gs.length ≤ 100000 ∧ Q (.tuple [.int (leastOf n gs).1, .list (iL (leastOf n gs).2)])
theorem pl_least_of : Law0 nn_least_of sp_least_of d_least_of := by
  rintro ds Q ⟨n, gs, rfl, hs, h⟩
  have hb := sizeLine_big
  unfold d_least_of
  symm_saturate
  refine forL_ind (fun rest m => ∃ pre x suf, gs = pre ++ suf ∧ rest = iL suf ∧ m = [Sl.val (.int n), Sl.val (.list (iL gs)), Sl.own none (iL (topsOf pre)), x, Sl.non]) ?_ ?_ _ _ ⟨[], Sl.non, gs, by simp, rfl, rfl⟩
  · rintro m ⟨pre, x, suf, h1, h2, rfl⟩
    cases suf with
    | cons a b => cases h2
    | nil =>
    simp at h1
    subst h1
    symm_saturate
    refine while_ind (fun m => ∃ (k : Nat) (n' : Int), k ≤ gs.length ∧ lst n gs.reverse = lst n' (gs.take k).reverse ∧ m = [Sl.val (.int n'), Sl.val (.list (iL gs)), Sl.own none (iL (topsOf gs)), x, Sl.val (.int k)])
      (fun m => match m[4]? with | some (Sl.val (.int k)) => k.toNat | _ => 0) ?_ _ ⟨gs.length, n, Nat.le_refl _, by simp, by simp⟩
    rintro m K ⟨k, n', hk, hl, rfl⟩ hK
    have fin : leastOf n gs = ((lst n' (gs.take k).reverse).1, (lst n' (gs.take k).reverse).2.reverse) := by unfold leastOf; rw [hl]
    have out : lst n' (gs.take k).reverse = (n', (gs.take k).reverse) → Q (.tuple [.int n', .list (cutD (iL gs) none (some (k : Int)))]) := by
      intro e
      rw [e] at fin
      rw [fin] at h
      simp at h
      rw [cutD_iL, cutL_to _ (by omega)]
      exact h
    symm_saturate
    refine i_ite (fun h0 => ?_) fun h0 => ?_
    · obtain ⟨k, rfl⟩ : ∃ j, k = j + 1 := ⟨k - 1, by simp at h0; omega⟩
      have hk' : k < gs.length := by omega
      have e1 : (gs.take (k + 1)).reverse = gs[k] :: (gs.take k).reverse := by rw [List.take_succ_eq_append_getElem hk']; simp
      have e2 := topsOf_at gs k (by omega)
      have ek : (((k + 1 : Nat) : Int) - 1) = (k : Int) := by omega
      have a1 : atI (iL gs) (((k + 1 : Nat) : Int) - 1) = some (.int gs[k]) := by
        rw [ek, iL_at, atI_natE, List.getElem?_eq_getElem hk']; rfl
      have a2 : atI (iL (topsOf gs)) (((k + 1 : Nat) : Int) - 1) = some (.int ((gs.take k).reverse.foldr max 0)) := by
        rw [ek, iL_at, atI_natE, e2]; rfl
      rw [e1] at out
      symm_saturate
      refine ⟨_, a1, ?_⟩
      symm_saturate
      refine ⟨by simp [PyData.depth], ?_⟩
      symm_saturate
      refine i_ite (fun h1 => ?_) fun h1 => ?_
      · symm_saturate
        refine ⟨_, _, rfl, a2, ?_⟩
        symm_saturate
        have h1' : gs[k] = n' := by simpa [PyData.eqv] using h1
        refine i_ite (fun h2 => ?_) fun h2 => ?_
        · symm_saturate
          refine hK _ ⟨k, n' - 1, by omega, ?_, by rw [ek]; rfl⟩ (by simp)
          rw [hl, e1, lst, if_pos ⟨h1', by simpa using h2⟩]
        · symm_saturate
          refine out ?_
          rw [lst, if_neg (fun z => by have := z.2; simp only [decide_eq_false_iff_not] at h2; exact h2 this)]
      · symm_saturate
        refine out ?_
        rw [lst, if_neg (fun z => by simp [PyData.eqv, z.1] at h1)]
    · have : k = 0 := by simp at h0; omega
      subst this
      symm_saturate
      exact out (by simp [lst])
  · rintro d ds m K ⟨pre, x, suf, h1, h2, rfl⟩ hK
    cases suf with
    | nil => cases h2
    | cons g suf =>
    simp only [iL_cons, List.cons.injEq] at h2
    obtain ⟨rfl, rfl⟩ := h2
    obtain ⟨l, hl⟩ := topsOf_last pre
    have a1 : atI (iL (topsOf pre)) (-1) = some (.int (pre.reverse.foldr max 0)) := by rw [iL_at, hl, atI_m1]; rfl
    have hlen := topsOf_len pre
    have hgs : gs.length = pre.length + (suf.length + 1) := by rw [h1]; simp
    symm_saturate
    refine ⟨_, _, rfl, a1, ?_⟩
    symm_saturate
    refine ⟨by simp; omega, ?_⟩
    symm_saturate
    refine hK _ ⟨pre ++ [g], .val (.int g), suf, by simp [h1], rfl, ?_⟩
    rw [topsOf_snoc, ← iL_app]
    have : (if g > pre.reverse.foldr max 0 then g else pre.reverse.foldr max 0) = max g (pre.reverse.foldr max 0) := by split <;> omega
    rw [this]
    rfl
def sp_checked : Spd0 := fun ds Q => ∃ n gs, ds = [.tuple [.int n, .list (iL gs)]] ∧ gs.length ≤ 100000 ∧ isEff n gs = true ∧ Q (.tuple [.int (leastOf n gs).1, .list (iL (leastOf n gs).2)])
theorem pl_checked : Law0 nn_checked sp_checked (d_checked sp_least_of sp_is_effect) := by
  rintro ds Q ⟨n, gs, rfl, hs, he, h⟩
  have hb := sizeLine_big
  unfold d_checked
  symm_saturate
  refine ⟨n, gs, rfl, by omega, ?_⟩
  rw [he]
  symm_saturate
  exact ⟨n, gs, rfl, hs, h⟩
def sp_least : Spd0 := fun ds Q => ∃ n gs, ds = [.int n, .list (iL gs)] ∧ gs.length ≤ 100000 ∧ isEff n gs = true ∧ Q (.tuple [.int (leastOf n gs).1, .list (iL (leastOf n gs).2)])
theorem pl_least : Law0 nn_least sp_least (d_least sp_checked) := by
  rintro ds Q ⟨n, gs, rfl, hs, he, h⟩
  unfold d_least
  symm_saturate
  exact ⟨n, gs, rfl, hs, he, h⟩
end
end K55

namespace K55
open PySem PySem.Spec PyProof.Rows L2 TL DL
section
local macro_rules | `(tactic| symm_saturate) => `(tactic| repeat (first
  | with_reducible refine x_seq ?_
  | with_reducible refine x_next ?_
  | with_reducible refine x_ret ?_
  | with_reducible refine x_retN ?_
  | with_reducible refine x_drop ?_
  | with_reducible refine x_ifS ?_
  | with_reducible refine x_gname ?_
  | with_reducible refine i_gnil ?_
  | with_reducible refine x_gcons ?_
  | with_reducible refine x_asg ?_
  | with_reducible refine x_set ?_
  | with_reducible refine x_setO ?_
  | with_reducible refine x_par ?_
  | with_reducible refine x_parVN ?_
  | with_reducible refine x_parNV ?_
  | with_reducible refine x_rng1 ?_
  | with_reducible refine x_rng2 ?_
  | with_reducible refine x_for ?_
  | with_reducible refine x_lc ?_
  | with_reducible refine x_yes ?_
  | with_reducible refine x_c ?_
  | with_reducible refine x_op ?_
  | with_reducible refine x_un ?_
  | with_reducible refine x_add1 ?_
  | with_reducible refine x_I0 ?_
  | with_reducible refine x_B0 ?_
  | with_reducible refine x_neg ?_
  | with_reducible refine x_isN ?_
  | with_reducible refine x_tru ?_
  | with_reducible refine x_truB ?_
  | with_reducible refine x_and ?_
  | with_reducible refine x_or ?_
  | with_reducible refine x_not ?_
  | with_reducible refine x_if ?_
  | with_reducible refine x_nil ?_
  | with_reducible refine x_cons ?_
  | with_reducible refine x_tup ?_
  | with_reducible refine x_lst ?_
  | with_reducible refine x_frz ?_
  | with_reducible refine x_newL ?_
  | with_reducible refine x_noP ?_
  | with_reducible refine x_CB ?_
  | with_reducible refine x_abs ?_
  | with_reducible refine x_max2 ?_
  | with_reducible refine x_min2 ?_
  | with_reducible refine x_int1 ?_
  | with_reducible refine x_int2 ?_
  | with_reducible refine x_len ?_
  | with_reducible refine x_lenD1 ?_
  | with_reducible refine x_lenD2 ?_
  | with_reducible refine x_fmt ?_
  | with_reducible refine x_call ?_
  | with_reducible refine x_raise ?_
  | with_reducible refine x_callX ?_
  | with_reducible refine x_rngL ?_
  | with_reducible refine i_nx ?_
  | with_reducible refine i_rt ?_
  | with_reducible refine i_ct ?_
  | with_reducible refine i_bk ?_
  | with_reducible refine x_isi ?_
  | with_reducible refine x_joined ?_
  | with_reducible refine x_jnil ?_
  | with_reducible refine x_jcons ?_
  | with_reducible refine x_fmtS ?_
  | with_reducible refine x_fmtI ?_
  | with_reducible refine i_mB ?_
  | with_reducible refine i_mI ?_
  | with_reducible refine i_mS ?_
  | with_reducible refine i_mL ?_
  | with_reducible refine i_mLT1 ?_
  | with_reducible refine i_mLT2 ?_
  | with_reducible refine i_mTL1 ?_
  | with_reducible refine i_mTL2 ?_
  | with_reducible refine i_mLL ?_
  | with_reducible refine i_mT ?_
  | with_reducible refine i_mF ?_
  | with_reducible refine i_itT ?_
  | with_reducible refine i_itF ?_
  | with_reducible refine i_test ?_
  | with_reducible refine i_itL ?_
  | with_reducible refine i_itS ?_
  | with_reducible refine i_part ?_
  | with_reducible refine i_sl ?_
  | with_reducible refine i_slD ?_
  | with_reducible refine i_slL ?_
  | with_reducible refine i_listOf ?_
  | with_reducible refine i_catN ?_
  | with_reducible refine i_chain ?_
  | with_reducible refine i_andV ?_
  | with_reducible refine i_orV ?_
  | with_reducible refine i_notV ?_
  | with_reducible refine i_split ?_
  | with_reducible refine i_m1 ?_
  | with_reducible refine i_star ?_
  | with_reducible refine i_callS ?_
  | with_reducible refine i_repl ?_
  | with_reducible refine i_putIx ?_
  | ((with_reducible apply i_gtup); exact rfl)
  | ((with_reducible apply i_len); exact rfl)
  | ((with_reducible apply i_varG); exact rfl)
  | ((with_reducible apply i_lenG); exact rfl)
  | ((with_reducible apply i_ixG); exact rfl)
  | with_reducible refine i_vSv ?_
  | with_reducible refine i_vSo ?_
  | with_reducible refine i_lSv ?_
  | with_reducible refine i_lSo ?_
  | with_reducible refine i_xSv ?_
  | with_reducible refine i_xSo ?_
  | ((with_reducible apply i_aug); exact rfl)
  | ((with_reducible apply i_app); exact rfl)
  | ((with_reducible apply i_mO); exact rfl)
  | ((with_reducible apply i_callP); exact rfl)
  | ((with_reducible apply i_popAt); exact rfl)))
def sp_number_in : Spd0 := fun ds Q => ∃ l, ds = [.str (mkS l)] ∧ l.length ≤ 100000 ∧ Q (numD l)
theorem pl_number_in : Law0 nn_number_in sp_number_in d_number_in := by
  rintro ds Q ⟨l, rfl, hs, h⟩
  have hb := sizeLine_big
  have hd : ∀ K : D → En → Prop, K (.bool (l.all fun c => decide (48 ≤ c) && decide (c ≤ 57))) [Sl.val (.str (mkS l)), Sl.non] →
      dCB rdAll (dCons (dFrz (dLc (dItS (dVar 0)) (gdName 1) dYes (dOp (rdIn false) (dVar 1) (dC (.str "0123456789"))) [1])) dNil) [Sl.val (.str (mkS l)), Sl.non] K := by
    intro K hK
    symm_saturate
    refine lc_mapN (m := [Sl.val (.str (mkS l)), Sl.non]) (fun d => match d with | .str x => .bool ((tl x).all fun c => decide (48 ≤ c) && decide (c ≤ 57)) | _ => .none) rfl _ _ ?_ ?_ ?_
    · intro d hd Q' hq
      rw [signs_mk] at hd
      simp at hd
      obtain ⟨c, _, rfl⟩ := hd
      symm_saturate
      rw [s_dig]
      refine ⟨c, rfl, ?_⟩
      simp only [mkS_cps, dig_iff]
      have : (List.all [c] fun c => decide (48 ≤ c) && decide (c ≤ 57)) = decide (48 ≤ c ∧ c ≤ 57) := by simp [Bool.decide_and]
      simp only [this] at hq
      exact hq
    · rw [signs_mk]; simp; omega
    · symm_saturate
      refine ⟨_, by rw [signs_mk]; simp [Function.comp_def]; exact boolsD_map (fun c => decide (48 ≤ c) && decide (c ≤ 57)) l, ?_⟩
      simp only [List.all_map, Function.comp_def]
      exact hK
  unfold numD canon at h
  unfold d_number_in
  symm_saturate
  refine ⟨by simp; omega, ?_⟩
  symm_saturate
  have out : (∀ b, (decide (1 ≤ l.length) && decide (l.length ≤ 9) && l.all (fun c => decide (48 ≤ c) && decide (c ≤ 57)) && b) = false) → Q .none := by
    intro e
    rw [e] at h
    exact h
  refine i_mTF (fun h1 => ?_) fun h1 => ?_
  · symm_saturate
    refine i_ite (fun h2 => ?_) fun h2 => ?_
    · symm_saturate
      refine out fun b => ?_
      simp at h1 h2
      simp; intros; omega
    · refine hd _ ?_
      symm_saturate
      refine i_ite (fun h3 => ?_) fun h3 => ?_
      · symm_saturate
        refine out fun b => ?_
        simp only [Bool.not_eq_true'] at h3
        rw [h3]; simp
      · simp at h1 h2
        simp only [Bool.not_eq_false'] at h3
        cases l with
        | nil => simp at h1
        | cons c l =>
        have ea : NumText.AllDigits (c :: l) := canon_dig h3
        simp only [List.length_cons] at h2 hs
        symm_saturate
        refine Eq.mpr e_ix3 ⟨by simp; simp at hs; omega, c, by rw [mkS_cps, atI_0], ?_⟩
        symm_saturate
        rw [s_zero, e_ne]
        refine ⟨by simp [PyData.depth], ?_⟩
        symm_saturate
        have e9 : (decide (1 ≤ (c :: l).length) && decide ((c :: l).length ≤ 9) && (c :: l).all (fun c => decide (48 ≤ c) && decide (c ≤ 57)) && (decide ((c :: l).head? ≠ some 48) || decide (c :: l = [48]))) = (decide ((c :: l).head? ≠ some 48) || decide (c :: l = [48])) := by
          rw [h3]; simp; intros; omega
        rw [e9] at h
        refine i_ite (fun h4 => ?_) fun h4 => ?_
        · symm_saturate
          refine Eq.mpr e_int3 ⟨_, intText_canon ea (by simp) (by simp; omega), by simp; omega, ?_⟩
          symm_saturate
          have : PyData.eqv (.str (mkS [c])) (.str (mkS [48])) = decide ([c] = [48]) := eqv_str _ _
          have h4' : ¬ c = 48 := by
            intro z
            have e : (!PyData.eqv (.str ⟨#[c]⟩) (.str (mkS [48]))) = !decide ([c] = [48]) := by rw [← this]
            rw [e] at h4
            simp [z] at h4
          rw [if_pos (by simp [h4'])] at h
          exact h
        · symm_saturate
          rw [e_eq]
          refine ⟨by simp [PyData.depth], ?_⟩
          symm_saturate
          have this : PyData.eqv (.str (mkS [c])) (.str (mkS [48])) = decide ([c] = [48]) := eqv_str _ _
          have h4' : c = 48 := by
            have e : (!PyData.eqv (.str ⟨#[c]⟩) (.str (mkS [48]))) = !decide ([c] = [48]) := by rw [← this]
            rw [e] at h4
            simpa using h4
          rw [eqv_str]
          refine i_ite (fun h5 => ?_) fun h5 => ?_
          · symm_saturate
            refine Eq.mpr e_int3 ⟨_, intText_canon ea (by simp) (by simp; omega), by simp; omega, ?_⟩
            rw [if_pos (by simp at h5; simp [h5])] at h
            exact h
          · rw [if_neg (by simp at h5; simp [h5, h4'])] at h
            exact h
  · symm_saturate
    refine out fun b => ?_
    have e : decide (1 ≤ l.length) = false := by simp only [decide_eq_false_iff_not, mkS_len] at h1 ⊢; omega
    rw [e]; rfl

theorem eqvAll_strs (xs ys : List (List Nat)) : PyData.eqvAll (xs.map fun l => PyData.str (mkS l)) (ys.map fun l => PyData.str (mkS l)) = decide (xs = ys) := by
  induction xs generalizing ys with
  | nil => cases ys <;> simp [PyData.eqvAll]
  | cons x xs ih =>
    cases ys with
    | nil => simp [PyData.eqvAll]
    | cons y ys => simp only [List.map_cons, PyData.eqvAll, eqv_str, ih]; by_cases h : x = y <;> simp [h]
theorem depth_strs (xs : List (List Nat)) : PyData.depthAll (xs.map fun l => PyData.str (mkS l)) ≤ 1 := by
  induction xs with
  | nil => simp [PyData.depthAll]
  | cons x xs ih => simp [PyData.depthAll, PyData.depth] at *; omega
theorem depth_numD (l : List Nat) : (numD l).depth ≤ 1 := by unfold numD; split <;> simp [PyData.depth]
theorem depth_nums (xs : List (List Nat)) : PyData.depthAll (xs.map numD) ≤ 1 := by
  induction xs with
  | nil => simp [PyData.depthAll]
  | cons x xs ih => have := depth_numD x; simp [PyData.depthAll] at *; omega
theorem none_in (xs : List (List Nat)) : inD .none (xs.map numD) = !xs.all canon := by
  induction xs with
  | nil => rfl
  | cons x xs ih =>
    unfold inD at ih ⊢
    rw [List.map_cons, List.any_cons, ih, List.all_cons]
    cases h : canon x <;> simp [numD, h, PyData.eqv]
theorem nums_of {xs : List (List Nat)} (h : xs.all canon = true) : xs.map numD = iL (xs.map valL) := by
  unfold iL
  rw [List.map_map]
  apply List.map_congr_left
  intro x hx
  have := List.all_eq_true.mp h x hx
  simp [numD, this]
def numDd : D → D := fun d => match d with | .str x => numD (tl x) | _ => .none
def effD : Option (Int × List Int) → D
  | none => .none
  | some (n, gs) => .tuple [.int n, .list (iL gs)]
def sp_effect_in : Spd0 := fun ds Q => ∃ l, ds = [.str (mkS l)] ∧ l.length ≤ 50000 ∧ Q (effD (effF l))
theorem pl_effect_in : Law0 nn_effect_in sp_effect_in (d_effect_in sp_least sp_is_effect sp_number_in) := by
  rintro ds Q ⟨l, rfl, hs, h⟩
  have hb := sizeLine_big
  have hp := pcs_len l
  unfold d_effect_in
  symm_saturate
  rw [s_sp]
  refine ⟨by rw [mkS_len]; rfl, by rw [mkS_len]; omega, ?_⟩
  rw [split_pcs, List.map_map]
  obtain ⟨p, r, hr⟩ := pcs_ne l
  have hpl : p.length ≤ l.length := pcs_each (by rw [hr]; simp)
  have hrl : ∀ q ∈ r, q.length ≤ l.length := fun q hq => pcs_each (by rw [hr]; simp [hq])
  rw [hr] at hp ⊢
  unfold effF at h
  rw [hr] at h
  symm_saturate
  refine ⟨_, _, rfl, by rw [List.map_cons, atI_0], ?_⟩
  symm_saturate
  refine ⟨p, rfl, by omega, ?_⟩
  symm_saturate
  rw [cutD_L, cutL_from _ (by decide)]
  have e2 : (List.map (PyData.str ∘ mkS) (p :: r)).drop (2 : Int).toNat = (r.drop 1).map fun l => PyData.str (mkS l) := by
    rw [List.map_cons]; simp [Function.comp_def]
  rw [e2]
  refine lc_mapN (m := [Sl.val (.str (mkS l)), Sl.val (.list ((p :: r).map (PyData.str ∘ mkS))), Sl.non, Sl.non, Sl.non]) numDd rfl _ _ ?_ (by simp at hp ⊢; omega) ?_
  · intro d hd Q' hq
    obtain ⟨c, hc, rfl⟩ := List.mem_map.mp hd
    have := hrl c (List.mem_of_mem_drop hc)
    symm_saturate
    exact ⟨c, rfl, by omega, hq⟩
  · have e3 : List.map numDd ((r.drop 1).map fun l => PyData.str (mkS l)) = (r.drop 1).map numD := by
      rw [List.map_map]; rfl
    rw [e3, List.nil_append]
    symm_saturate
    have ec : cutD ((p :: r).map (PyData.str ∘ mkS)) (some 1) (some 2) = (r.take 1).map fun l => PyData.str (mkS l) := by
      rw [cutD_L, cutL_mid _ (by decide) (by decide), List.map_cons]
      show List.take 1 (r.map _) = _
      rw [List.map_take]; rfl
    have ex : (r.take 1 = [[124]]) ↔ ∃ r', r = [124] :: r' := by
      cases r with
      | nil => simp
      | cons a b => simp
    have out : ¬(isNone (numD p) = false ∧ r.take 1 = [[124]] ∧ (r.drop 1).all canon = true ∧ isEff (valL p) ((r.drop 1).map valL) = true ∧ leastOf (valL p) ((r.drop 1).map valL) = (valL p, (r.drop 1).map valL)) → Q .none := by
      intro hn
      cases r with
      | nil => exact h
      | cons q r =>
        simp only at h
        rw [if_neg] at h
        · exact h
        · rintro ⟨h1, h2, h3, h4, h5⟩
          exact hn ⟨by simp [numD, h2, isNone], by simp [h1], by simpa using h3, by simpa using h4, by simpa using h5⟩
    refine i_ite (fun h1 => ?_) fun h1 => ?_
    · symm_saturate
      exact out fun z => by rw [z.1] at h1; cases h1
    · symm_saturate
      rw [ec, s_bar]
      refine Eq.mpr e_ne ⟨by have := depth_strs (r.take 1); simp [PyData.depth, PyData.depthAll], ?_⟩
      symm_saturate
      have eq2 : PyData.eqv (.list ((r.take 1).map fun l => PyData.str (mkS l))) (.list [.str (mkS [124])]) = decide (r.take 1 = [[124]]) := by
        rw [PyData.eqv]; exact eqvAll_strs (r.take 1) [[124]]
      rw [eq2]
      refine i_ite (fun h2 => ?_) fun h2 => ?_
      · symm_saturate
        exact out fun z => by simp [z.2.1] at h2
      · symm_saturate
        have h2' : r.take 1 = [[124]] := by simpa using h2
        refine Eq.mpr e_in1 ⟨by have := depth_nums (r.drop 1); omega, ?_⟩
        symm_saturate
        have e0 : (if false = true then !inD PyData.none (List.map numD (List.drop 1 r)) else inD PyData.none (List.map numD (List.drop 1 r))) = !(r.drop 1).all canon := by rw [if_neg (by decide), none_in]
        rw [e0]
        refine i_ite (fun h3 => ?_) fun h3 => ?_
        · symm_saturate
          exact out fun z => by rw [z.2.2.1] at h3; cases h3
        · have h3' : (r.drop 1).all canon = true := by simpa using h3
          have hcp : canon p = true := by
            cases h : canon p with
            | true => rfl
            | false => simp [numD, h, isNone] at h1
          have ep : numD p = .int (valL p) := by simp [numD, hcp]
          have en := nums_of h3'
          have el : ((r.drop 1).map valL).length ≤ 100000 := by simp at hp ⊢; omega
          rw [ep, en]
          symm_saturate
          refine ⟨_, _, rfl, by omega, ?_⟩
          symm_saturate
          refine i_ite (fun h4 => ?_) fun h4 => ?_
          · symm_saturate
            exact out fun z => by rw [z.2.2.2.1] at h4; cases h4
          · have h4' : isEff (valL p) ((r.drop 1).map valL) = true := by simpa using h4
            symm_saturate
            refine ⟨_, _, rfl, el, h4', ?_⟩
            symm_saturate
            have ee := eqv_eff (leastOf (valL p) ((r.drop 1).map valL)) (valL p, (r.drop 1).map valL)
            refine Eq.mpr e_ne ⟨by have := depth_eff (leastOf (valL p) ((r.drop 1).map valL)); omega, ?_⟩
            symm_saturate
            rw [ee]
            refine i_ite (fun h5 => ?_) fun h5 => ?_
            · symm_saturate
              exact out fun z => by rw [z.2.2.2.2] at h5; simp at h5
            · symm_saturate
              obtain ⟨r', rfl⟩ := ex.mp h2'
              simp only at h
              have h3'' : r'.all canon = true := h3'
              have h4'' : isEff (valL p) (r'.map valL) = true := h4'
              have h5'' : leastOf (valL p) (r'.map valL) = (valL p, r'.map valL) := by simpa using h5
              rw [if_pos (And.intro trivial (And.intro hcp (And.intro h3'' (And.intro h4'' h5''))))] at h
              exact h
end
end K55

namespace K55
open PySem PySem.Spec PyProof.Rows L2 TL DL
section
local macro_rules | `(tactic| symm_saturate) => `(tactic| repeat (first
  | with_reducible refine x_seq ?_
  | with_reducible refine x_next ?_
  | with_reducible refine x_ret ?_
  | with_reducible refine x_retN ?_
  | with_reducible refine x_drop ?_
  | with_reducible refine x_ifS ?_
  | with_reducible refine x_gname ?_
  | with_reducible refine i_gnil ?_
  | with_reducible refine x_gcons ?_
  | with_reducible refine x_asg ?_
  | with_reducible refine x_set ?_
  | with_reducible refine x_setO ?_
  | with_reducible refine x_par ?_
  | with_reducible refine x_parVN ?_
  | with_reducible refine x_parNV ?_
  | with_reducible refine x_rng1 ?_
  | with_reducible refine x_rng2 ?_
  | with_reducible refine x_for ?_
  | with_reducible refine x_lc ?_
  | with_reducible refine x_yes ?_
  | with_reducible refine x_c ?_
  | with_reducible refine x_op ?_
  | with_reducible refine x_un ?_
  | with_reducible refine x_add1 ?_
  | with_reducible refine x_I0 ?_
  | with_reducible refine x_B0 ?_
  | with_reducible refine x_neg ?_
  | with_reducible refine x_isN ?_
  | with_reducible refine x_tru ?_
  | with_reducible refine x_truB ?_
  | with_reducible refine x_and ?_
  | with_reducible refine x_or ?_
  | with_reducible refine x_not ?_
  | with_reducible refine x_if ?_
  | with_reducible refine x_nil ?_
  | with_reducible refine x_cons ?_
  | with_reducible refine x_tup ?_
  | with_reducible refine x_lst ?_
  | with_reducible refine x_frz ?_
  | with_reducible refine x_newL ?_
  | with_reducible refine x_noP ?_
  | with_reducible refine x_CB ?_
  | with_reducible refine x_abs ?_
  | with_reducible refine x_max2 ?_
  | with_reducible refine x_min2 ?_
  | with_reducible refine x_int1 ?_
  | with_reducible refine x_int2 ?_
  | with_reducible refine x_len ?_
  | with_reducible refine x_lenD1 ?_
  | with_reducible refine x_lenD2 ?_
  | with_reducible refine x_fmt ?_
  | with_reducible refine x_call ?_
  | with_reducible refine x_raise ?_
  | with_reducible refine x_callX ?_
  | with_reducible refine x_rngL ?_
  | with_reducible refine i_nx ?_
  | with_reducible refine i_rt ?_
  | with_reducible refine i_ct ?_
  | with_reducible refine i_bk ?_
  | with_reducible refine x_isi ?_
  | with_reducible refine x_joined ?_
  | with_reducible refine x_jnil ?_
  | with_reducible refine x_jcons ?_
  | with_reducible refine x_fmtS ?_
  | with_reducible refine x_fmtI ?_
  | with_reducible refine i_mB ?_
  | with_reducible refine i_mI ?_
  | with_reducible refine i_mS ?_
  | with_reducible refine i_mL ?_
  | with_reducible refine i_mLT1 ?_
  | with_reducible refine i_mLT2 ?_
  | with_reducible refine i_mTL1 ?_
  | with_reducible refine i_mTL2 ?_
  | with_reducible refine i_mLL ?_
  | with_reducible refine i_mT ?_
  | with_reducible refine i_mF ?_
  | with_reducible refine i_itT ?_
  | with_reducible refine i_itF ?_
  | with_reducible refine i_test ?_
  | with_reducible refine i_itL ?_
  | with_reducible refine i_itS ?_
  | with_reducible refine i_part ?_
  | with_reducible refine i_sl ?_
  | with_reducible refine i_slD ?_
  | with_reducible refine i_slL ?_
  | with_reducible refine i_listOf ?_
  | with_reducible refine i_catN ?_
  | with_reducible refine i_chain ?_
  | with_reducible refine i_andV ?_
  | with_reducible refine i_orV ?_
  | with_reducible refine i_notV ?_
  | with_reducible refine i_split ?_
  | with_reducible refine i_m1 ?_
  | with_reducible refine i_star ?_
  | with_reducible refine i_callS ?_
  | with_reducible refine i_repl ?_
  | with_reducible refine i_putIx ?_
  | ((with_reducible apply i_gtup); exact rfl)
  | ((with_reducible apply i_len); exact rfl)
  | ((with_reducible apply i_varG); exact rfl)
  | ((with_reducible apply i_lenG); exact rfl)
  | ((with_reducible apply i_ixG); exact rfl)
  | with_reducible refine i_vSv ?_
  | with_reducible refine i_vSo ?_
  | with_reducible refine i_lSv ?_
  | with_reducible refine i_lSo ?_
  | with_reducible refine i_xSv ?_
  | with_reducible refine i_xSo ?_
  | ((with_reducible apply i_aug); exact rfl)
  | ((with_reducible apply i_app); exact rfl)
  | ((with_reducible apply i_mO); exact rfl)
  | ((with_reducible apply i_callP); exact rfl)
  | ((with_reducible apply i_popAt); exact rfl)))
def sp_is_title : Spd0 := fun ds Q => ∃ l, ds = [.str (mkS l)] ∧ l.length ≤ 100000 ∧ Q (.bool (isTitle l))
def letB : D → D := fun d => match d with | .str x => .bool ((tl x).all fun c => decide (97 ≤ c) && decide (c ≤ 122)) | _ => .none
theorem pl_is_title : Law0 nn_is_title sp_is_title d_is_title := by
  rintro ds Q ⟨l, rfl, hs, h⟩
  have hb := sizeLine_big
  unfold isTitle at h
  unfold d_is_title
  symm_saturate
  refine ⟨by simp; omega, ?_⟩
  symm_saturate
  refine i_mTF (fun h1 => ?_) fun h1 => ?_
  · symm_saturate
    refine i_mTF (fun h2 => ?_) fun h2 => ?_
    · symm_saturate
      refine lc_mapN (m := [Sl.val (.str (mkS l)), Sl.non]) letB rfl _ _ ?_ ?_ ?_
      · intro d hd Q' hq
        obtain ⟨c, _, rfl⟩ := List.mem_map.mp hd
        symm_saturate
        rw [s_let]
        refine Eq.mpr e_in3 ⟨c, rfl, ?_⟩
        have e0 : (if false = true then !decide (c ∈ (mkS [97, 98, 99, 100, 101, 102, 103, 104, 105, 106, 107, 108, 109, 110, 111, 112, 113, 114, 115, 116, 117, 118, 119, 120, 121, 122]).cps.toList) else decide (c ∈ (mkS [97, 98, 99, 100, 101, 102, 103, 104, 105, 106, 107, 108, 109, 110, 111, 112, 113, 114, 115, 116, 117, 118, 119, 120, 121, 122]).cps.toList)) = decide (97 ≤ c ∧ c ≤ 122) := by
          rw [if_neg (by decide), mkS_cps]
          exact decide_eq_decide.mpr (let_iff c)
        rw [e0]
        have : letB (.str ⟨#[c]⟩) = .bool (decide (97 ≤ c ∧ c ≤ 122)) := by simp [letB, Bool.decide_and]
        rw [← this]
        exact hq
      · rw [signs_mk]; simp; omega
      · have : List.map letB (signsD (mkS l)) = l.map fun c => .bool (decide (97 ≤ c) && decide (c ≤ 122)) := by
          rw [signs_mk, List.map_map]
          apply List.map_congr_left
          intro c _
          simp [letB]
        rw [this]
        symm_saturate
        refine ⟨_, boolsD_map _ l, ?_⟩
        have h1' : decide (1 ≤ l.length) = true := by simp only [decide_eq_true_eq, mkS_len] at h1 ⊢; omega
        have h2' : decide (l.length ≤ 8) = true := by simp only [decide_eq_true_eq, mkS_len] at h2 ⊢; omega
        rw [h1', h2'] at h
        simp only [List.all_map, Function.comp_def]
        exact h
    · have h2' : decide (l.length ≤ 8) = false := by simp only [decide_eq_false_iff_not, mkS_len] at h2 ⊢; omega
      rw [h2'] at h
      have h0 : Q (.bool false) := by
        cases hq : decide (1 ≤ l.length) <;> rw [hq] at h <;> exact h
      symm_saturate
      exact h0
  · have h1' : decide (1 ≤ l.length) = false := by simp only [decide_eq_false_iff_not, mkS_len] at h1 ⊢; omega
    rw [h1'] at h
    symm_saturate
    exact h
def onD : Option Nat → D
  | none => .none
  | some k => .int (k : Int)
theorem rngD_cons {lo : Int} {n : Nat} : rngD lo (n + 1) = .int lo :: rngD (lo + 1) n := by
  unfold rngD
  rw [List.range_succ_eq_map, List.map_cons, List.map_map]
  congr 1
  · simp
  · apply List.map_congr_left
    intro k _
    simp; omega
theorem rngD_zero {lo : Int} : rngD lo 0 = [] := rfl
theorem rngD_len {lo : Int} {n : Nat} : (rngD lo n).length = n := by simp [rngD]
def sp_closing_place : Spd0 := fun ds Q => ∃ l b, ds = [.str (mkS l), .int (b : Nat)] ∧ l.length ≤ 100000 ∧ b ≤ 200000 ∧ Q (onD (closeF l b))
theorem eq_sg (c e : Nat) : PyData.eqv (.str ⟨#[c]⟩) (.str (mkS [e])) = decide (c = e) := by
  have := eqv_str [c] [e]
  rw [show (PyData.str ⟨#[c]⟩) = .str (mkS [c]) from rfl, this]
  by_cases h : c = e <;> simp [h]
theorem pl_closing_place : Law0 nn_closing_place sp_closing_place d_closing_place := by
  rintro ds Q ⟨l, b, rfl, hs, hb2, h⟩
  have hb := sizeLine_big
  unfold d_closing_place
  symm_saturate
  refine ⟨by rw [mkS_len]; omega, ?_⟩
  symm_saturate
  refine ⟨_, _, rfl, rfl, by rw [mkS_len]; omega, ?_⟩
  refine forL_ind (fun rest m => ∃ (k : Nat) (dp : Int) (x : Sl), b ≤ k ∧ closeF l b = closeG (l.drop k) k dp ∧ rest = rngD (k : Int) (l.length - k) ∧ m = [Sl.val (.str (mkS l)), Sl.val (.int b), Sl.val (.int dp), x]) ?_ ?_ _ _ ⟨b, 0, Sl.non, Nat.le_refl _, rfl, by rw [mkS_len]; congr 1; omega, rfl⟩
  · rintro m ⟨k, dp, x, hk, hc, hr, rfl⟩
    have hz : l.length - k = 0 := by
      cases hq : l.length - k with
      | zero => rfl
      | succ j => rw [hq, rngD_cons] at hr; cases hr
    rw [List.drop_of_length_le (by omega)] at hc
    rw [hc] at h
    symm_saturate
    exact h
  · rintro d ds m K ⟨k, dp, x, hk, hc, hr, rfl⟩ hK
    have hz : k < l.length := by
      cases hq : l.length - k with
      | zero => rw [hq] at hr; cases hr
      | succ j => omega
    obtain ⟨j, hj⟩ : ∃ j, l.length - k = j + 1 := ⟨l.length - k - 1, by omega⟩
    rw [hj, rngD_cons] at hr
    simp only [List.cons.injEq] at hr
    obtain ⟨rfl, rfl⟩ := hr
    rw [List.drop_eq_getElem_cons hz, closeG] at hc
    have ha : atI (mkS l).cps.toList (k : Int) = some l[k] := by rw [mkS_cps, atI_natE, List.getElem?_eq_getElem hz]
    symm_saturate
    refine Eq.mpr e_ix3 ⟨by rw [mkS_len]; omega, _, ha, ?_⟩
    symm_saturate
    rw [s_op]
    refine Eq.mpr e_eq ⟨by simp [PyData.depth], ?_⟩
    symm_saturate
    refine Eq.mpr e_ix3 ⟨by rw [mkS_len]; omega, _, ha, ?_⟩
    symm_saturate
    rw [s_cl]
    refine Eq.mpr e_eq ⟨by simp [PyData.depth], ?_⟩
    symm_saturate
    refine Eq.mpr e_eq ⟨by simp [PyData.depth], ?_⟩
    symm_saturate
    rw [eq_sg, eq_sg]
    have ev : dp + ((if decide (l[k] = 40) = true then 1 else 0) - (if decide (l[k] = 41) = true then 1 else 0)) = dp + (if l[k] = 40 then 1 else 0) - (if l[k] = 41 then 1 else 0) := by
      simp only [decide_eq_true_eq]; omega
    rw [ev]
    generalize dp + (if l[k] = 40 then 1 else 0) - (if l[k] = 41 then 1 else 0) = dq at hc ⊢
    refine i_ite (fun h1 => ?_) fun h1 => ?_
    · have h1' : dq = 0 := by simpa [PyData.eqv] using h1
      rw [if_pos h1'] at hc
      rw [hc] at h
      symm_saturate
      exact h
    · have h1' : ¬ dq = 0 := by simpa [PyData.eqv] using h1
      rw [if_neg h1'] at hc
      symm_saturate
      exact hK _ ⟨k + 1, dq, _, by omega, hc, by simp; congr 1; omega, rfl⟩
def sp_show_effect : Spd0 := fun ds Q => ∃ n gs, ds = [.tuple [.int n, .list (iL gs)]] ∧ gs.length ≤ 100000 ∧ n < 2 ^ 100 ∧ isEff n gs = true ∧ leastOf n gs = (n, gs) ∧ Q (.str (mkS (effT n gs)))
def strI : D → D := fun d => match d with | .int i => .str (Str.ofString (toString i)) | _ => .none
theorem effT_fit {n : Int} {gs : List Int} (hn : n < 2 ^ 100) (h0 : 0 ≤ n) (hs : gs.length ≤ 100000) (hg : ∀ g ∈ gs, 1 ≤ g ∧ g ≤ n) : ((numL n.toNat :: [124] :: gs.map fun g => numL g.toNat).map List.length).sum + (numL n.toNat :: [124] :: gs.map fun g => numL g.toNat).length * [32].length ≤ 16777216 := by
  have hl : ∀ g : Int, 0 ≤ g → g < 2 ^ 100 → (numL g.toNat).length ≤ 40 := fun g h1 h2 => numL_short (by
    have : g.toNat < 2 ^ 100 := by omega
    exact Nat.lt_of_lt_of_le this (by decide))
  have e1 := hl n h0 hn
  have e2 : ((gs.map fun g => numL g.toNat).map List.length).sum ≤ gs.length * 40 := by
    have := sum_le List.length 40 (gs.map fun g => numL g.toNat) (by
      intro x hx
      obtain ⟨g, hg', rfl⟩ := List.mem_map.mp hx
      have := hg g hg'
      exact hl g (by omega) (by omega))
    simpa using this
  simp only [List.map_cons, List.sum_cons, List.length_cons, List.length_nil, List.length_map] at e2 ⊢
  omega
theorem pl_show_effect : Law0 nn_show_effect sp_show_effect (d_show_effect sp_least) := by
  rintro ds Q ⟨n, gs, rfl, hs, hn, he, hl, h⟩
  have hb := sizeLine_big
  have he' : 0 ≤ n ∧ ∀ g ∈ gs, 1 ≤ g ∧ g ≤ n := by simpa [isEff] using he
  unfold d_show_effect
  symm_saturate
  refine ⟨n, gs, rfl, hs, he, ?_⟩
  rw [hl]
  symm_saturate
  refine Eq.mpr e_str ⟨log2_of he'.1 hn, ?_⟩
  symm_saturate
  refine lc_mapN (m := [Sl.val (.tuple [.int n, .list (iL gs)]), Sl.val (.int n), Sl.val (.list (iL gs)), Sl.non]) strI rfl _ _ ?_ (by simp; omega) ?_
  · intro d hd Q' hq
    obtain ⟨g, hg, rfl⟩ := List.mem_map.mp hd
    have := he'.2 g hg
    symm_saturate
    exact Eq.mpr e_str ⟨log2_of (by omega) (by omega), hq⟩
  · symm_saturate
    refine ⟨by simp; omega, ?_⟩
    symm_saturate
    rw [s_sp]
    have fit := effT_fit hn he'.1 hs he'.2
    unfold effT at h
    generalize hxs : (numL n.toNat :: [124] :: gs.map fun g => numL g.toNat) = xs at h fit
    refine join_ok (xs := xs) ?_ fit ?_
    case refine_2 => (symm_saturate; exact h)
    subst hxs
    rw [toS_nat n he'.1, s_bar]
    simp only [List.nil_append, List.append_nil, List.map_cons, List.map_map, List.cons.injEq, true_and]
    unfold iL
    rw [List.map_map]
    apply List.map_congr_left
    intro g hg
    have := he'.2 g hg
    simp only [Function.comp_def, strI]
    rw [toS_nat g (by omega)]
end
end K55

namespace K55
open PySem PySem.Spec PyProof.Rows L2 TL DL
section
local macro_rules | `(tactic| symm_saturate) => `(tactic| repeat (first
  | with_reducible refine x_seq ?_
  | with_reducible refine x_next ?_
  | with_reducible refine x_ret ?_
  | with_reducible refine x_retN ?_
  | with_reducible refine x_drop ?_
  | with_reducible refine x_ifS ?_
  | with_reducible refine x_gname ?_
  | with_reducible refine i_gnil ?_
  | with_reducible refine x_gcons ?_
  | with_reducible refine x_asg ?_
  | with_reducible refine x_set ?_
  | with_reducible refine x_setO ?_
  | with_reducible refine x_par ?_
  | with_reducible refine x_parVN ?_
  | with_reducible refine x_parNV ?_
  | with_reducible refine x_rng1 ?_
  | with_reducible refine x_rng2 ?_
  | with_reducible refine x_for ?_
  | with_reducible refine x_lc ?_
  | with_reducible refine x_yes ?_
  | with_reducible refine x_c ?_
  | with_reducible refine x_op ?_
  | with_reducible refine x_un ?_
  | with_reducible refine x_add1 ?_
  | with_reducible refine x_I0 ?_
  | with_reducible refine x_B0 ?_
  | with_reducible refine x_neg ?_
  | with_reducible refine x_isN ?_
  | with_reducible refine x_tru ?_
  | with_reducible refine x_truB ?_
  | with_reducible refine x_and ?_
  | with_reducible refine x_or ?_
  | with_reducible refine x_not ?_
  | with_reducible refine x_if ?_
  | with_reducible refine x_nil ?_
  | with_reducible refine x_cons ?_
  | with_reducible refine x_tup ?_
  | with_reducible refine x_lst ?_
  | with_reducible refine x_frz ?_
  | with_reducible refine x_newL ?_
  | with_reducible refine x_noP ?_
  | with_reducible refine x_CB ?_
  | with_reducible refine x_abs ?_
  | with_reducible refine x_max2 ?_
  | with_reducible refine x_min2 ?_
  | with_reducible refine x_int1 ?_
  | with_reducible refine x_int2 ?_
  | with_reducible refine x_len ?_
  | with_reducible refine x_lenD1 ?_
  | with_reducible refine x_lenD2 ?_
  | with_reducible refine x_fmt ?_
  | with_reducible refine x_call ?_
  | with_reducible refine x_raise ?_
  | with_reducible refine x_callX ?_
  | with_reducible refine x_rngL ?_
  | with_reducible refine i_nx ?_
  | with_reducible refine i_rt ?_
  | with_reducible refine i_ct ?_
  | with_reducible refine i_bk ?_
  | with_reducible refine x_isi ?_
  | with_reducible refine x_joined ?_
  | with_reducible refine x_jnil ?_
  | with_reducible refine x_jcons ?_
  | with_reducible refine x_fmtS ?_
  | with_reducible refine x_fmtI ?_
  | with_reducible refine i_mB ?_
  | with_reducible refine i_mI ?_
  | with_reducible refine i_mS ?_
  | with_reducible refine i_mL ?_
  | with_reducible refine i_mLT1 ?_
  | with_reducible refine i_mLT2 ?_
  | with_reducible refine i_mTL1 ?_
  | with_reducible refine i_mTL2 ?_
  | with_reducible refine i_mLL ?_
  | with_reducible refine i_mT ?_
  | with_reducible refine i_mF ?_
  | with_reducible refine i_itT ?_
  | with_reducible refine i_itF ?_
  | with_reducible refine i_test ?_
  | with_reducible refine i_itL ?_
  | with_reducible refine i_itS ?_
  | with_reducible refine i_part ?_
  | with_reducible refine i_sl ?_
  | with_reducible refine i_slD ?_
  | with_reducible refine i_slL ?_
  | with_reducible refine i_listOf ?_
  | with_reducible refine i_catN ?_
  | with_reducible refine i_chain ?_
  | with_reducible refine i_andV ?_
  | with_reducible refine i_orV ?_
  | with_reducible refine i_notV ?_
  | with_reducible refine i_split ?_
  | with_reducible refine i_m1 ?_
  | with_reducible refine i_star ?_
  | with_reducible refine i_callS ?_
  | with_reducible refine i_repl ?_
  | with_reducible refine i_putIx ?_
  | ((with_reducible apply i_gtup); exact rfl)
  | ((with_reducible apply i_len); exact rfl)
  | ((with_reducible apply i_varG); exact rfl)
  | ((with_reducible apply i_lenG); exact rfl)
  | ((with_reducible apply i_ixG); exact rfl)
  | with_reducible refine i_vSv ?_
  | with_reducible refine i_vSo ?_
  | with_reducible refine i_lSv ?_
  | with_reducible refine i_lSo ?_
  | with_reducible refine i_xSv ?_
  | with_reducible refine i_xSo ?_
  | ((with_reducible apply i_aug); exact rfl)
  | ((with_reducible apply i_app); exact rfl)
  | ((with_reducible apply i_mO); exact rfl)
  | ((with_reducible apply i_callP); exact rfl)
  | ((with_reducible apply i_popAt); exact rfl)))
def sp_law_least : Spd0 := fun ds Q => ∃ n gs, ds = [.int n, .list (iL gs)] ∧ gs.length ≤ 100000 ∧ (∀ g ∈ gs, g ≤ n) ∧ Q (.tuple [.int (leastOf n gs).1, .list (iL (leastOf n gs).2)])
theorem pl_law_least : Law0 nn__law_least sp_law_least d__law_least := by
  rintro ds Q ⟨n, gs, rfl, hs, hg, h⟩
  have hb := sizeLine_big
  unfold d__law_least
  symm_saturate
  refine ⟨_, rfl, by rw [iL_len]; omega, ?_⟩
  refine forL_ind (fun rest m => ∃ n' gs' x, lst n gs.reverse = lst n' gs'.reverse ∧ (∀ g ∈ gs', g ≤ n') ∧ (gs'.length ≤ rest.length ∨ lst n' gs'.reverse = (n', gs'.reverse)) ∧ m = [Sl.val (.int n'), Sl.val (.list (iL gs')), x]) ?_ ?_ _ _ ⟨n, gs, Sl.non, rfl, hg, .inl (by rw [rngD_len]; simp), rfl⟩
  · rintro m ⟨n', gs', x, h1, h2, h3, rfl⟩
    have h4 : lst n' gs'.reverse = (n', gs'.reverse) := by
      rcases h3 with h3 | h3
      · have : gs' = [] := by simpa using h3
        subst this; rfl
      · exact h3
    unfold leastOf at h
    rw [h1, h4] at h
    simp only [List.reverse_reverse] at h
    symm_saturate
    exact h
  · rintro d ds m K ⟨n', gs', x, h1, h2, h3, rfl⟩ hK
    symm_saturate
    have stop : lst n' gs'.reverse = (n', gs'.reverse) → K [Sl.val (.int n'), Sl.val (.list (iL gs')), .val d] := fun e => hK _ ⟨n', gs', _, h1, h2, .inr e, rfl⟩
    refine i_ite (fun c1 => ?_) fun c1 => ?_
    · have c1' : 0 < n' := by simpa using c1
      symm_saturate
      rcases List.eq_nil_or_concat gs' with e | ⟨a, g, e⟩
      · subst e
        refine Eq.mpr e_eq ⟨by simp [PyData.depth, PyData.depthAll, DL.cutD], ?_⟩
        symm_saturate
        exact stop rfl
      · have e' : gs' = a ++ [g] := by rw [e, List.concat_eq_append]
        subst e'
        have ha : ∀ x ∈ a, x ≤ n' := fun x hx => h2 x (by simp [hx])
        have e1 : cutD (iL (a ++ [g])) (some (-1)) none = iL [g] := by rw [cutD_iL, cutL_last]
        have e2 : cutD (iL (a ++ [g])) none (some (-1)) = iL a := by rw [cutD_iL, cutL_m1]
        have e3 : (a ++ [g]).reverse = g :: a.reverse := by simp
        rw [e3] at h1 stop h3
        rw [e1]
        refine Eq.mpr e_eq ⟨by simp [PyData.depth, PyData.depthAll], ?_⟩
        symm_saturate
        have e4 : PyData.eqv (.list (iL [g])) (.list [.int n']) = decide ([g] = [n']) := eqv_list [g] [n']
        rw [e4]
        refine i_ite (fun c2 => ?_) fun c2 => ?_
        · have c2' : g = n' := by simpa using c2
          symm_saturate
          rw [e2]
          refine Eq.mpr e_in1 ⟨by have := depth_iL a; omega, ?_⟩
          symm_saturate
          rw [if_pos rfl, inD_iL]
          refine i_ite (fun c3 => ?_) fun c3 => ?_
          · have c3' : n' ∉ a := by simpa using c3
            symm_saturate
            rw [e2]
            have hc : g = n' ∧ a.reverse.foldr max 0 < n' := ⟨c2', (top_lt ha).mpr ⟨c1', c3'⟩⟩
            rw [lst, if_pos hc] at h1 h3
            refine hK _ ⟨n' - 1, a, _, h1, ?_, ?_, rfl⟩
            · intro x hx
              have := ha x hx
              by_cases e : x = n'
              · subst e; exact absurd hx c3'
              · omega
            · rcases h3 with h3 | h3
              · left; simp at h3; omega
              · exfalso
                have l1 : ∀ (l : List Int) (k : Int), (lst k l).2.length ≤ l.length := by
                  intro l
                  induction l with
                  | nil => intro k; simp [lst]
                  | cons y l ih =>
                    intro k
                    rw [lst]
                    split
                    · have := ih (k - 1); simp; omega
                    · simp
                have := l1 a.reverse (n' - 1)
                rw [h3] at this
                simp at this
                omega
          · symm_saturate
            refine stop ?_
            rw [lst, if_neg]
            rintro ⟨_, hh⟩
            have := ((top_lt ha).mp hh).2
            simp at c3
            exact this c3
        · symm_saturate
          refine stop ?_
          rw [lst, if_neg]
          rintro ⟨hh, _⟩
          simp [hh] at c2
    · symm_saturate
      refine stop ?_
      have c1' : ¬ 0 < n' := by simpa using c1
      cases e : gs'.reverse with
      | nil => rfl
      | cons g r =>
        rw [lst, if_neg]
        rintro ⟨_, hh⟩
        have := (foldr_max r).1
        omega
def sp_law_number_of : Spd0 := fun ds Q => ∃ l, ds = [.str (mkS l)] ∧ l.length ≤ 100000 ∧ Q (.int (numN l))
def nonDig : D → Bool := fun d => match d with | .str x => !(tl x).all fun c => decide (48 ≤ c) && decide (c ≤ 57) | _ => false
theorem filt_nil (l : List Nat) : (signsD (mkS l)).filter nonDig = [] ↔ (l.all fun c => decide (48 ≤ c) && decide (c ≤ 57)) = true := by
  rw [signs_mk, List.filter_eq_nil_iff]
  simp only [List.mem_map, List.all_eq_true]
  constructor
  · intro h c hc
    have := h _ ⟨c, hc, rfl⟩
    simpa [nonDig] using this
  · rintro h _ ⟨c, hc, rfl⟩
    have := h c hc
    simpa [nonDig] using this
theorem eqv_nil (xs : List D) : PyData.eqv (.list xs) (.list []) = decide (xs = []) := by
  rw [PyData.eqv]
  cases xs with
  | nil => rfl
  | cons x xs => simp [PyData.eqvAll]
theorem pl_law_number_of : Law0 nn__law_number_of sp_law_number_of d__law_number_of := by
  rintro ds Q ⟨l, rfl, hs, h⟩
  have hb := sizeLine_big
  unfold d__law_number_of
  symm_saturate
  refine ⟨by rw [mkS_len]; omega, ?_⟩
  symm_saturate
  have out : canon l = false → Q (.int (-1)) := by
    intro e
    unfold numN at h
    rw [e] at h
    exact h
  refine i_mTF (fun h1 => ?_) fun h1 => ?_
  · symm_saturate
    refine i_ite (fun h2 => ?_) fun h2 => ?_
    · symm_saturate
      refine out ?_
      cases hc : canon l with
      | false => rfl
      | true =>
        have := (canon_iff.mp hc).1
        simp at h2
        omega
    · have h12 : 1 ≤ l.length ∧ l.length ≤ 9 := by
        simp only [decide_eq_true_eq, Bool.not_eq_false', mkS_len] at h1 h2
        omega
      symm_saturate
      refine lc_filN (m := [Sl.val (.str (mkS l)), Sl.non]) nonDig rfl _ _ ?_ ?_ (by rw [signs_mk]; simp; omega) ?_
      · intro d hd Q' hq
        rw [signs_mk] at hd
        obtain ⟨c, _, rfl⟩ := List.mem_map.mp hd
        symm_saturate
        rw [s_dig]
        refine Eq.mpr e_in3 ⟨c, rfl, ?_⟩
        symm_saturate
        rw [if_pos rfl, mkS_cps]
        have : (!decide (c ∈ [48, 49, 50, 51, 52, 53, 54, 55, 56, 57])) = nonDig (.str (mkS [c])) := by
          have e : decide (c ∈ [48, 49, 50, 51, 52, 53, 54, 55, 56, 57]) = decide (48 ≤ c ∧ c ≤ 57) := decide_eq_decide.mpr (dig_iff c)
          rw [e]
          simp [nonDig, Bool.decide_and]
        rw [this]
        exact hq
      · intro d hd Q' hq
        symm_saturate
        exact hq
      · rw [List.nil_append]
        symm_saturate
        refine Eq.mpr e_ne ⟨by simp [PyData.depth, PyData.depthAll], ?_⟩
        symm_saturate
        rw [eqv_nil]
        refine i_ite (fun h3 => ?_) fun h3 => ?_
        · symm_saturate
          refine out ?_
          cases hc : canon l with
          | false => rfl
          | true =>
            have := (canon_iff.mp hc).2.1
            exfalso
            have : (signsD (mkS l)).filter nonDig = [] := (filt_nil l).mpr (by
              rw [List.all_eq_true]; intro c hc'; have := this c hc'; simpa using this)
            rw [this] at h3
            simp at h3
        · have h3' : (signsD (mkS l)).filter nonDig = [] := by simpa using h3
          have ea := canon_dig ((filt_nil l).mp h3')
          have hv := valL_lt h12.2 ea
          symm_saturate
          refine Eq.mpr e_int3 ⟨_, intText_canon ea (by rintro rfl; simp at h12) (by omega), by rw [mkS_len]; omega, ?_⟩
          symm_saturate
          refine Eq.mpr e_str ⟨log2_of hv.1 (by omega), ?_⟩
          symm_saturate
          refine Eq.mpr e_eq ⟨by simp [PyData.depth], ?_⟩
          symm_saturate
          rw [toS_nat _ hv.1, valL_nat, eqv_str]
          refine i_ite (fun h4 => ?_) fun h4 => ?_
          · have hc := (canon_back h12 ea).mp (by simpa using h4)
            symm_saturate
            refine Eq.mpr e_int3 ⟨_, intText_canon ea (by rintro rfl; simp at h12) (by omega), by rw [mkS_len]; omega, ?_⟩
            unfold numN at h
            rw [if_pos hc] at h
            exact h
          · symm_saturate
            refine out ?_
            cases hc : canon l with
            | false => rfl
            | true =>
              have := (canon_back h12 ea).mpr hc
              simp [this] at h4
  · symm_saturate
    refine out ?_
    cases hc : canon l with
    | false => rfl
    | true =>
      have := (canon_iff.mp hc).1
      simp at h1
      simp [h1] at this

def sp_law_is_title : Spd0 := fun ds Q => ∃ l, ds = [.str (mkS l)] ∧ l.length ≤ 100000 ∧ Q (.bool (isTitle l))
def nonLet : D → Bool := fun d => match d with | .str x => !(tl x).all fun c => decide (97 ≤ c) && decide (c ≤ 122) | _ => false
theorem filt_let (l : List Nat) : (signsD (mkS l)).filter nonLet = [] ↔ (l.all fun c => decide (97 ≤ c) && decide (c ≤ 122)) = true := by
  rw [signs_mk, List.filter_eq_nil_iff]
  simp only [List.mem_map, List.all_eq_true]
  constructor
  · intro h c hc
    have := h _ ⟨c, hc, rfl⟩
    simpa [nonLet] using this
  · rintro h _ ⟨c, hc, rfl⟩
    have := h c hc
    simpa [nonLet] using this
theorem pl_law_is_title : Law0 nn__law_is_title sp_law_is_title d__law_is_title := by
  rintro ds Q ⟨l, rfl, hs, h⟩
  have hb := sizeLine_big
  unfold isTitle at h
  unfold d__law_is_title
  symm_saturate
  refine ⟨by rw [mkS_len]; omega, ?_⟩
  symm_saturate
  refine i_mTF (fun h1 => ?_) fun h1 => ?_
  · symm_saturate
    refine i_mTF (fun h2 => ?_) fun h2 => ?_
    · have h1' : decide (1 ≤ l.length) = true := by simp only [decide_eq_true_eq, mkS_len] at h1 ⊢; omega
      have h2' : decide (l.length ≤ 8) = true := by simp only [decide_eq_true_eq, mkS_len] at h2 ⊢; omega
      rw [h1', h2'] at h
      symm_saturate
      refine lc_filN (m := [Sl.val (.str (mkS l)), Sl.val (.str (Str.ofString "abcdefghijklmnopqrstuvwxyz")), Sl.non]) nonLet rfl _ _ ?_ ?_ (by rw [signs_mk]; simp; omega) ?_
      · intro d hd Q' hq
        rw [signs_mk] at hd
        obtain ⟨c, _, rfl⟩ := List.mem_map.mp hd
        symm_saturate
        rw [s_let]
        refine Eq.mpr e_in3 ⟨c, rfl, ?_⟩
        symm_saturate
        rw [if_pos rfl, mkS_cps]
        have : (!decide (c ∈ [97, 98, 99, 100, 101, 102, 103, 104, 105, 106, 107, 108, 109, 110, 111, 112, 113, 114, 115, 116, 117, 118, 119, 120, 121, 122])) = nonLet (.str (mkS [c])) := by
          have e : decide (c ∈ [97, 98, 99, 100, 101, 102, 103, 104, 105, 106, 107, 108, 109, 110, 111, 112, 113, 114, 115, 116, 117, 118, 119, 120, 121, 122]) = decide (97 ≤ c ∧ c ≤ 122) := decide_eq_decide.mpr (let_iff c)
          rw [e]
          simp [nonLet, Bool.decide_and]
        rw [this]
        exact hq
      · intro d hd Q' hq
        symm_saturate
        exact hq
      · rw [List.nil_append]
        symm_saturate
        refine Eq.mpr e_eq ⟨by simp [PyData.depth, PyData.depthAll], ?_⟩
        symm_saturate
        rw [eqv_nil]
        have : decide ((signsD (mkS l)).filter nonLet = []) = (true && true && l.all fun c => decide (97 ≤ c) && decide (c ≤ 122)) := by
          cases hx : (l.all fun c => decide (97 ≤ c) && decide (c ≤ 122)) with
          | true => rw [(filt_let l).mpr hx]; rfl
          | false =>
            have hz : ¬ (signsD (mkS l)).filter nonLet = [] := fun z => by rw [(filt_let l).mp z] at hx; cases hx
            rw [decide_eq_false hz]; rfl
        rw [this]
        exact h
    · have h2' : decide (l.length ≤ 8) = false := by simp only [decide_eq_false_iff_not, mkS_len] at h2 ⊢; omega
      rw [h2'] at h
      have h0 : Q (.bool false) := by
        cases hq : decide (1 ≤ l.length) <;> rw [hq] at h <;> exact h
      symm_saturate
      exact h0
  · have h1' : decide (1 ≤ l.length) = false := by simp only [decide_eq_false_iff_not, mkS_len] at h1 ⊢; omega
    rw [h1'] at h
    symm_saturate
    exact h
def sp_law_effect_text : Spd0 := fun ds Q => ∃ n gs, ds = [.tuple [.int n, .list (iL gs)]] ∧ gs.length ≤ 100000 ∧ n < 2 ^ 100 ∧ isEff n gs = true ∧ Q (.str (mkS (effT n gs)))
theorem pl_law_effect_text : Law0 nn__law_effect_text sp_law_effect_text d__law_effect_text := by
  rintro ds Q ⟨n, gs, rfl, hs, hn, he, h⟩
  have hb := sizeLine_big
  have he' : 0 ≤ n ∧ ∀ g ∈ gs, 1 ≤ g ∧ g ≤ n := by simpa [isEff] using he
  unfold d__law_effect_text
  symm_saturate
  refine ⟨_, atI_0, ?_⟩
  symm_saturate
  refine Eq.mpr e_str ⟨log2_of he'.1 hn, ?_⟩
  symm_saturate
  refine ⟨_, rfl, ?_⟩
  symm_saturate
  refine lc_mapN (m := [Sl.val (.tuple [.int n, .list (iL gs)]), Sl.non]) strI rfl _ _ ?_ (by simp; omega) ?_
  · intro d hd Q' hq
    obtain ⟨g, hg, rfl⟩ := List.mem_map.mp hd
    have := he'.2 g hg
    symm_saturate
    exact Eq.mpr e_str ⟨log2_of (by omega) (by omega), hq⟩
  · symm_saturate
    refine Eq.mpr e_add3 ⟨by simp; omega, ?_⟩
    symm_saturate
    rw [s_sp]
    have fit := effT_fit hn he'.1 hs he'.2
    unfold effT at h
    generalize hxs : (numL n.toNat :: [124] :: gs.map fun g => numL g.toNat) = xs at h fit
    refine join_ok (xs := xs) ?_ fit ?_
    case refine_2 => (symm_saturate; exact h)
    subst hxs
    rw [toS_nat n he'.1, s_bar]
    simp only [List.nil_append, List.append_nil, List.map_cons, List.map_map, List.cons_append, List.cons.injEq, true_and]
    unfold iL
    rw [List.map_map]
    apply List.map_congr_left
    intro g hg
    have := he'.2 g hg
    simp only [Function.comp_def, strI]
    rw [toS_nat g (by omega)]
def sp_law_close : Spd0 := fun ds Q => ∃ l b, ds = [.str (mkS l), .int (b : Nat)] ∧ l.length ≤ 100000 ∧ b ≤ 200000 ∧ Q (.int (match closeF l b with | some k => (k : Int) | none => -1))
theorem pl_law_close : Law0 nn__law_close sp_law_close d__law_close := by
  rintro ds Q ⟨l, b, rfl, hs, hb2, h⟩
  have hb := sizeLine_big
  unfold d__law_close
  symm_saturate
  refine ⟨by rw [mkS_len]; omega, ?_⟩
  symm_saturate
  refine ⟨_, _, rfl, rfl, by rw [mkS_len]; omega, ?_⟩
  refine forL_ind (fun rest m => ∃ (k : Nat) (dp : Int) (x : Sl), b ≤ k ∧ closeF l b = closeG (l.drop k) k dp ∧ rest = rngD (k : Int) (l.length - k) ∧ m = [Sl.val (.str (mkS l)), Sl.val (.int b), Sl.val (.int dp), x]) ?_ ?_ _ _ ⟨b, 0, Sl.non, Nat.le_refl _, rfl, by rw [mkS_len]; congr 1; omega, rfl⟩
  · rintro m ⟨k, dp, x, hk, hc, hr, rfl⟩
    have hz : l.length - k = 0 := by
      cases hq : l.length - k with
      | zero => rfl
      | succ j => rw [hq, rngD_cons] at hr; cases hr
    rw [List.drop_of_length_le (by omega)] at hc
    rw [hc] at h
    symm_saturate
    exact h
  · rintro d ds m K ⟨k, dp, x, hk, hc, hr, rfl⟩ hK
    have hz : k < l.length := by
      cases hq : l.length - k with
      | zero => rw [hq] at hr; cases hr
      | succ j => omega
    obtain ⟨j, hj⟩ : ∃ j, l.length - k = j + 1 := ⟨l.length - k - 1, by omega⟩
    rw [hj, rngD_cons] at hr
    simp only [List.cons.injEq] at hr
    obtain ⟨rfl, rfl⟩ := hr
    rw [List.drop_eq_getElem_cons hz, closeG] at hc
    have ha : atI (mkS l).cps.toList (k : Int) = some l[k] := by rw [mkS_cps, atI_natE, List.getElem?_eq_getElem hz]
    symm_saturate
    refine Eq.mpr e_ix3 ⟨by rw [mkS_len]; omega, _, ha, ?_⟩
    symm_saturate
    rw [s_op]
    refine Eq.mpr e_eq ⟨by simp [PyData.depth], ?_⟩
    symm_saturate
    refine Eq.mpr e_ix3 ⟨by rw [mkS_len]; omega, _, ha, ?_⟩
    symm_saturate
    rw [s_cl]
    refine Eq.mpr e_eq ⟨by simp [PyData.depth], ?_⟩
    symm_saturate
    refine Eq.mpr e_eq ⟨by simp [PyData.depth], ?_⟩
    symm_saturate
    rw [eq_sg, eq_sg]
    have ev : dp + (if decide (l[k] = 40) = true then 1 else 0) - (if decide (l[k] = 41) = true then 1 else 0) = dp + (if l[k] = 40 then 1 else 0) - (if l[k] = 41 then 1 else 0) := by
      simp only [decide_eq_true_eq]
    rw [ev]
    generalize dp + (if l[k] = 40 then 1 else 0) - (if l[k] = 41 then 1 else 0) = dq at hc ⊢
    refine i_ite (fun h1 => ?_) fun h1 => ?_
    · have h1' : dq = 0 := by simpa [PyData.eqv] using h1
      rw [if_pos h1'] at hc
      rw [hc] at h
      symm_saturate
      exact h
    · have h1' : ¬ dq = 0 := by simpa [PyData.eqv] using h1
      rw [if_neg h1'] at hc
      symm_saturate
      exact hK _ ⟨k + 1, dq, _, by omega, hc, by simp; congr 1; omega, rfl⟩
end
end K55

namespace K55
open PySem PySem.Spec PyProof.Rows L2 TL DL
section
local macro_rules | `(tactic| symm_saturate) => `(tactic| repeat (first
  | with_reducible refine x_seq ?_
  | with_reducible refine x_next ?_
  | with_reducible refine x_ret ?_
  | with_reducible refine x_retN ?_
  | with_reducible refine x_drop ?_
  | with_reducible refine x_ifS ?_
  | with_reducible refine x_gname ?_
  | with_reducible refine i_gnil ?_
  | with_reducible refine x_gcons ?_
  | with_reducible refine x_asg ?_
  | with_reducible refine x_set ?_
  | with_reducible refine x_setO ?_
  | with_reducible refine x_par ?_
  | with_reducible refine x_parVN ?_
  | with_reducible refine x_parNV ?_
  | with_reducible refine x_rng1 ?_
  | with_reducible refine x_rng2 ?_
  | with_reducible refine x_for ?_
  | with_reducible refine x_lc ?_
  | with_reducible refine x_yes ?_
  | with_reducible refine x_c ?_
  | with_reducible refine x_op ?_
  | with_reducible refine x_un ?_
  | with_reducible refine x_add1 ?_
  | with_reducible refine x_I0 ?_
  | with_reducible refine x_B0 ?_
  | with_reducible refine x_neg ?_
  | with_reducible refine x_isN ?_
  | with_reducible refine x_tru ?_
  | with_reducible refine x_truB ?_
  | with_reducible refine x_and ?_
  | with_reducible refine x_or ?_
  | with_reducible refine x_not ?_
  | with_reducible refine x_if ?_
  | with_reducible refine x_nil ?_
  | with_reducible refine x_cons ?_
  | with_reducible refine x_tup ?_
  | with_reducible refine x_lst ?_
  | with_reducible refine x_frz ?_
  | with_reducible refine x_newL ?_
  | with_reducible refine x_noP ?_
  | with_reducible refine x_CB ?_
  | with_reducible refine x_abs ?_
  | with_reducible refine x_max2 ?_
  | with_reducible refine x_min2 ?_
  | with_reducible refine x_int1 ?_
  | with_reducible refine x_int2 ?_
  | with_reducible refine x_len ?_
  | with_reducible refine x_lenD1 ?_
  | with_reducible refine x_lenD2 ?_
  | with_reducible refine x_fmt ?_
  | with_reducible refine x_call ?_
  | with_reducible refine x_raise ?_
  | with_reducible refine x_callX ?_
  | with_reducible refine x_rngL ?_
  | with_reducible refine i_nx ?_
  | with_reducible refine i_rt ?_
  | with_reducible refine i_ct ?_
  | with_reducible refine i_bk ?_
  | with_reducible refine x_isi ?_
  | with_reducible refine x_joined ?_
  | with_reducible refine x_jnil ?_
  | with_reducible refine x_jcons ?_
  | with_reducible refine x_fmtS ?_
  | with_reducible refine x_fmtI ?_
  | with_reducible refine i_mB ?_
  | with_reducible refine i_mI ?_
  | with_reducible refine i_mS ?_
  | with_reducible refine i_mL ?_
  | with_reducible refine i_mLT1 ?_
  | with_reducible refine i_mLT2 ?_
  | with_reducible refine i_mTL1 ?_
  | with_reducible refine i_mTL2 ?_
  | with_reducible refine i_mLL ?_
  | with_reducible refine i_mT ?_
  | with_reducible refine i_mF ?_
  | with_reducible refine i_itT ?_
  | with_reducible refine i_itF ?_
  | with_reducible refine i_test ?_
  | with_reducible refine i_itL ?_
  | with_reducible refine i_itS ?_
  | with_reducible refine i_part ?_
  | with_reducible refine i_sl ?_
  | with_reducible refine i_slD ?_
  | with_reducible refine i_slL ?_
  | with_reducible refine i_listOf ?_
  | with_reducible refine i_catN ?_
  | with_reducible refine i_chain ?_
  | with_reducible refine i_andV ?_
  | with_reducible refine i_orV ?_
  | with_reducible refine i_notV ?_
  | with_reducible refine i_split ?_
  | with_reducible refine i_m1 ?_
  | with_reducible refine i_star ?_
  | with_reducible refine i_callS ?_
  | with_reducible refine i_repl ?_
  | with_reducible refine i_putIx ?_
  | ((with_reducible apply i_gtup); exact rfl)
  | ((with_reducible apply i_len); exact rfl)
  | ((with_reducible apply i_varG); exact rfl)
  | ((with_reducible apply i_lenG); exact rfl)
  | ((with_reducible apply i_ixG); exact rfl)
  | with_reducible refine i_vSv ?_
  | with_reducible refine i_vSo ?_
  | with_reducible refine i_lSv ?_
  | with_reducible refine i_lSo ?_
  | with_reducible refine i_xSv ?_
  | with_reducible refine i_xSo ?_
  | ((with_reducible apply i_aug); exact rfl)
  | ((with_reducible apply i_app); exact rfl)
  | ((with_reducible apply i_mO); exact rfl)
  | ((with_reducible apply i_callP); exact rfl)
  | ((with_reducible apply i_popAt); exact rfl)))
/-! ### the program's phrases -/
def sp_show_phrase (d : Nat) : Spd0 := fun ds Q => ∃ ph, ds = [.list (phD ph)] ∧ phN ph < d ∧ phOk ph ∧ (phT ph).length ≤ 100000 ∧ Q (.str (mkS (phT ph)))
def sp_show_step (d : Nat) : Spd0 := fun ds Q => ∃ s, ds = [stD s] ∧ stN s < d ∧ stOk s ∧ (stT s).length ≤ 100000 ∧ Q (.str (mkS (stT s)))
theorem log2_nat {n : Nat} (h : n < 2 ^ 100) : (n : Int).natAbs.log2 < 1920 := log2_of (by omega) (by omega)
theorem empty_app (l : List Nat) : Str.empty ++ mkS l = mkS l := ext_tl (by rw [tl_append]; rfl)
theorem pl_show_step (d : Nat) : Law0 nn_show_step (sp_show_step (d + 1)) (d_show_step (sp_show_phrase d)) := by
  rintro ds Q ⟨s, rfl, hd, ok, hl, h⟩
  have hb := sizeLine_big
  unfold d_show_step
  symm_saturate
  cases s with
  | nm w =>
    refine ⟨true, by rfl, ?_⟩
    symm_saturate
    exact h
  | lg w n ph =>
    refine ⟨false, by rfl, ?_⟩
    symm_saturate
    show gdTup _ _ (.tuple [.str (mkS w), .int (n : Int), .list (phD ph)]) _ _
    symm_saturate
    have hl' : w.length + (1 + ((numL n).length + (2 + ((phT ph).length + 1)))) ≤ 100000 := by
      have := hl
      unfold stT at this
      simp only [List.length_append, List.length_cons, List.length_nil] at this
      unfold phT
      omega
    rw [stOk] at ok
    refine ⟨by rw [mkS_len]; omega, ?_⟩
    symm_saturate
    rw [empty_app]
    refine ⟨by rw [mkS_len]; omega, ?_⟩
    symm_saturate
    rw [s_sp, mkS_app]
    refine ⟨by rw [mkS_len]; simp; omega, ?_⟩
    symm_saturate
    refine ⟨log2_nat ok.1, ?_⟩
    symm_saturate
    rw [num_str, mkS_app]
    refine ⟨by rw [mkS_len]; simp; omega, ?_⟩
    symm_saturate
    rw [s_spop, mkS_app]
    refine ⟨by rw [mkS_len]; simp; omega, ?_⟩
    symm_saturate
    rw [DL.stN] at hd
    refine ⟨ph, rfl, by omega, ok.2, by omega, ?_⟩
    symm_saturate
    refine ⟨by rw [mkS_len]; omega, ?_⟩
    symm_saturate
    rw [mkS_app]
    refine ⟨by rw [mkS_len]; simp; omega, ?_⟩
    symm_saturate
    rw [s_cl, mkS_app]
    refine ⟨by rw [mkS_len]; simp; omega, ?_⟩
    symm_saturate
    rw [stT] at h
    unfold phT
    simpa using h
def shD (f : Stp → D) : D → D := fun _ => .none
theorem lc_mapF {α : Type} {i : Nat} {te : TEd} {Q : List D → En → Prop} {m : En} (g f : α → D) (hl : m.set i Sl.non = m) :
    ∀ (xs : List α) (acc : List D), (∀ x ∈ xs, ∀ Q' : D → En → Prop, Q' (f x) (m.set i (Sl.val (g x))) → te (m.set i (Sl.val (g x))) Q') → acc.length + xs.length ≤ sizeLine →
      Q (acc ++ xs.map f) m → lcL (gdName i) dYes te [i] Q (xs.map g) acc m
  | [], acc, _, _, h => by rw [List.map_nil, e_lcL0]; simp only [e_wipe1, e_wipe0, hl]; simpa using h
  | x :: xs, acc, h, hs, q => by
    rw [List.map_cons, e_lcL1]
    simp only [e_gname, e_yes, if_true]
    refine h x (by simp) _ ⟨by simp at hs; omega, ?_⟩
    simp only [e_wipe1, e_wipe0, List.set_set, hl]
    exact lc_mapF g f hl xs (acc ++ [f x]) (fun d' hd => h d' (by simp [hd])) (by simp at hs ⊢; omega) (by simpa using q)
theorem pl_show_phrase (d : Nat) : Law0 nn_show_phrase (sp_show_phrase d) (d_show_phrase (sp_show_step d)) := by
  rintro ds Q ⟨ph, rfl, hd, ok, hl, h⟩
  have hb := sizeLine_big
  have hf := joinL_fit (phTs ph)
  have hl2 : (joinL [32] (phTs ph)).length ≤ 100000 := hl
  have hlen : ph.length ≤ 200000 := by
    rw [phTs_map] at hf hl2
    simp only [List.length_map, List.length_singleton, Nat.mul_one] at hf
    omega
  unfold d_show_phrase
  symm_saturate
  have hc : ∀ s ∈ ph, (stT s).length ≤ 100000 := fun s hs => Nat.le_trans (joinL_mem (xs := phTs ph) (by rw [phTs_map]; exact List.mem_map_of_mem hs)) hl
  rw [phD_map]
  refine lc_mapF (m := [Sl.val (.list (ph.map stD)), Sl.non]) stD (fun s => .str (mkS (stT s))) rfl _ _ ?_ (by simp; omega) ?_
  · intro s hs Q' hq
    have := phN_mem hs
    symm_saturate
    exact ⟨s, rfl, by omega, phOk_mem hs ok, hc s hs, hq⟩
  · symm_saturate
    rw [s_sp]
    refine join_ok (xs := phTs ph) ?_ (by omega) ?_
    · rw [phTs_map]; simp
    · symm_saturate
      exact h
/-! ### the law's text of a phrase -/
def sp_law_phrase_text (d : Nat) : Spd0 := fun ds Q => ∃ ph, ds = [.list (phD ph)] ∧ phN ph < d ∧ phOk ph ∧ (phT ph).length ≤ 100000 ∧ Q (.str (mkS (phT ph)))
theorem pl_law_phrase_text (d : Nat) : Law0 nn__law_phrase_text (sp_law_phrase_text (d + 1)) (d__law_phrase_text (sp_law_phrase_text d)) := by
  rintro ds Q ⟨ph, rfl, hd, ok, hl, h⟩
  have hb := sizeLine_big
  have hf := joinL_fit (phTs ph)
  have hl2 : (joinL [32] (phTs ph)).length ≤ 100000 := hl
  have hlen : ph.length ≤ 200000 := by
    rw [phTs_map] at hf hl2
    simp only [List.length_map, List.length_singleton, Nat.mul_one] at hf
    omega
  have hc : ∀ s ∈ ph, (stT s).length ≤ 100000 := fun s hs => Nat.le_trans (joinL_mem (xs := phTs ph) (by rw [phTs_map]; exact List.mem_map_of_mem hs)) hl
  unfold d__law_phrase_text
  symm_saturate
  refine forL_ind (fun rest m => ∃ pr su x y, ph = pr ++ su ∧ rest = phD su ∧ m = [Sl.val (.list (phD ph)), Sl.own none ((phTs pr).map fun l => PyData.str (mkS l)), x, y]) ?_ ?_ _ _ ⟨[], ph, Sl.non, Sl.non, rfl, rfl, rfl⟩
  · rintro m ⟨pr, su, x, y, h1, h2, rfl⟩
    cases su with
    | cons a b => cases h2
    | nil =>
    rw [List.append_nil] at h1
    subst h1
    symm_saturate
    rw [s_sp]
    refine join_ok (xs := phTs ph) rfl (by omega) ?_
    symm_saturate
    exact h
  · rintro dd ds m K ⟨pr, su, x, y, h1, h2, rfl⟩ hK
    cases su with
    | nil => cases h2
    | cons s su =>
    simp only [phD, List.cons.injEq] at h2
    obtain ⟨rfl, rfl⟩ := h2
    have hs : s ∈ ph := by rw [h1]; simp
    have hn := phN_mem hs
    have hok := phOk_mem hs ok
    have hcs := hc s hs
    have hlp : pr.length < sizeLine := by
      have : pr.length ≤ ph.length := by rw [h1]; simp
      omega
    have fin : ∀ y', K [Sl.val (.list (phD ph)), Sl.own none (((phTs pr).map fun l => PyData.str (mkS l)) ++ [.str (mkS (stT s))]), Sl.val (stD s), y'] := by
      intro y'
      refine hK _ ⟨pr ++ [s], su, .val (stD s), y', by rw [h1]; simp, rfl, ?_⟩
      rw [phTs_map, phTs_map, List.map_append, List.map_append]
      rfl
    symm_saturate
    cases s with
    | nm w =>
      refine ⟨false, by rfl, ?_⟩
      symm_saturate
      refine ⟨by rw [List.length_map, phTs_map, List.length_map]; exact hlp, ?_⟩
      symm_saturate
      exact fin _
    | lg w n p =>
      have hl' : w.length + (1 + ((numL n).length + (2 + ((phT p).length + 1)))) ≤ 100000 := by
        have := hcs
        unfold stT at this
        simp only [List.length_append, List.length_cons, List.length_nil] at this
        unfold phT
        omega
      rw [stOk] at hok
      rw [DL.stN] at hn
      refine ⟨true, by rfl, ?_⟩
      symm_saturate
      show rdIx (.tuple [.str (mkS w), .int (n : Int), .list (phD p)]) _ _
      refine ⟨_, rfl, ?_⟩
      symm_saturate
      rw [s_sp]
      refine Eq.mpr e_add2 ⟨by rw [mkS_len, mkS_len]; simp; omega, ?_⟩
      symm_saturate
      show rdIx (.tuple [.str (mkS w), .int (n : Int), .list (phD p)]) _ _
      refine ⟨_, rfl, ?_⟩
      symm_saturate
      refine Eq.mpr e_str ⟨log2_nat hok.1, ?_⟩
      symm_saturate
      rw [num_str, mkS_app]
      refine Eq.mpr e_add2 ⟨by rw [mkS_len, mkS_len]; simp; omega, ?_⟩
      symm_saturate
      rw [mkS_app, s_spop]
      refine Eq.mpr e_add2 ⟨by rw [mkS_len, mkS_len]; simp; omega, ?_⟩
      symm_saturate
      show rdIx (.tuple [.str (mkS w), .int (n : Int), .list (phD p)]) _ _
      refine ⟨_, rfl, ?_⟩
      symm_saturate
      refine ⟨p, rfl, by omega, hok.2, by omega, ?_⟩
      symm_saturate
      rw [mkS_app]
      refine Eq.mpr e_add2 ⟨by rw [mkS_len, mkS_len]; simp; omega, ?_⟩
      symm_saturate
      rw [mkS_app, s_cl]
      refine Eq.mpr e_add2 ⟨by rw [mkS_len, mkS_len]; simp; omega, ?_⟩
      symm_saturate
      refine ⟨by rw [List.length_map, phTs_map, List.length_map]; exact hlp, ?_⟩
      symm_saturate
      rw [mkS_app]
      have : w ++ [32] ++ numL n ++ [32, 40] ++ phT p ++ [41] = stT (.lg w n p) := by rw [stT]; unfold phT; simp
      rw [this]
      exact fin _
end
end K55

namespace K55
open PySem PySem.Spec PyProof.Rows L2 TL DL
section
local macro_rules | `(tactic| symm_saturate) => `(tactic| repeat (first
  | with_reducible refine x_seq ?_
  | with_reducible refine x_next ?_
  | with_reducible refine x_ret ?_
  | with_reducible refine x_retN ?_
  | with_reducible refine x_drop ?_
  | with_reducible refine x_ifS ?_
  | with_reducible refine x_gname ?_
  | with_reducible refine i_gnil ?_
  | with_reducible refine x_gcons ?_
  | with_reducible refine x_asg ?_
  | with_reducible refine x_set ?_
  | with_reducible refine x_setO ?_
  | with_reducible refine x_par ?_
  | with_reducible refine x_parVN ?_
  | with_reducible refine x_parNV ?_
  | with_reducible refine x_rng1 ?_
  | with_reducible refine x_rng2 ?_
  | with_reducible refine x_for ?_
  | with_reducible refine x_lc ?_
  | with_reducible refine x_yes ?_
  | with_reducible refine x_c ?_
  | with_reducible refine x_op ?_
  | with_reducible refine x_un ?_
  | with_reducible refine x_add1 ?_
  | with_reducible refine x_I0 ?_
  | with_reducible refine x_B0 ?_
  | with_reducible refine x_neg ?_
  | with_reducible refine x_isN ?_
  | with_reducible refine x_tru ?_
  | with_reducible refine x_truB ?_
  | with_reducible refine x_and ?_
  | with_reducible refine x_or ?_
  | with_reducible refine x_not ?_
  | with_reducible refine x_if ?_
  | with_reducible refine x_nil ?_
  | with_reducible refine x_cons ?_
  | with_reducible refine x_tup ?_
  | with_reducible refine x_lst ?_
  | with_reducible refine x_frz ?_
  | with_reducible refine x_newL ?_
  | with_reducible refine x_noP ?_
  | with_reducible refine x_CB ?_
  | with_reducible refine x_abs ?_
  | with_reducible refine x_max2 ?_
  | with_reducible refine x_min2 ?_
  | with_reducible refine x_int1 ?_
  | with_reducible refine x_int2 ?_
  | with_reducible refine x_len ?_
  | with_reducible refine x_lenD1 ?_
  | with_reducible refine x_lenD2 ?_
  | with_reducible refine x_fmt ?_
  | with_reducible refine x_call ?_
  | with_reducible refine x_raise ?_
  | with_reducible refine x_callX ?_
  | with_reducible refine x_rngL ?_
  | with_reducible refine i_nx ?_
  | with_reducible refine i_rt ?_
  | with_reducible refine i_ct ?_
  | with_reducible refine i_bk ?_
  | with_reducible refine x_isi ?_
  | with_reducible refine x_joined ?_
  | with_reducible refine x_jnil ?_
  | with_reducible refine x_jcons ?_
  | with_reducible refine x_fmtS ?_
  | with_reducible refine x_fmtI ?_
  | with_reducible refine i_mB ?_
  | with_reducible refine i_mI ?_
  | with_reducible refine i_mS ?_
  | with_reducible refine i_mL ?_
  | with_reducible refine i_mLT1 ?_
  | with_reducible refine i_mLT2 ?_
  | with_reducible refine i_mTL1 ?_
  | with_reducible refine i_mTL2 ?_
  | with_reducible refine i_mLL ?_
  | with_reducible refine i_mT ?_
  | with_reducible refine i_mF ?_
  | with_reducible refine i_itT ?_
  | with_reducible refine i_itF ?_
  | with_reducible refine i_test ?_
  | with_reducible refine i_itL ?_
  | with_reducible refine i_itS ?_
  | with_reducible refine i_part ?_
  | with_reducible refine i_sl ?_
  | with_reducible refine i_slD ?_
  | with_reducible refine i_slL ?_
  | with_reducible refine i_listOf ?_
  | with_reducible refine i_catN ?_
  | with_reducible refine i_chain ?_
  | with_reducible refine i_andV ?_
  | with_reducible refine i_orV ?_
  | with_reducible refine i_notV ?_
  | with_reducible refine i_split ?_
  | with_reducible refine i_m1 ?_
  | with_reducible refine i_star ?_
  | with_reducible refine i_callS ?_
  | with_reducible refine i_repl ?_
  | with_reducible refine i_putIx ?_
  | ((with_reducible apply i_gtup); exact rfl)
  | ((with_reducible apply i_len); exact rfl)
  | ((with_reducible apply i_varG); exact rfl)
  | ((with_reducible apply i_lenG); exact rfl)
  | ((with_reducible apply i_ixG); exact rfl)
  | with_reducible refine i_vSv ?_
  | with_reducible refine i_vSo ?_
  | with_reducible refine i_lSv ?_
  | with_reducible refine i_lSo ?_
  | with_reducible refine i_xSv ?_
  | with_reducible refine i_xSo ?_
  | ((with_reducible apply i_aug); exact rfl)
  | ((with_reducible apply i_app); exact rfl)
  | ((with_reducible apply i_mO); exact rfl)
  | ((with_reducible apply i_callP); exact rfl)
  | ((with_reducible apply i_popAt); exact rfl)))
def opD : Option (Stp × Nat) → D
  | none => .none
  | some (s, k) => .tuple [stD s, .int (k : Nat)]
def phO : Option (List Stp) → D
  | none => .none
  | some p => .list (phD p)
def sp_phrase_in (c : Nat) : Spd0 := fun ds Q => ∃ l, ds = [.str (mkS l)] ∧ l.length ≤ 20000 ∧ l.count 40 < c ∧ Q (phO (parse l))
def sp_long_step (c : Nat) : Spd0 := fun ds Q => ∃ l, ds = [.str (mkS l)] ∧ l.length ≤ 20000 ∧ l.count 40 < c ∧ Q (opD (longP parse l))
def sp_step_at (c : Nat) : Spd0 := fun ds Q => ∃ l, ds = [.str (mkS l)] ∧ l.length ≤ 20000 ∧ l.count 40 < c ∧ Q (opD (stepP parse l))
theorem part1 {l w : List Nat} {r : List (List Nat)} (h : pcs l = w :: r) : (Txt.partition (mkS l) (mkS [32])).1 = mkS w ∧ (Txt.partition (mkS l) (mkS [32])).2.2 = mkS (rstOf r) := by
  have fw : 32 ∉ w := pcs_free (l := l) (by rw [h]; simp)
  have hj := join_pcs l
  rw [h] at hj
  cases r with
  | nil =>
    have : l = w := hj.symm
    subst this
    rw [partition_none (y := mkS [32]) rfl (a := mkS l) fw]
    exact ⟨rfl, rfl⟩
  | cons x xs =>
    have : mkS l = mkS w ++ mkS [32] ++ mkS (joinL [32] (x :: xs)) := by
      rw [mkS_app, mkS_app, ← hj, joinL_cons2]; simp
    rw [this, partition_app (y := mkS [32]) rfl (a := mkS w) fw]
    exact ⟨rfl, rfl⟩
theorem part2 (r : List Nat) : (Txt.partition (mkS r) (mkS [32, 40])).1 = mkS (numBr r).1 ∧ (Txt.partition (mkS r) (mkS [32, 40])).2.1 = (if (numBr r).2 = true then mkS [32, 40] else mkS []) := by
  rw [partition_par _ _ (by simp)]
  unfold numBr
  simp only [mkS_cps]
  cases par [32, 40] [] r with
  | none => exact ⟨rfl, rfl⟩
  | some ab => exact ⟨rfl, rfl⟩
theorem brP {l w : List Nat} {r : List (List Nat)} (h : pcs l = w :: r) (h2 : (numBr (rstOf r)).2 = true) : ∃ x, l = (w ++ ([32] ++ ((numBr (rstOf r)).1 ++ [32]))) ++ (40 :: x) ∧ (w ++ ([32] ++ ((numBr (rstOf r)).1 ++ [32]))).length = w.length + (numBr (rstOf r)).1.length + 2 := by
  have hj := join_pcs l
  rw [h] at hj
  cases r with
  | nil => cases h2
  | cons y ys =>
    unfold numBr at h2 ⊢
    cases hp : par [32, 40] [] (rstOf (y :: ys)) with
    | none => rw [hp] at h2; cases h2
    | some ab =>
      obtain ⟨a, b⟩ := ab
      obtain ⟨x, h1, h3⟩ := par_pref _ _ _ _ hp
      rw [List.nil_append] at h1
      subst h1
      refine ⟨b, ?_, by simp; omega⟩
      rw [joinL_cons2] at hj
      have : joinL [32] (y :: ys) = a ++ ([32, 40] ++ b) := h3
      rw [this] at hj
      rw [← hj]
      simp
theorem inW (w : List Nat) : inD (.str (mkS w)) [.str (Str.ofString "under"), .str (Str.ofString "times")] = isW w := by
  rw [s_under, s_times]
  unfold inD isW
  simp only [List.any_cons, List.any_nil, eqv_str, Bool.or_false]
  congr 1
  · exact decide_eq_decide.mpr eq_comm
  · exact decide_eq_decide.mpr eq_comm
theorem numBr_len (r : List Nat) : (numBr r).1.length ≤ r.length := by
  unfold numBr
  cases hp : par [32, 40] [] r with
  | none => exact Nat.le_refl _
  | some ab =>
    obtain ⟨a, b⟩ := ab
    obtain ⟨x, h1, h3⟩ := par_pref _ _ _ _ hp
    rw [List.nil_append] at h1
    subst h1
    rw [h3]; simp
theorem rstOf_len {l w : List Nat} {r : List (List Nat)} (h : pcs l = w :: r) : w.length + (rstOf r).length ≤ l.length := by
  have hj := join_pcs l
  rw [h] at hj
  cases r with
  | nil => rw [← hj]; simp [rstOf, joinL]
  | cons y ys => rw [← hj, joinL_cons2]; simp [rstOf]
theorem pl_long_step (c : Nat) : Law0 nn_long_step (sp_long_step (c + 1)) (d_long_step sp_number_in (sp_phrase_in c) sp_closing_place) := by
  rintro ds Q ⟨l, rfl, hs, hk, h⟩
  have hb := sizeLine_big
  obtain ⟨w, r, hp⟩ := pcs_ne l
  have hp1 := part1 hp
  have hp2 := part2 (rstOf r)
  have hl1 := rstOf_len hp
  have hl2 := numBr_len (rstOf r)
  have hbr := brP hp
  unfold longP at h
  rw [hp] at h
  simp only at h
  unfold d_long_step
  symm_saturate
  rw [s_sp]
  refine Eq.mpr e_partition ⟨by rw [mkS_len]; rfl, by rw [mkS_len]; omega, ?_⟩
  symm_saturate
  rw [hp1.2]
  rw [s_spop]
  refine Eq.mpr e_partition ⟨by rw [mkS_len]; rfl, by rw [mkS_len]; omega, ?_⟩
  symm_saturate
  rw [hp2.1, hp2.2, hp1.1]
  generalize hm : numBr (rstOf r) = m at h hl2 hbr hp2 ⊢
  refine ⟨by rw [mkS_len]; omega, ?_⟩
  symm_saturate
  refine ⟨by rw [mkS_len]; omega, ?_⟩
  symm_saturate
  have eb : ((mkS w).length : Int) + 1 + ((mkS m.1).length : Int) + 1 = ((w.length + m.1.length + 2 : Nat) : Int) := by rw [mkS_len, mkS_len]; omega
  rw [eb]
  generalize hbb : w.length + m.1.length + 2 = b at h hbr ⊢
  refine Eq.mpr e_ne ⟨by simp [PyData.depth], ?_⟩
  symm_saturate
  have hW := inW w
  -- the rest, with the end at hand
  have fin : ∀ (eo : Option Nat), (eo = if m.2 = true then closeF l b else none) → ∀ x9, dSeq (dIfS (dOr (dTest (dOp (rdIn true) (dVar 1) (dTup (dCons (dC (.str "under")) (dCons (dC (.str "times")) dNil))))) (dOr (dTest (dOp rdIsN (dCall sp_number_in (dCons (dVar 4) dNil)) (dC .none))) (dTest (dOp rdIsN (dVar 8) (dC .none)))))
    ((dRet (dC .none)))
    (dNext))
    (dSeq (dSet 9 (dCall (sp_phrase_in c) (dCons (dSl (dVar 0) (dPart (dOp rdAdd (dVar 7) (dC (.int 1)))) (dPart (dVar 8))) dNil)))
    (dRet (dIf (dTest (dOp rdIsN (dVar 9) (dC .none))) (dC .none) (dTup (dCons (dTup (dCons (dVar 1) (dCons (dCall sp_number_in (dCons (dVar 4) dNil)) (dCons (dVar 9) dNil)))) (dCons (dOp rdAdd (dVar 8) (dC (.int 1))) dNil))))))
    { nx := fun _ => Q .none, rt := fun d _ => Q d } [Sl.val (.str (mkS l)), Sl.val (.str (mkS w)), Sl.val (.str (Txt.partition (mkS l) (mkS [32])).2.1), Sl.val (.str (mkS (rstOf r))), Sl.val (.str (mkS m.1)), Sl.val (.str (if m.2 = true then mkS [32, 40] else mkS [])), x9, Sl.val (.int (b : Nat)), Sl.val (onD eo), Sl.non] := by
    intro eo heo x9
    rw [← heo] at h
    symm_saturate
    refine Eq.mpr e_in2 ⟨by simp [PyData.depth, PyData.depthAll], ?_⟩
    symm_saturate
    rw [if_pos rfl, hW]
    refine i_ite (fun c1 => ?_) fun c1 => ?_
    · have c1' : isW w = false := by simpa using c1
      symm_saturate
      have hn : Q .none := by
        cases eo with
        | none => exact h
        | some e => simp only [c1', Bool.false_eq_true, false_and, if_false] at h; exact h
      exact hn
    · have c1' : isW w = true := by simpa using c1
      symm_saturate
      refine ⟨m.1, rfl, by omega, ?_⟩
      symm_saturate
      refine i_ite (fun c2 => ?_) fun c2 => ?_
      · have c2' : canon m.1 = false := by
          cases hc : canon m.1 with
          | false => rfl
          | true => unfold numD at c2; rw [hc] at c2; cases c2
        symm_saturate
        have hn : Q .none := by
          cases eo with
          | none => exact h
          | some e => simp only [c2', Bool.false_eq_true, and_false, if_false] at h; exact h
        exact hn
      · have c2' : canon m.1 = true := by
          cases hc : canon m.1 with
          | true => rfl
          | false => unfold numD at c2; rw [hc] at c2; cases c2
        symm_saturate
        cases eo with
        | none =>
          refine i_itT ?_
          symm_saturate
          exact h
        | some e =>
          refine i_itF ?_
          symm_saturate
          show mI (.int (e : Nat)) _
          symm_saturate
          have hm2 : m.2 = true ∧ closeF l b = some e := by
            cases hq : m.2 with
            | true => rw [hq] at heo; exact ⟨rfl, by rw [if_pos rfl] at heo; exact heo.symm⟩
            | false => rw [hq] at heo; cases heo
          obtain ⟨x, hx, hxl⟩ := hbr hm2.1
          have hge := closeF_ge hm2.2
          have ei : cutS (mkS l) (some ((b : Nat) + 1)) (some ((e : Nat) : Int)) = mkS (inner l b e) := by
            rw [cutS_mk, cutL_mid _ (by omega) (by omega)]
            unfold inner
            have : ((b : Int) + 1).toNat = b + 1 := by omega
            rw [this]; rfl
          refine i_slS (by rw [mkS_len]; omega) ?_
          symm_saturate
          rw [ei]
          have hcnt := inner_count (e := e) hx
          rw [hxl] at hcnt
          have hil := inner_len (e := e) (closeF_lt hm2.2)
          refine ⟨_, rfl, by omega, by omega, ?_⟩
          symm_saturate
          simp only [c1', c2', and_self, if_true] at h
          cases hpi : parse (inner l b e) with
          | none =>
            rw [hpi] at h
            refine i_itT ?_
            symm_saturate
            exact h
          | some p =>
            rw [hpi] at h
            refine i_itF ?_
            symm_saturate
            refine ⟨m.1, rfl, by omega, ?_⟩
            symm_saturate
            show rdAdd (.int (e : Nat)) (.int 1) _
            symm_saturate
            have en : numD m.1 = .int ((NumText.digitsVal m.1 : Nat) : Int) := by simp [numD, c2', valL]
            rw [en]
            exact h
  have eqv2 : PyData.eqv (.str (if m.2 = true then mkS [32, 40] else mkS [])) (.str (Str.ofString "")) = !m.2 := by
    rw [s_empty]
    cases m.2 with
    | true => exact eqv_str [32, 40] []
    | false => exact eqv_str [] []
  rw [eqv2]
  refine i_ite (fun c0 => ?_) fun c0 => ?_
  · have c0' : m.2 = true := by simpa using c0
    symm_saturate
    obtain ⟨x, hx, hxl⟩ := hbr c0'
    refine ⟨l, b, rfl, by omega, by omega, ?_⟩
    refine i_nx ?_
    exact fin (closeF l b) (by rw [if_pos c0']) _
  · have c0' : m.2 = false := by simpa using c0
    refine x_c ?_
    refine i_nx ?_
    exact fin none (by rw [c0']; rfl) _
end
end K55

namespace K55
open PySem PySem.Spec PyProof.Rows L2 TL DL
section
local macro_rules | `(tactic| symm_saturate) => `(tactic| repeat (first
  | with_reducible refine x_seq ?_
  | with_reducible refine x_next ?_
  | with_reducible refine x_ret ?_
  | with_reducible refine x_retN ?_
  | with_reducible refine x_drop ?_
  | with_reducible refine x_ifS ?_
  | with_reducible refine x_gname ?_
  | with_reducible refine i_gnil ?_
  | with_reducible refine x_gcons ?_
  | with_reducible refine x_asg ?_
  | with_reducible refine x_set ?_
  | with_reducible refine x_setO ?_
  | with_reducible refine x_par ?_
  | with_reducible refine x_parVN ?_
  | with_reducible refine x_parNV ?_
  | with_reducible refine x_rng1 ?_
  | with_reducible refine x_rng2 ?_
  | with_reducible refine x_for ?_
  | with_reducible refine x_lc ?_
  | with_reducible refine x_yes ?_
  | with_reducible refine x_c ?_
  | with_reducible refine x_op ?_
  | with_reducible refine x_un ?_
  | with_reducible refine x_add1 ?_
  | with_reducible refine x_I0 ?_
  | with_reducible refine x_B0 ?_
  | with_reducible refine x_neg ?_
  | with_reducible refine x_isN ?_
  | with_reducible refine x_tru ?_
  | with_reducible refine x_truB ?_
  | with_reducible refine x_and ?_
  | with_reducible refine x_or ?_
  | with_reducible refine x_not ?_
  | with_reducible refine x_if ?_
  | with_reducible refine x_nil ?_
  | with_reducible refine x_cons ?_
  | with_reducible refine x_tup ?_
  | with_reducible refine x_lst ?_
  | with_reducible refine x_frz ?_
  | with_reducible refine x_newL ?_
  | with_reducible refine x_noP ?_
  | with_reducible refine x_CB ?_
  | with_reducible refine x_abs ?_
  | with_reducible refine x_max2 ?_
  | with_reducible refine x_min2 ?_
  | with_reducible refine x_int1 ?_
  | with_reducible refine x_int2 ?_
  | with_reducible refine x_len ?_
  | with_reducible refine x_lenD1 ?_
  | with_reducible refine x_lenD2 ?_
  | with_reducible refine x_fmt ?_
  | with_reducible refine x_call ?_
  | with_reducible refine x_raise ?_
  | with_reducible refine x_callX ?_
  | with_reducible refine x_rngL ?_
  | with_reducible refine i_nx ?_
  | with_reducible refine i_rt ?_
  | with_reducible refine i_ct ?_
  | with_reducible refine i_bk ?_
  | with_reducible refine x_isi ?_
  | with_reducible refine x_joined ?_
  | with_reducible refine x_jnil ?_
  | with_reducible refine x_jcons ?_
  | with_reducible refine x_fmtS ?_
  | with_reducible refine x_fmtI ?_
  | with_reducible refine i_mB ?_
  | with_reducible refine i_mI ?_
  | with_reducible refine i_mS ?_
  | with_reducible refine i_mL ?_
  | with_reducible refine i_mLT1 ?_
  | with_reducible refine i_mLT2 ?_
  | with_reducible refine i_mTL1 ?_
  | with_reducible refine i_mTL2 ?_
  | with_reducible refine i_mLL ?_
  | with_reducible refine i_mT ?_
  | with_reducible refine i_mF ?_
  | with_reducible refine i_itT ?_
  | with_reducible refine i_itF ?_
  | with_reducible refine i_test ?_
  | with_reducible refine i_itL ?_
  | with_reducible refine i_itS ?_
  | with_reducible refine i_part ?_
  | with_reducible refine i_sl ?_
  | with_reducible refine i_slD ?_
  | with_reducible refine i_slL ?_
  | with_reducible refine i_listOf ?_
  | with_reducible refine i_catN ?_
  | with_reducible refine i_chain ?_
  | with_reducible refine i_andV ?_
  | with_reducible refine i_orV ?_
  | with_reducible refine i_notV ?_
  | with_reducible refine i_split ?_
  | with_reducible refine i_m1 ?_
  | with_reducible refine i_star ?_
  | with_reducible refine i_callS ?_
  | with_reducible refine i_repl ?_
  | with_reducible refine i_putIx ?_
  | ((with_reducible apply i_gtup); exact rfl)
  | ((with_reducible apply i_len); exact rfl)
  | ((with_reducible apply i_varG); exact rfl)
  | ((with_reducible apply i_lenG); exact rfl)
  | ((with_reducible apply i_ixG); exact rfl)
  | with_reducible refine i_vSv ?_
  | with_reducible refine i_vSo ?_
  | with_reducible refine i_lSv ?_
  | with_reducible refine i_lSo ?_
  | with_reducible refine i_xSv ?_
  | with_reducible refine i_xSo ?_
  | ((with_reducible apply i_aug); exact rfl)
  | ((with_reducible apply i_app); exact rfl)
  | ((with_reducible apply i_mO); exact rfl)
  | ((with_reducible apply i_callP); exact rfl)
  | ((with_reducible apply i_popAt); exact rfl)))
theorem atI_1 {α : Type} {x y : α} {xs : List α} : atI (x :: y :: xs) 1 = some y := by rw [atI_int (by decide)]; rfl
theorem atI_2 {α : Type} {x y z : α} {xs : List α} : atI (x :: y :: z :: xs) 2 = some z := by rw [atI_int (by decide)]; rfl
theorem head_eq {l w : List Nat} {r : List (List Nat)} (h : pcs l = w :: r) : (pcs l).head! = w := by rw [h]; rfl
theorem pl_step_at (c : Nat) : Law0 nn_step_at (sp_step_at c) (d_step_at sp_is_title (sp_long_step c)) := by
  rintro ds Q ⟨l, rfl, hs, hk, h⟩
  have hb := sizeLine_big
  obtain ⟨w, r, hp⟩ := pcs_ne l
  have hp1 := part1 hp
  have hl1 := rstOf_len hp
  unfold stepP at h
  rw [head_eq hp] at h
  unfold d_step_at
  symm_saturate
  refine ⟨l, rfl, hs, hk, ?_⟩
  symm_saturate
  cases hL : longP parse l with
  | some x =>
    rw [hL] at h
    refine i_itF ?_
    symm_saturate
    exact h
  | none =>
    rw [hL] at h
    refine i_itT ?_
    symm_saturate
    rw [s_sp]
    refine Eq.mpr e_partition ⟨by rw [mkS_len]; rfl, by rw [mkS_len]; omega, ?_⟩
    symm_saturate
    refine ⟨_, rfl, ?_⟩
    rw [hp1.1]
    symm_saturate
    refine ⟨w, rfl, by omega, ?_⟩
    symm_saturate
    unfold nameF at h
    refine i_ite (fun c1 => ?_) fun c1 => ?_
    · rw [if_pos c1] at h
      symm_saturate
      refine ⟨by rw [mkS_len]; omega, ?_⟩
      symm_saturate
      rw [mkS_len]
      exact h
    · rw [if_neg (by simp [c1])] at h
      symm_saturate
      exact h
theorem eqv_mt (r : List Nat) : PyData.eqv (.str (mkS r)) (.str (Str.ofString "")) = decide (r = []) := by rw [s_empty]; exact eqv_str r []
theorem stepP_pos' {l : List Nat} {s : Stp} {k : Nat} (h : stepP parse l = some (s, k)) : 1 ≤ k := stepP_pos h
theorem cut_from (l : List Nat) (k : Nat) : cutS (mkS l) (some (k : Int)) none = mkS (l.drop k) := by
  rw [cutS_mk, cutL_from _ (by omega)]; rfl
theorem parse_nil : parse [] = some [] := rfl
theorem pl_phrase_in (c : Nat) : Law0 nn_phrase_in (sp_phrase_in c) (d_phrase_in (sp_step_at c)) := by
  rintro ds Q ⟨l, rfl, hs, hk, h⟩
  have hb := sizeLine_big
  unfold d_phrase_in
  symm_saturate
  refine while_ind (fun m => ∃ (acc : List Stp) (r : List Nat) (x : Sl), acc.length + r.length ≤ l.length ∧ r.count 40 ≤ l.count 40 ∧ parse l = (parse r).map (acc ++ ·) ∧ m = [Sl.val (.str (mkS l)), Sl.own none (phD acc), Sl.val (.str (mkS r)), x])
    (fun m => match m[2]? with | some (Sl.val (.str z)) => z.length | _ => 0) ?_ _ ⟨[], l, Sl.non, by simp, Nat.le_refl _, by simp, rfl⟩
  rintro m K ⟨acc, r, x, hlen, hcnt, hpar, rfl⟩ hK
  symm_saturate
  refine Eq.mpr e_ne ⟨by simp [PyData.depth], ?_⟩
  symm_saturate
  rw [eqv_mt]
  refine i_ite (fun c0 => ?_) fun c0 => ?_
  · have hr : r ≠ [] := by simpa using c0
    have hrl : 0 < r.length := List.length_pos_iff.mpr hr
    rw [parse_prog r] at hpar
    unfold goF at hpar
    rw [if_neg hr] at hpar
    symm_saturate
    refine ⟨r, rfl, by omega, by omega, ?_⟩
    symm_saturate
    cases hL : stepP parse r with
    | none =>
      rw [hL] at hpar
      refine i_itT ?_
      symm_saturate
      rw [hpar] at h
      exact h
    | some sk =>
      obtain ⟨s, k⟩ := sk
      have hkp := stepP_pos hL
      rw [hL] at hpar
      simp only at hpar
      refine i_itF ?_
      symm_saturate
      refine ⟨_, rfl, ?_⟩
      symm_saturate
      refine ⟨by rw [phD_len]; omega, ?_⟩
      symm_saturate
      refine ⟨_, rfl, ?_⟩
      symm_saturate
      refine i_slS (by rw [mkS_len]; omega) ?_
      symm_saturate
      rw [cut_from]
      have hdl : (r.drop k).length = r.length - k := by simp
      have hdc : (r.drop k).count 40 ≤ r.count 40 := (List.drop_sublist _ _).count_le 40
      refine Eq.mpr e_ne ⟨by simp [PyData.depth], ?_⟩
      symm_saturate
      rw [eqv_mt]
      have eacc : phD acc ++ [stD s] = phD (acc ++ [s]) := by rw [← phD_app]; rfl
      generalize hq : r.drop k = q at hpar hdl hdc ⊢
      refine i_ite (fun c1 => ?_) fun c1 => ?_
      · have hqn : q ≠ [] := by simpa using c1
        obtain ⟨a, q', rfl⟩ : ∃ a q', q = a :: q' := by cases q with
          | nil => exact absurd rfl hqn
          | cons a q' => exact ⟨a, q', rfl⟩
        symm_saturate
        refine Eq.mpr e_ix3 ⟨by rw [mkS_len]; omega, a, by rw [mkS_cps, atI_0], ?_⟩
        symm_saturate
        rw [s_sp]
        refine Eq.mpr e_ne ⟨by simp [PyData.depth], ?_⟩
        symm_saturate
        rw [eq_sg]
        refine i_ite (fun c2 => ?_) fun c2 => ?_
        · have ha : a ≠ 32 := by simpa using c2
          symm_saturate
          have : restF (a :: q') = none := by simp [restF, ha]
          rw [this] at hpar
          rw [hpar] at h
          exact h
        · have ha : a = 32 := by simpa using c2
          subst ha
          symm_saturate
          refine Eq.mpr e_eq ⟨by simp [PyData.depth], ?_⟩
          symm_saturate
          rw [eqv_str]
          refine i_ite (fun c3 => ?_) fun c3 => ?_
          · have hq' : (32 :: q') = [32] := by simpa using c3
            symm_saturate
            have : restF (32 :: q') = none := by rw [hq']; rfl
            rw [this] at hpar
            rw [hpar] at h
            exact h
          · have hq' : ¬ (32 :: q') = [32] := by simpa using c3
            symm_saturate
            refine i_slS (by rw [mkS_len]; omega) ?_
            symm_saturate
            have ec : cutS (mkS (32 :: q')) (some 1) none = mkS q' := cut_from (32 :: q') 1
            rw [ec]
            have : restF (32 :: q') = some q' := by
              unfold restF
              rw [if_neg (by simp), if_neg]
              · rfl
              · rintro (z | z)
                · simp at z
                · exact hq' z
            rw [this] at hpar
            simp only at hpar
            simp only [List.length_cons] at hdl
            rw [List.count_cons] at hdc
            refine hK _ ⟨acc ++ [s], q', .val (.tuple [stD s, .int (k : Nat)]), by simp; omega, by omega, ?_, by rw [← eacc]; rfl⟩ ?_
            · rw [hpar, Option.map_map]
              congr 1
              funext z
              simp
            · show (mkS q').length < (mkS r).length
              rw [mkS_len, mkS_len]; omega
      · have hqn : q = [] := by simpa using c1
        subst hqn
        symm_saturate
        have : restF [] = some [] := rfl
        rw [this] at hpar
        simp only [parse_nil, Option.map_some] at hpar
        refine hK _ ⟨acc ++ [s], [], .val (.tuple [stD s, .int (k : Nat)]), by simp at hdl ⊢; omega, by simp, ?_, by rw [← eacc]; rfl⟩ ?_
        · rw [hpar, parse_nil]; simp
        · show (mkS []).length < (mkS r).length
          rw [mkS_len, mkS_len]; exact hrl
  · have hr : r = [] := by simpa using c0
    subst hr
    rw [parse_nil] at hpar
    symm_saturate
    rw [hpar] at h
    simpa [phO] using h
/-! ### the law's side -/
def effL : Option (Int × List Int) → List D
  | none => []
  | some (n, gs) => [.tuple [.int n, .list (iL gs)]]
def sp_law_effect_of : Spd0 := fun ds Q => ∃ l, ds = [.str (mkS l)] ∧ l.length ≤ 50000 ∧ Q (.list (effL (effF l)))
def numNd : D → D := fun d => match d with | .str x => .int (numN (tl x)) | _ => .none
def badN (n : Int) : D → Bool := fun d => match d with | .int i => !(decide (0 < i) && decide (i ≤ n)) | _ => false
theorem canon_nn {l : List Nat} (h : canon l = true) : 0 ≤ valL l := by unfold valL; omega
theorem pl_law_effect_of : Law0 nn__law_effect_of sp_law_effect_of (d__law_effect_of sp_law_least sp_law_number_of) := by
  rintro ds Q ⟨l, rfl, hs, h⟩
  have hb := sizeLine_big
  have hp := pcs_len l
  unfold d__law_effect_of
  symm_saturate
  rw [s_sp]
  refine ⟨by rw [mkS_len]; rfl, by rw [mkS_len]; omega, ?_⟩
  rw [split_pcs, List.map_map]
  obtain ⟨p, r, hr⟩ := pcs_ne l
  have hpl : p.length ≤ l.length := pcs_each (by rw [hr]; simp)
  have hrl : ∀ q ∈ r, q.length ≤ l.length := fun q hq => pcs_each (by rw [hr]; simp [hq])
  unfold effF at h
  rw [hr] at hp h ⊢
  symm_saturate
  cases r with
  | nil =>
    refine i_itT ?_
    symm_saturate
    exact h
  | cons q r =>
  refine i_itF ?_
  symm_saturate
  refine ⟨_, _, rfl, atI_1, ?_⟩
  symm_saturate
  rw [s_bar]
  refine Eq.mpr e_ne ⟨by simp [PyData.depth], ?_⟩
  symm_saturate
  simp only [Function.comp_def]
  rw [eqv_str]
  simp only at h
  refine i_ite (fun c1 => ?_) fun c1 => ?_
  · have c1' : ¬ q = [124] := by simpa using c1
    rw [if_neg (fun z => c1' z.1)] at h
    symm_saturate
    exact h
  · have c1' : q = [124] := by simpa using c1
    symm_saturate
    refine ⟨_, _, rfl, atI_0, ?_⟩
    symm_saturate
    refine ⟨p, rfl, by omega, ?_⟩
    symm_saturate
    rw [cutD_L, cutL_from _ (by decide)]
    have e2 : (List.map (fun x => PyData.str (mkS x)) (p :: q :: r)).drop (2 : Int).toNat = r.map fun l => PyData.str (mkS l) := rfl
    rw [e2]
    refine lc_mapF (m := [Sl.val (.str (mkS l)), Sl.val (.list ((p :: q :: r).map (fun x => PyData.str (mkS x)))), Sl.val (.int (numN p)), Sl.non, Sl.non]) (fun l => PyData.str (mkS l)) (fun l => .int (numN l)) rfl _ _ ?_ (by simp at hp ⊢; omega) ?_
    · intro y hy Q' hq
      have := hrl y (by simp [hy])
      symm_saturate
      exact ⟨y, rfl, by omega, hq⟩
    · have e3 : ([] ++ r.map fun l => PyData.int (numN l)) = iL (r.map numN) := by simp [iL]
      rw [e3]
      symm_saturate
      have out : ¬(canon p = true ∧ r.all canon = true ∧ isEff (valL p) (r.map valL) = true ∧ leastOf (valL p) (r.map valL) = (valL p, r.map valL)) → Q (.list []) := by
        intro hn
        rw [if_neg (fun z => hn z.2)] at h
        exact h
      refine i_ite (fun c2 => ?_) fun c2 => ?_
      · symm_saturate
        refine out fun z => ?_
        have := canon_nn z.1
        simp [numN, z.1] at c2
        omega
      · have hcp : canon p = true := by
          cases hc : canon p with
          | true => rfl
          | false => simp [numN, hc] at c2
        have enp : numN p = valL p := by simp [numN, hcp]
        rw [enp] at c2 ⊢
        symm_saturate
        refine lc_filN (m := [Sl.val (.str (mkS l)), Sl.val (.list ((p :: q :: r).map (fun x => PyData.str (mkS x)))), Sl.val (.int (valL p)), Sl.val (.list (iL (r.map numN))), Sl.non]) (badN (valL p)) rfl _ _ ?_ ?_ (by simp at hp ⊢; omega) ?_
        · intro d hd Q' hq
          unfold iL at hd
          obtain ⟨i, _, rfl⟩ := List.mem_map.mp hd
          symm_saturate
          simp only [badN] at hq
          refine i_mTF (fun c3 => ?_) fun c3 => ?_
          · rw [c3] at hq
            symm_saturate
            exact hq
          · rw [c3] at hq
            symm_saturate
            exact hq
        · intro d hd Q' hq
          symm_saturate
          exact hq
        · rw [List.nil_append]
          symm_saturate
          refine Eq.mpr e_ne ⟨by simp [PyData.depth, PyData.depthAll], ?_⟩
          symm_saturate
          rw [eqv_nil]
          have hbad : (iL (r.map numN)).filter (badN (valL p)) = [] ↔ (r.all canon = true ∧ isEff (valL p) (r.map valL) = true) := by
            rw [List.filter_eq_nil_iff]
            have hp0 := canon_nn hcp
            constructor
            · intro hz
              have h1 : ∀ x ∈ r, canon x = true ∧ 1 ≤ valL x ∧ valL x ≤ valL p := by
                intro x hx
                have := hz (.int (numN x)) (by unfold iL; exact List.mem_map_of_mem (List.mem_map_of_mem hx))
                simp [badN] at this
                cases hc : canon x with
                | true => simp [numN, hc] at this; exact ⟨rfl, by omega, by omega⟩
                | false => simp [numN, hc] at this
              refine ⟨List.all_eq_true.mpr fun x hx => (h1 x hx).1, ?_⟩
              simp only [isEff, hp0, decide_true, Bool.true_and, List.all_eq_true]
              intro g hg
              obtain ⟨x, hx, rfl⟩ := List.mem_map.mp hg
              have := h1 x hx
              simp; omega
            · rintro ⟨h1, h2⟩ d hd
              unfold iL at hd
              obtain ⟨i, hi, rfl⟩ := List.mem_map.mp hd
              obtain ⟨x, hx, rfl⟩ := List.mem_map.mp hi
              have hc := List.all_eq_true.mp h1 x hx
              simp only [isEff, hp0, decide_true, Bool.true_and, List.all_eq_true] at h2
              have h3 := h2 (valL x) (List.mem_map_of_mem hx)
              simp at h3
              simp [badN, numN, hc]; omega
          refine i_ite (fun c3 => ?_) fun c3 => ?_
          · have c3' : ¬ (iL (r.map numN)).filter (badN (valL p)) = [] := by simpa using c3
            symm_saturate
            exact out fun z => c3' (hbad.mpr ⟨z.2.1, z.2.2.1⟩)
          · have c3' := hbad.mp (by simpa using c3)
            have en : r.map numN = r.map valL := by
              apply List.map_congr_left
              intro x hx
              simp [numN, List.all_eq_true.mp c3'.1 x hx]
            rw [en]
            have hle : ∀ g ∈ r.map valL, g ≤ valL p := by
              have := c3'.2
              simp [isEff] at this
              intro g hg
              obtain ⟨x, hx, rfl⟩ := List.mem_map.mp hg
              exact (this.2 x hx).2
            symm_saturate
            refine ⟨_, _, rfl, by simp at hp ⊢; omega, hle, ?_⟩
            symm_saturate
            have ee := eqv_eff (leastOf (valL p) (r.map valL)) (valL p, r.map valL)
            refine Eq.mpr e_eq ⟨by have := depth_eff (leastOf (valL p) (r.map valL)); omega, ?_⟩
            symm_saturate
            rw [ee]
            refine i_ite (fun c4 => ?_) fun c4 => ?_
            · have c4' : leastOf (valL p) (r.map valL) = (valL p, r.map valL) := by simpa using c4
              rw [if_pos ⟨c1', hcp, c3'.1, c3'.2, c4'⟩] at h
              symm_saturate
              exact h
            · have c4' : ¬ leastOf (valL p) (r.map valL) = (valL p, r.map valL) := by simpa using c4
              symm_saturate
              exact out fun z => c4' z.2.2.2
end
end K55

namespace K55
open PySem PySem.Spec PyProof.Rows L2 TL DL
section
local macro_rules | `(tactic| symm_saturate) => `(tactic| repeat (first
  | with_reducible refine x_seq ?_
  | with_reducible refine x_next ?_
  | with_reducible refine x_ret ?_
  | with_reducible refine x_retN ?_
  | with_reducible refine x_drop ?_
  | with_reducible refine x_ifS ?_
  | with_reducible refine x_gname ?_
  | with_reducible refine i_gnil ?_
  | with_reducible refine x_gcons ?_
  | with_reducible refine x_asg ?_
  | with_reducible refine x_set ?_
  | with_reducible refine x_setO ?_
  | with_reducible refine x_par ?_
  | with_reducible refine x_parVN ?_
  | with_reducible refine x_parNV ?_
  | with_reducible refine x_rng1 ?_
  | with_reducible refine x_rng2 ?_
  | with_reducible refine x_for ?_
  | with_reducible refine x_lc ?_
  | with_reducible refine x_yes ?_
  | with_reducible refine x_c ?_
  | with_reducible refine x_op ?_
  | with_reducible refine x_un ?_
  | with_reducible refine x_add1 ?_
  | with_reducible refine x_I0 ?_
  | with_reducible refine x_B0 ?_
  | with_reducible refine x_neg ?_
  | with_reducible refine x_isN ?_
  | with_reducible refine x_tru ?_
  | with_reducible refine x_truB ?_
  | with_reducible refine x_and ?_
  | with_reducible refine x_or ?_
  | with_reducible refine x_not ?_
  | with_reducible refine x_if ?_
  | with_reducible refine x_nil ?_
  | with_reducible refine x_cons ?_
  | with_reducible refine x_tup ?_
  | with_reducible refine x_lst ?_
  | with_reducible refine x_frz ?_
  | with_reducible refine x_newL ?_
  | with_reducible refine x_noP ?_
  | with_reducible refine x_CB ?_
  | with_reducible refine x_abs ?_
  | with_reducible refine x_max2 ?_
  | with_reducible refine x_min2 ?_
  | with_reducible refine x_int1 ?_
  | with_reducible refine x_int2 ?_
  | with_reducible refine x_len ?_
  | with_reducible refine x_lenD1 ?_
  | with_reducible refine x_lenD2 ?_
  | with_reducible refine x_fmt ?_
  | with_reducible refine x_call ?_
  | with_reducible refine x_raise ?_
  | with_reducible refine x_callX ?_
  | with_reducible refine x_rngL ?_
  | with_reducible refine i_nx ?_
  | with_reducible refine i_rt ?_
  | with_reducible refine i_ct ?_
  | with_reducible refine i_bk ?_
  | with_reducible refine x_isi ?_
  | with_reducible refine x_joined ?_
  | with_reducible refine x_jnil ?_
  | with_reducible refine x_jcons ?_
  | with_reducible refine x_fmtS ?_
  | with_reducible refine x_fmtI ?_
  | with_reducible refine i_mB ?_
  | with_reducible refine i_mI ?_
  | with_reducible refine i_mS ?_
  | with_reducible refine i_mL ?_
  | with_reducible refine i_mLT1 ?_
  | with_reducible refine i_mLT2 ?_
  | with_reducible refine i_mTL1 ?_
  | with_reducible refine i_mTL2 ?_
  | with_reducible refine i_mLL ?_
  | with_reducible refine i_mT ?_
  | with_reducible refine i_mF ?_
  | with_reducible refine i_itT ?_
  | with_reducible refine i_itF ?_
  | with_reducible refine i_test ?_
  | with_reducible refine i_itL ?_
  | with_reducible refine i_itS ?_
  | with_reducible refine i_part ?_
  | with_reducible refine i_sl ?_
  | with_reducible refine i_slD ?_
  | with_reducible refine i_slL ?_
  | with_reducible refine i_listOf ?_
  | with_reducible refine i_catN ?_
  | with_reducible refine i_chain ?_
  | with_reducible refine i_andV ?_
  | with_reducible refine i_orV ?_
  | with_reducible refine i_notV ?_
  | with_reducible refine i_split ?_
  | with_reducible refine i_m1 ?_
  | with_reducible refine i_star ?_
  | with_reducible refine i_callS ?_
  | with_reducible refine i_repl ?_
  | with_reducible refine i_putIx ?_
  | ((with_reducible apply i_gtup); exact rfl)
  | ((with_reducible apply i_len); exact rfl)
  | ((with_reducible apply i_varG); exact rfl)
  | ((with_reducible apply i_lenG); exact rfl)
  | ((with_reducible apply i_ixG); exact rfl)
  | with_reducible refine i_vSv ?_
  | with_reducible refine i_vSo ?_
  | with_reducible refine i_lSv ?_
  | with_reducible refine i_lSo ?_
  | with_reducible refine i_xSv ?_
  | with_reducible refine i_xSo ?_
  | ((with_reducible apply i_aug); exact rfl)
  | ((with_reducible apply i_app); exact rfl)
  | ((with_reducible apply i_mO); exact rfl)
  | ((with_reducible apply i_callP); exact rfl)
  | ((with_reducible apply i_popAt); exact rfl)))
def hdL : Option (Stp × Nat) → List D
  | none => []
  | some (s, k) => [.tuple [stD s, .int (k : Nat)]]
def phL : Option (List Stp) → List D
  | none => []
  | some p => [.list (phD p)]
def sp_law_phrase_of (c : Nat) : Spd0 := fun ds Q => ∃ l, ds = [.str (mkS l)] ∧ l.length ≤ 20000 ∧ l.count 40 < c ∧ Q (.list (phL (parse l)))
def sp_law_head (c : Nat) : Spd0 := fun ds Q => ∃ l, ds = [.str (mkS l)] ∧ l.length ≤ 20000 ∧ l.count 40 < c ∧ Q (.list (hdL (headF parse l)))
theorem cut_1 (t : List Nat) : cutS (mkS t) none (some 1) = mkS (t.take 1) := by rw [cutS_mk, cutL_to _ (by decide)]; rfl
theorem take_head (t : List Nat) : decide (t.take 1 = [40]) = decide (t.head? = some 40) := by
  cases t with
  | nil => rfl
  | cons a t => simp
theorem numN_nn (l : List Nat) : decide ((0 : Int) ≤ numN l) = canon l := by
  unfold numN
  cases h : canon l with
  | true => simp [canon_nn h]
  | false => simp
theorem pl_law_head (c : Nat) : Law0 nn__law_head (sp_law_head (c + 1)) (d__law_head sp_law_is_title sp_law_number_of (sp_law_phrase_of c) sp_law_close) := by
  rintro ds Q ⟨l, rfl, hs, hk, h⟩
  have hb := sizeLine_big
  obtain ⟨w, r, hp⟩ := pcs_ne l
  have hpl : ∀ q ∈ w :: r, q.length ≤ l.length := fun q hq => pcs_each (by rw [hp]; exact hq)
  have hwl := hpl w (by simp)
  have hcount := pcs_len l
  unfold d__law_head
  symm_saturate
  rw [s_sp]
  refine ⟨by rw [mkS_len]; rfl, by rw [mkS_len]; omega, ?_⟩
  rw [split_pcs, List.map_map, hp]
  symm_saturate
  -- the name
  have nm : headF parse l = nameF w → ∀ x2 x3 x4 x5, dRet (dIf (dTru (dCall sp_law_is_title (dCons (dIxN 1 (dC (.int 0))) dNil))) (dFrz (dNewL (dCons (dTup (dCons (dIxN 1 (dC (.int 0))) (dCons (dCB rdLen (dCons (dIxN 1 (dC (.int 0))) dNil)) dNil))) dNil))) (dFrz (dNewL dNil))) { nx := fun _ => Q .none, rt := fun d _ => Q d } [Sl.val (.str (mkS l)), Sl.own none ((w :: r).map (PyData.str ∘ mkS)), x2, x3, x4, x5] := by
    intro e x2 x3 x4 x5
    rw [e] at h
    unfold nameF at h
    symm_saturate
    refine ⟨_, _, rfl, atI_0, ?_⟩
    symm_saturate
    refine ⟨w, rfl, by omega, ?_⟩
    symm_saturate
    refine i_ite (fun c1 => ?_) fun c1 => ?_
    · rw [if_pos c1] at h
      symm_saturate
      refine ⟨_, _, rfl, atI_0, ?_⟩
      symm_saturate
      refine ⟨_, _, rfl, atI_0, ?_⟩
      symm_saturate
      refine ⟨by rw [mkS_len]; omega, ?_⟩
      symm_saturate
      rw [mkS_len]
      exact h
    · rw [if_neg (by simp [c1])] at h
      symm_saturate
      exact h
  refine ⟨_, _, rfl, atI_0, ?_⟩
  symm_saturate
  refine Eq.mpr e_in2 ⟨by simp [PyData.depth, PyData.depthAll], ?_⟩
  symm_saturate
  have hW : (if false = true then !inD ((PyData.str ∘ mkS) w) [.str (Str.ofString "under"), .str (Str.ofString "times")] else inD ((PyData.str ∘ mkS) w) [.str (Str.ofString "under"), .str (Str.ofString "times")]) = isW w := by
    rw [if_neg (by decide)]
    exact inW w
  rw [hW]
  refine i_ite (fun c1 => ?_) fun c1 => ?_
  · symm_saturate
    refine i_ite (fun c2 => ?_) fun c2 => ?_
    · obtain ⟨n, t, r', rfl⟩ : ∃ n t r', r = n :: t :: r' := by
        rcases r with _ | ⟨n, _ | ⟨t, r'⟩⟩
        · simp at c2
        · simp at c2
        · exact ⟨n, t, r', rfl⟩
      have hnl := hpl n (by simp)
      have htl := hpl t (by simp)
      have hH := headF_some (f := parse) hp
      symm_saturate
      refine ⟨_, _, rfl, atI_2, ?_⟩
      symm_saturate
      refine i_slS (by rw [mkS_len]; omega) ?_
      symm_saturate
      rw [cut_1, s_op]
      refine Eq.mpr e_eq ⟨by simp [PyData.depth], ?_⟩
      symm_saturate
      rw [eqv_str, take_head]
      refine i_ite (fun c3 => ?_) fun c3 => ?_
      · have ht : t.head? = some 40 := by simpa using c3
        rw [if_pos ⟨c1, ht⟩] at hH
        rw [hH] at h
        unfold longF at h
        obtain ⟨x, hx, hxl⟩ := br_text hp ht
        symm_saturate
        refine ⟨_, _, rfl, atI_0, ?_⟩
        symm_saturate
        refine ⟨by rw [mkS_len]; omega, ?_⟩
        symm_saturate
        refine ⟨_, _, rfl, atI_1, ?_⟩
        symm_saturate
        refine ⟨by rw [mkS_len]; omega, ?_⟩
        symm_saturate
        have eb : ((mkS w).length : Int) + ((mkS n).length : Int) + 2 = ((w.length + n.length + 2 : Nat) : Int) := by rw [mkS_len, mkS_len]; omega
        rw [eb]
        generalize hbb : w.length + n.length + 2 = b at h hxl ⊢
        refine ⟨l, b, rfl, by omega, by omega, ?_⟩
        symm_saturate
        have nope : (closeF l b = none ∨ canon n = false) → Q (.list []) := by
          intro z
          rcases z with z | z
          · rw [z] at h; exact h
          · cases hc : closeF l b with
            | none => rw [hc] at h; exact h
            | some e => rw [hc] at h; simp only [z, Bool.false_eq_true, if_false] at h; exact h
        cases hc : closeF l b with
        | none =>
          refine i_itF ?_
          symm_saturate
          exact nope (.inl hc)
        | some e =>
          have hge := closeF_ge hc
          refine i_ite (fun c4 => ?_) fun c4 => ?_
          · symm_saturate
            refine ⟨_, _, rfl, atI_1, ?_⟩
            symm_saturate
            refine ⟨n, rfl, by omega, ?_⟩
            symm_saturate
            rw [numN_nn]
            refine i_ite (fun c5 => ?_) fun c5 => ?_
            · rw [hc] at h
              simp only [c5, if_true] at h
              symm_saturate
              have ei : cutS (mkS l) (some ((b : Nat) + 1)) (some ((e : Nat) : Int)) = mkS (inner l b e) := by
                rw [cutS_mk, cutL_mid _ (by omega) (by omega)]
                unfold inner
                have : ((b : Int) + 1).toNat = b + 1 := by omega
                rw [this]; rfl
              refine i_slS (by rw [mkS_len]; omega) ?_
              symm_saturate
              rw [ei]
              have hcnt := inner_count (e := e) hx
              rw [hxl] at hcnt
              have hil := inner_len (e := e) (closeF_lt hc)
              refine ⟨_, rfl, by omega, by omega, ?_⟩
              symm_saturate
              cases hpi : parse (inner l b e) with
              | none =>
                rw [hpi] at h
                show lcL _ _ _ _ _ [] _ _
                rw [e_lcL0]
                symm_saturate
                exact h
              | some p =>
                rw [hpi] at h
                show lcL _ _ _ _ _ [.list (phD p)] _ _
                rw [e_lcL1]
                symm_saturate
                refine ⟨_, _, rfl, atI_0, ?_⟩
                symm_saturate
                refine ⟨_, _, rfl, atI_1, ?_⟩
                symm_saturate
                have hcn := canon_iff.mp c5
                refine Eq.mpr e_int3 ⟨_, intText_canon hcn.2.1 (by rintro rfl; simp at hcn) (by omega), by rw [mkS_len]; omega, ?_⟩
                symm_saturate
                refine ⟨by simp; omega, ?_⟩
                rw [e_lcL0]
                symm_saturate
                exact h
            · symm_saturate
              exact nope (.inr (by simpa using c5))
          · exfalso
            simp at c4
            omega
      · have ht : ¬ t.head? = some 40 := by simpa using c3
        rw [if_neg (fun z => ht z.2)] at hH
        refine x_next ?_
        refine i_nx ?_
        exact nm hH _ _ _ _
    · have hH : headF parse l = nameF w := by
        unfold headF
        rw [hp]
        rcases r with _ | ⟨n, _ | ⟨t, r'⟩⟩
        · rfl
        · rfl
        · exfalso; simp at c2; omega
      refine i_itF ?_
      refine x_next ?_
      refine i_nx ?_
      exact nm hH _ _ _ _
  · have hH : headF parse l = nameF w := by
      unfold headF
      rw [hp]
      rcases r with _ | ⟨n, _ | ⟨t, r'⟩⟩
      · rfl
      · rfl
      · simp only
        rw [if_neg (fun z => by rw [c1] at z; exact absurd z.1 (by decide))]
    refine i_itF ?_
    refine x_next ?_
    refine i_nx ?_
    exact nm hH _ _ _ _

theorem pl_law_phrase_of (c : Nat) : Law0 nn__law_phrase_of (sp_law_phrase_of c) (d__law_phrase_of (sp_law_head c)) := by
  rintro ds Q ⟨l, rfl, hs, hk, h⟩
  have hb := sizeLine_big
  unfold d__law_phrase_of
  symm_saturate
  refine ⟨by rw [mkS_len]; omega, ?_⟩
  symm_saturate
  refine ⟨_, rfl, by rw [mkS_len]; omega, ?_⟩
  refine forL_ind (fun rest m => ∃ (acc : List Stp) (r : List Nat) (x y : Sl), acc.length + r.length ≤ l.length ∧ r.length + 1 ≤ rest.length ∧ r.count 40 ≤ l.count 40 ∧ parse l = (parse r).map (acc ++ ·) ∧ m = [Sl.val (.str (mkS l)), Sl.own none (phD acc), Sl.val (.str (mkS r)), x, y]) ?_ ?_ _ _ ⟨[], l, Sl.non, Sl.non, by simp, by rw [rngD_len, mkS_len]; omega, Nat.le_refl _, by simp, rfl⟩
  · rintro m ⟨acc, r, x, y, hlen, hr, _⟩
    simp at hr
  · rintro d rest m K ⟨acc, r, x, y, hlen, hrest, hcnt, hpar, rfl⟩ hK
    symm_saturate
    refine Eq.mpr e_eq ⟨by simp [PyData.depth], ?_⟩
    symm_saturate
    rw [eqv_mt]
    refine i_ite (fun c0 => ?_) fun c0 => ?_
    · have hr : r = [] := by simpa using c0
      subst hr
      rw [parse_nil] at hpar
      symm_saturate
      rw [hpar] at h
      simpa [phL] using h
    · have hr : r ≠ [] := by simpa using c0
      have hrl : 0 < r.length := List.length_pos_iff.mpr hr
      rw [parse_eq r] at hpar
      unfold goF at hpar
      rw [if_neg hr] at hpar
      symm_saturate
      refine ⟨r, rfl, by omega, by omega, ?_⟩
      symm_saturate
      refine Eq.mpr e_eq ⟨by simp [PyData.depth, PyData.depthAll], ?_⟩
      symm_saturate
      rw [eqv_nil]
      cases hL : headF parse r with
      | none =>
        rw [hL] at hpar
        refine i_itT ?_
        symm_saturate
        rw [hpar] at h
        exact h
      | some sk =>
        obtain ⟨s, k⟩ := sk
        have hkp := headF_pos hL
        rw [hL] at hpar
        simp only at hpar
        refine i_itF ?_
        symm_saturate
        refine ⟨_, rfl, ?_⟩
        symm_saturate
        refine ⟨_, rfl, ?_⟩
        symm_saturate
        refine ⟨by rw [phD_len]; omega, ?_⟩
        symm_saturate
        refine ⟨_, rfl, ?_⟩
        symm_saturate
        refine ⟨_, rfl, ?_⟩
        symm_saturate
        refine i_slS (by rw [mkS_len]; omega) ?_
        symm_saturate
        rw [cut_from]
        have hdl : (r.drop k).length = r.length - k := by simp
        have hdc : (r.drop k).count 40 ≤ r.count 40 := (List.drop_sublist _ _).count_le 40
        refine Eq.mpr e_ne ⟨by simp [PyData.depth], ?_⟩
        symm_saturate
        rw [eqv_mt]
        have eacc : phD acc ++ [stD s] = phD (acc ++ [s]) := by rw [← phD_app]; rfl
        simp only [List.length_cons] at hrest
        generalize hq : r.drop k = q at hpar hdl hdc ⊢
        refine i_ite (fun c1 => ?_) fun c1 => ?_
        · have hqn : q ≠ [] := by simpa using c1
          obtain ⟨a, q', rfl⟩ : ∃ a q', q = a :: q' := by cases q with
            | nil => exact absurd rfl hqn
            | cons a q' => exact ⟨a, q', rfl⟩
          symm_saturate
          refine Eq.mpr e_ix3 ⟨by rw [mkS_len]; omega, a, by rw [mkS_cps, atI_0], ?_⟩
          symm_saturate
          rw [s_sp]
          refine Eq.mpr e_ne ⟨by simp [PyData.depth], ?_⟩
          symm_saturate
          rw [eq_sg]
          refine i_ite (fun c2 => ?_) fun c2 => ?_
          · have ha : a ≠ 32 := by simpa using c2
            symm_saturate
            have : restF (a :: q') = none := by simp [restF, ha]
            rw [this] at hpar
            rw [hpar] at h
            exact h
          · have ha : a = 32 := by simpa using c2
            subst ha
            symm_saturate
            refine Eq.mpr e_eq ⟨by simp [PyData.depth], ?_⟩
            symm_saturate
            rw [eqv_str]
            refine i_ite (fun c3 => ?_) fun c3 => ?_
            · have hq' : (32 :: q') = [32] := by simpa using c3
              symm_saturate
              have : restF (32 :: q') = none := by rw [hq']; rfl
              rw [this] at hpar
              rw [hpar] at h
              exact h
            · have hq' : ¬ (32 :: q') = [32] := by simpa using c3
              symm_saturate
              refine i_slS (by rw [mkS_len]; omega) ?_
              symm_saturate
              have ec : cutS (mkS (32 :: q')) (some 1) none = mkS q' := cut_from (32 :: q') 1
              rw [ec]
              have : restF (32 :: q') = some q' := by
                unfold restF
                rw [if_neg (by simp), if_neg]
                · rfl
                · rintro (z | z)
                  · simp at z
                  · exact hq' z
              rw [this] at hpar
              simp only at hpar
              simp only [List.length_cons] at hdl
              rw [List.count_cons] at hdc
              refine hK _ ⟨acc ++ [s], q', .val d, .val (.list [.tuple [stD s, .int (k : Nat)]]), by simp; omega, by omega, by omega, ?_, by rw [← eacc]; rfl⟩
              rw [hpar, Option.map_map]
              congr 1
              funext z
              simp
        · have hqn : q = [] := by simpa using c1
          subst hqn
          symm_saturate
          have : restF [] = some [] := rfl
          rw [this] at hpar
          simp only [parse_nil, Option.map_some] at hpar
          refine hK _ ⟨acc ++ [s], [], .val d, .val (.list [.tuple [stD s, .int (k : Nat)]]), by simp at hdl ⊢; omega, by simp; omega, by simp, ?_, by rw [← eacc]; rfl⟩
          rw [hpar, parse_nil]; simp
/-! ### reading or raising -/
abbrev LawX (N : List Str) (sd : SpdX) (td : (Str → D → En → Prop) → TSd) : Prop := ∀ ds Qd Ed, sd ds Qd Ed → td (fun x d _ => Ed x d) { nx := fun _ => Qd .none, rt := fun d _ => Qd d } (startN N (ds.map Sl.val))
def sp_read_effect : SpdX := fun ds Q E => ∃ l, ds = [.str (mkS l)] ∧ l.length ≤ 20000 ∧ (match effF l with | some (n, gs) => Q (.tuple [.int n, .list (iL gs)]) | none => E "Unreadable" (.str (mkS l)))
def sp_read_phrase (c : Nat) : SpdX := fun ds Q E => ∃ l, ds = [.str (mkS l)] ∧ l.length ≤ 20000 ∧ l.count 40 < c ∧ (match parse l with | some p => Q (.list (phD p)) | none => E "Unreadable" (.str (mkS l)))
theorem pl_read_effect : LawX nn_read_effect sp_read_effect (d_read_effect sp_show_effect sp_effect_in) := by
  rintro ds Q E ⟨l, rfl, hs, h⟩
  have hb := sizeLine_big
  unfold d_read_effect
  symm_saturate
  refine ⟨l, rfl, by omega, ?_⟩
  symm_saturate
  cases he : effF l with
  | none =>
    rw [he] at h
    refine i_itT ?_
    symm_saturate
    exact h
  | some x =>
    obtain ⟨n, gs⟩ := x
    rw [he] at h
    have ok := effF_ok he
    refine i_itF ?_
    symm_saturate
    refine ⟨n, gs, rfl, by omega, ok.2.2.2.2, ok.2.1, ok.2.2.1, ?_⟩
    symm_saturate
    refine Eq.mpr e_ne ⟨by simp [PyData.depth], ?_⟩
    symm_saturate
    rw [eqv_str, ok.1]
    simp only [decide_true, Bool.not_true]
    symm_saturate
    exact h
theorem pl_read_phrase (c : Nat) : LawX nn_read_phrase (sp_read_phrase c) (d_read_phrase (sp_show_phrase c) (sp_phrase_in c)) := by
  rintro ds Q E ⟨l, rfl, hs, hk, h⟩
  have hb := sizeLine_big
  unfold d_read_phrase
  symm_saturate
  refine ⟨l, rfl, by omega, hk, ?_⟩
  symm_saturate
  cases he : parse l with
  | none =>
    rw [he] at h
    refine i_itT ?_
    symm_saturate
    exact h
  | some p =>
    rw [he] at h
    have ok := parse_ok he
    refine i_itF ?_
    symm_saturate
    have hn := ok.n
    refine ⟨p, rfl, by omega, ok.ok, by rw [ok.t]; omega, ?_⟩
    symm_saturate
    refine Eq.mpr e_ne ⟨by simp [PyData.depth], ?_⟩
    symm_saturate
    rw [eqv_str, ok.t]
    simp only [decide_true, Bool.not_true]
    symm_saturate
    exact h
def sp_caught_one (c : Nat) : Spd0 := fun ds Q => ∃ (l : List Nat) (i : Int), ds = [.str (mkS l), .int i] ∧ l.length ≤ 20000 ∧ l.count 40 < c ∧ Q (.list (if i = 0 then effL (effF l) else phL (parse l)))
theorem pl_caught_one (c : Nat) : Law0 nn__law_caught_one (sp_caught_one c) (d__law_caught_one sp_show_effect sp_read_effect (sp_show_phrase c) (sp_read_phrase c)) := by
  rintro ds Q ⟨l, i, rfl, hs, hk, h⟩
  have hb := sizeLine_big
  unfold d__law_caught_one
  symm_saturate
  refine Eq.mpr e_try ?_
  symm_saturate
  refine Eq.mpr e_eq ⟨by simp [PyData.depth], ?_⟩
  symm_saturate
  have ei : PyData.eqv (.int i) (.int 0) = decide (i = 0) := by by_cases h : i = 0 <;> simp [PyData.eqv, h]
  rw [ei]
  refine i_ite (fun c1 => ?_) fun c1 => ?_
  · have hi : i = 0 := by simpa using c1
    rw [if_pos hi] at h
    symm_saturate
    refine ⟨l, rfl, hs, ?_⟩
    cases he : effF l with
    | none =>
      rw [he] at h
      refine ⟨rfl, fun a => ?_⟩
      symm_saturate
      refine Eq.mpr e_exI ⟨rfl, ?_⟩
      symm_saturate
      refine Eq.mpr e_exI ⟨rfl, ?_⟩
      symm_saturate
      refine i_itF ?_
      symm_saturate
      refine Eq.mpr e_exV ⟨rfl, ?_⟩
      symm_saturate
      refine Eq.mpr e_ne ⟨by simp [PyData.depth], ?_⟩
      symm_saturate
      rw [eqv_str]
      simp only [decide_true, Bool.not_true]
      symm_saturate
      exact h
    | some x =>
      obtain ⟨n, gs⟩ := x
      rw [he] at h
      have ok := effF_ok he
      symm_saturate
      refine ⟨n, gs, rfl, by omega, ok.2.2.2.2, ok.2.1, ok.2.2.1, ?_⟩
      symm_saturate
      refine Eq.mpr e_eq ⟨by simp [PyData.depth], ?_⟩
      symm_saturate
      rw [eqv_str, ok.1]
      refine i_ite (fun _ => ?_) fun z => absurd z (by simp)
      symm_saturate
      exact h
  · have hi : ¬ i = 0 := by simpa using c1
    rw [if_neg hi] at h
    symm_saturate
    refine ⟨l, rfl, hs, hk, ?_⟩
    cases he : parse l with
    | none =>
      rw [he] at h
      refine ⟨rfl, fun a => ?_⟩
      symm_saturate
      refine Eq.mpr e_exI ⟨rfl, ?_⟩
      symm_saturate
      refine Eq.mpr e_exI ⟨rfl, ?_⟩
      symm_saturate
      refine i_itF ?_
      symm_saturate
      refine Eq.mpr e_exV ⟨rfl, ?_⟩
      symm_saturate
      refine Eq.mpr e_ne ⟨by simp [PyData.depth], ?_⟩
      symm_saturate
      rw [eqv_str]
      simp only [decide_true, Bool.not_true]
      symm_saturate
      exact h
    | some p =>
      rw [he] at h
      have ok := parse_ok he
      have hn := ok.n
      symm_saturate
      refine ⟨p, rfl, by omega, ok.ok, by rw [ok.t]; omega, ?_⟩
      symm_saturate
      refine Eq.mpr e_eq ⟨by simp [PyData.depth], ?_⟩
      symm_saturate
      rw [eqv_str, ok.t]
      refine i_ite (fun _ => ?_) fun z => absurd z (by simp)
      symm_saturate
      exact h
end
end K55

namespace K55
open PySem PySem.Spec PyProof.Rows L2 TL DL
section
local macro_rules | `(tactic| symm_saturate) => `(tactic| repeat (first
  | with_reducible refine x_seq ?_
  | with_reducible refine x_next ?_
  | with_reducible refine x_ret ?_
  | with_reducible refine x_retN ?_
  | with_reducible refine x_drop ?_
  | with_reducible refine x_ifS ?_
  | with_reducible refine x_gname ?_
  | with_reducible refine i_gnil ?_
  | with_reducible refine x_gcons ?_
  | with_reducible refine x_asg ?_
  | with_reducible refine x_set ?_
  | with_reducible refine x_setO ?_
  | with_reducible refine x_par ?_
  | with_reducible refine x_parVN ?_
  | with_reducible refine x_parNV ?_
  | with_reducible refine x_rng1 ?_
  | with_reducible refine x_rng2 ?_
  | with_reducible refine x_for ?_
  | with_reducible refine x_lc ?_
  | with_reducible refine x_yes ?_
  | with_reducible refine x_c ?_
  | with_reducible refine x_op ?_
  | with_reducible refine x_un ?_
  | with_reducible refine x_add1 ?_
  | with_reducible refine x_I0 ?_
  | with_reducible refine x_B0 ?_
  | with_reducible refine x_neg ?_
  | with_reducible refine x_isN ?_
  | with_reducible refine x_tru ?_
  | with_reducible refine x_truB ?_
  | with_reducible refine x_and ?_
  | with_reducible refine x_or ?_
  | with_reducible refine x_not ?_
  | with_reducible refine x_if ?_
  | with_reducible refine x_nil ?_
  | with_reducible refine x_cons ?_
  | with_reducible refine x_tup ?_
  | with_reducible refine x_lst ?_
  | with_reducible refine x_frz ?_
  | with_reducible refine x_newL ?_
  | with_reducible refine x_noP ?_
  | with_reducible refine x_CB ?_
  | with_reducible refine x_abs ?_
  | with_reducible refine x_max2 ?_
  | with_reducible refine x_min2 ?_
  | with_reducible refine x_int1 ?_
  | with_reducible refine x_int2 ?_
  | with_reducible refine x_len ?_
  | with_reducible refine x_lenD1 ?_
  | with_reducible refine x_lenD2 ?_
  | with_reducible refine x_fmt ?_
  | with_reducible refine x_call ?_
  | with_reducible refine x_raise ?_
  | with_reducible refine x_callX ?_
  | with_reducible refine x_rngL ?_
  | with_reducible refine i_nx ?_
  | with_reducible refine i_rt ?_
  | with_reducible refine i_ct ?_
  | with_reducible refine i_bk ?_
  | with_reducible refine x_isi ?_
  | with_reducible refine x_joined ?_
  | with_reducible refine x_jnil ?_
  | with_reducible refine x_jcons ?_
  | with_reducible refine x_fmtS ?_
  | with_reducible refine x_fmtI ?_
  | with_reducible refine i_mB ?_
  | with_reducible refine i_mI ?_
  | with_reducible refine i_mS ?_
  | with_reducible refine i_mL ?_
  | with_reducible refine i_mLT1 ?_
  | with_reducible refine i_mLT2 ?_
  | with_reducible refine i_mTL1 ?_
  | with_reducible refine i_mTL2 ?_
  | with_reducible refine i_mLL ?_
  | with_reducible refine i_mT ?_
  | with_reducible refine i_mF ?_
  | with_reducible refine i_itT ?_
  | with_reducible refine i_itF ?_
  | with_reducible refine i_test ?_
  | with_reducible refine i_itL ?_
  | with_reducible refine i_itS ?_
  | with_reducible refine i_part ?_
  | with_reducible refine i_sl ?_
  | with_reducible refine i_slD ?_
  | with_reducible refine i_slL ?_
  | with_reducible refine i_listOf ?_
  | with_reducible refine i_catN ?_
  | with_reducible refine i_chain ?_
  | with_reducible refine i_andV ?_
  | with_reducible refine i_orV ?_
  | with_reducible refine i_notV ?_
  | with_reducible refine i_split ?_
  | with_reducible refine i_m1 ?_
  | with_reducible refine i_star ?_
  | with_reducible refine i_callS ?_
  | with_reducible refine i_repl ?_
  | with_reducible refine i_putIx ?_
  | ((with_reducible apply i_gtup); exact rfl)
  | ((with_reducible apply i_len); exact rfl)
  | ((with_reducible apply i_varG); exact rfl)
  | ((with_reducible apply i_lenG); exact rfl)
  | ((with_reducible apply i_ixG); exact rfl)
  | with_reducible refine i_vSv ?_
  | with_reducible refine i_vSo ?_
  | with_reducible refine i_lSv ?_
  | with_reducible refine i_lSo ?_
  | with_reducible refine i_xSv ?_
  | with_reducible refine i_xSo ?_
  | ((with_reducible apply i_aug); exact rfl)
  | ((with_reducible apply i_app); exact rfl)
  | ((with_reducible apply i_mO); exact rfl)
  | ((with_reducible apply i_callP); exact rfl)
  | ((with_reducible apply i_popAt); exact rfl)))
theorem at3_0 {a b c : D} : atI [a, b, c] 0 = some a := rfl
theorem at3_1 {a b c : D} : atI [a, b, c] 1 = some b := rfl
theorem at3_2 {a b c : D} : atI [a, b, c] 2 = some c := rfl
theorem pl_coin : LawP nn__law_coin sp_coin d__law_coin := by
  rintro ad pds ds Q ⟨B, m, ⟨a, b, c, rfl, hb0, hb1, hc0, hc1⟩, rfl, hm, hm2, h⟩
  have hb := sizeLine_big
  unfold d__law_coin
  symm_saturate
  refine ⟨_, _, rfl, at3_0, ?_⟩
  symm_saturate
  refine i_ite (fun c1 => ?_) fun c1 => ?_
  · symm_saturate
    refine ⟨_, _, rfl, at3_0, ?_⟩
    symm_saturate
    refine x_I (by omega) ?_
    symm_saturate
    refine ⟨_, _, rfl, at3_0, ?_⟩
    symm_saturate
    refine x_I ⟨by omega, by omega⟩ ?_
    refine ⟨trivial, ?_⟩
    symm_saturate
    refine ⟨0, 0, rfl, rfl, ?_⟩
    symm_saturate
    have := fmod_in a hm
    exact ⟨_, rfl, h _ _ this.1 this.2 ⟨_, b, c, rfl, hb0, hb1, hc0, by omega⟩⟩
  · symm_saturate
    refine ⟨_, _, rfl, at3_2, ?_⟩
    symm_saturate
    refine ⟨trivial, ?_⟩
    symm_saturate
    refine ⟨2, 2, rfl, rfl, ?_⟩
    symm_saturate
    refine ⟨_, _, rfl, at3_1, ?_⟩
    symm_saturate
    refine ⟨_, _, rfl, at3_2, ?_⟩
    symm_saturate
    refine Eq.mpr e_mul ⟨.inl (by omega), ?_⟩
    symm_saturate
    refine x_I (pow_ok (by omega) (by omega) (by omega)) ?_
    symm_saturate
    refine x_I (pow_ok (by omega) (by omega) (by omega)) ?_
    symm_saturate
    have t1 : (10 : Int) ^ (25 : Int).toNat + 13 = 10000000000000000000000013 := by decide
    have t2 : (10 : Int) ^ (24 : Int).toNat + 7 = 1000000000000000000000007 := by decide
    rw [t1]
    refine x_I (by omega) ?_
    symm_saturate
    generalize hs : Int.fmod ((b + 2038074743 * (c + 1)) ^ (3 : Int).toNat) 10000000000000000000000013 = s1
    have hs1 : 0 ≤ s1 ∧ s1 < 10000000000000000000000013 := by rw [← hs]; exact fmod_in _ (by omega)
    refine ⟨_, _, rfl, at3_2, ?_⟩
    symm_saturate
    refine Eq.mpr e_mul ⟨.inl (by omega), ?_⟩
    symm_saturate
    refine x_I (pow_ok (by omega) (by omega) (by omega)) ?_
    symm_saturate
    refine x_I (pow_ok (by omega) (by omega) (by omega)) ?_
    symm_saturate
    rw [t2]
    refine x_I (by omega) ?_
    symm_saturate
    refine x_I ⟨by omega, by omega⟩ ?_
    symm_saturate
    refine x_I (by omega) ?_
    have := fmod_in (Int.fdiv (Int.fmod ((s1 + 982451653 * (c + 1)) ^ (2 : Int).toNat) 1000000000000000000000007) 1024) hm
    exact ⟨_, rfl, h _ _ this.1 this.2 ⟨a, b, c + 1, rfl, hb0, hb1, by omega, by omega⟩⟩
end
end K55

namespace K55
open PySem PySem.Spec PyProof.Rows L2 TL DL
section
local macro_rules | `(tactic| symm_saturate) => `(tactic| repeat (first
  | with_reducible refine x_seq ?_
  | with_reducible refine x_next ?_
  | with_reducible refine x_ret ?_
  | with_reducible refine x_retN ?_
  | with_reducible refine x_drop ?_
  | with_reducible refine x_ifS ?_
  | with_reducible refine x_gname ?_
  | with_reducible refine i_gnil ?_
  | with_reducible refine x_gcons ?_
  | with_reducible refine x_asg ?_
  | with_reducible refine x_set ?_
  | with_reducible refine x_setO ?_
  | with_reducible refine x_par ?_
  | with_reducible refine x_parVN ?_
  | with_reducible refine x_parNV ?_
  | with_reducible refine x_rng1 ?_
  | with_reducible refine x_rng2 ?_
  | with_reducible refine x_for ?_
  | with_reducible refine x_lc ?_
  | with_reducible refine x_yes ?_
  | with_reducible refine x_c ?_
  | with_reducible refine x_op ?_
  | with_reducible refine x_un ?_
  | with_reducible refine x_add1 ?_
  | with_reducible refine x_I0 ?_
  | with_reducible refine x_B0 ?_
  | with_reducible refine x_neg ?_
  | with_reducible refine x_isN ?_
  | with_reducible refine x_tru ?_
  | with_reducible refine x_truB ?_
  | with_reducible refine x_and ?_
  | with_reducible refine x_or ?_
  | with_reducible refine x_not ?_
  | with_reducible refine x_if ?_
  | with_reducible refine x_nil ?_
  | with_reducible refine x_cons ?_
  | with_reducible refine x_tup ?_
  | with_reducible refine x_lst ?_
  | with_reducible refine x_frz ?_
  | with_reducible refine x_newL ?_
  | with_reducible refine x_noP ?_
  | with_reducible refine x_CB ?_
  | with_reducible refine x_abs ?_
  | with_reducible refine x_max2 ?_
  | with_reducible refine x_min2 ?_
  | with_reducible refine x_int1 ?_
  | with_reducible refine x_int2 ?_
  | with_reducible refine x_len ?_
  | with_reducible refine x_lenD1 ?_
  | with_reducible refine x_lenD2 ?_
  | with_reducible refine x_fmt ?_
  | with_reducible refine x_call ?_
  | with_reducible refine x_raise ?_
  | with_reducible refine x_callX ?_
  | with_reducible refine x_rngL ?_
  | with_reducible refine i_nx ?_
  | with_reducible refine i_rt ?_
  | with_reducible refine i_ct ?_
  | with_reducible refine i_bk ?_
  | with_reducible refine x_isi ?_
  | with_reducible refine x_joined ?_
  | with_reducible refine x_jnil ?_
  | with_reducible refine x_jcons ?_
  | with_reducible refine x_fmtS ?_
  | with_reducible refine x_fmtI ?_
  | with_reducible refine i_mB ?_
  | with_reducible refine i_mI ?_
  | with_reducible refine i_mS ?_
  | with_reducible refine i_mL ?_
  | with_reducible refine i_mLT1 ?_
  | with_reducible refine i_mLT2 ?_
  | with_reducible refine i_mTL1 ?_
  | with_reducible refine i_mTL2 ?_
  | with_reducible refine i_mLL ?_
  | with_reducible refine i_mT ?_
  | with_reducible refine i_mF ?_
  | with_reducible refine i_itT ?_
  | with_reducible refine i_itF ?_
  | with_reducible refine i_test ?_
  | with_reducible refine i_itL ?_
  | with_reducible refine i_itS ?_
  | with_reducible refine i_part ?_
  | with_reducible refine i_sl ?_
  | with_reducible refine i_slD ?_
  | with_reducible refine i_slL ?_
  | with_reducible refine i_listOf ?_
  | with_reducible refine i_catN ?_
  | with_reducible refine i_chain ?_
  | with_reducible refine i_andV ?_
  | with_reducible refine i_orV ?_
  | with_reducible refine i_notV ?_
  | with_reducible refine i_split ?_
  | with_reducible refine i_m1 ?_
  | with_reducible refine i_star ?_
  | with_reducible refine i_callS ?_
  | with_reducible refine i_repl ?_
  | with_reducible refine i_putIx ?_
  | ((with_reducible apply i_gtup); exact rfl)
  | ((with_reducible apply i_len); exact rfl)
  | ((with_reducible apply i_varG); exact rfl)
  | ((with_reducible apply i_lenG); exact rfl)
  | ((with_reducible apply i_ixG); exact rfl)
  | with_reducible refine i_vSv ?_
  | with_reducible refine i_vSo ?_
  | with_reducible refine i_lSv ?_
  | with_reducible refine i_lSo ?_
  | with_reducible refine i_xSv ?_
  | with_reducible refine i_xSo ?_
  | ((with_reducible apply i_aug); exact rfl)
  | ((with_reducible apply i_app); exact rfl)
  | ((with_reducible apply i_mO); exact rfl)
  | ((with_reducible apply i_callP); exact rfl)
  | ((with_reducible apply i_popAt); exact rfl)))
theorem comp_letters {ad : Addr} {x1 x3 x4 x5 x6 x7 x8 x9 x10 x11 x12 x13 x14 : Sl} {QQ : List D → En → Prop} (B : Nat) {p : List D} (K : Nat) (hK : K ≤ 1000) (hp : Pu (K + B) p)
    (h : ∀ (xs : List (List Nat)) p', xs.length = K → (∀ x ∈ xs, Tx 1 x) → Pu B p' → QQ (xs.map fun l => PyData.str (mkS l)) [Sl.own (some ad) p', x1, Sl.val (.str (mkS letters)), x3, x4, x5, x6, x7, x8, x9, x10, x11, x12, x13, x14, Sl.non]) :
    lcL (gdName 15) dYes (dIxN 2 (dCallP 0 sp_coin (dCons (dC (.int 26)) dNil))) [15] QQ (rngD 0 K) [] [Sl.own (some ad) p, x1, Sl.val (.str (mkS letters)), x3, x4, x5, x6, x7, x8, x9, x10, x11, x12, x13, x14, Sl.non] := by
  have hb := sizeLine_big
  refine lc_relK (R := TxD (Tx 1)) (fun k m => ∃ p', Pu (k + B) p' ∧ m = [Sl.own (some ad) p', x1, Sl.val (.str (mkS letters)), x3, x4, x5, x6, x7, x8, x9, x10, x11, x12, x13, x14, Sl.non]) _ _ _ ⟨p, by rw [rngD_len]; exact hp, rfl⟩ ?_ (by rw [rngD_len]; simp; omega) (by simp) ?_
  · rintro d hd k m ⟨p', hp', rfl⟩ Q' hq
    symm_saturate
    refine ⟨k + B, 26, hp'.mono (by omega), rfl, by omega, by omega, fun r p2 h0 h1 hP => ?_⟩
    obtain ⟨c, hc, hat⟩ := atI_str (l := letters) h0 (by simpa [letters] using h1)
    symm_saturate
    refine Eq.mpr e_ix3 ⟨by rw [mkS_len]; exact Nat.le_trans (by decide) hb, c, hat, ?_⟩
    exact hq _ _ ⟨[c], rfl, by simp, by simp; exact fun z => letters_ok hc z.symm⟩ ⟨p2, hP, rfl⟩
  · rintro ys n' hy hR ⟨p', hp', rfl⟩
    obtain ⟨xs, e1, e2, e3⟩ := texts_of hR
    rw [e1]
    refine h xs p' (by rw [e2, hy, rngD_len]; simp) e3 (hp'.mono (by omega))
theorem join_nil_ok {xs : List (List Nat)} {Q : D → Prop} {K : Nat} (hl : xs.length = K) (hK : K ≤ 1000) (h : ∀ x ∈ xs, Tx 1 x) (q : ∀ l, Tx K l → Q (.str (mkS l))) : rdJoin (mkS []) (.list (xs.map fun l => PyData.str (mkS l))) Q := by
  have h1 : (xs.map List.length).sum ≤ xs.length * 1 := sum_le List.length 1 xs fun x hx => (h x hx).1
  refine join_ok (xs := xs) rfl (by simp at h1 ⊢; omega) ?_
  have := joinL_nil_len xs 1 h
  refine q _ (Tx.mono this (by omega))
def sp_words : SpdP := fun pds ds Q => ∃ (B : Nat), Pu (B + 200) pds ∧ ds = [.int 4] ∧ ∀ (ws : List (List Nat)) pds', ws.length ≤ 20 → (∀ w ∈ ws, Tx 20 w) → Pu B pds' → Q (.list (ws.map fun l => PyData.str (mkS l))) pds'
def menuS : List String := ["dup", "drop", "swap", "over", "rot", "nip", "under", "times", "a", "b", "tuck", "pick", "two", "no"]
theorem menu_ok : ∀ d ∈ (menuS.map fun s => PyData.str (Str.ofString s)), TxD (Tx 5) d := by
  intro d hd
  obtain ⟨l, e, h⟩ := lits_ok (fun l => decide (l.length ≤ 5) && !l.contains 40) menuS (by decide +kernel) d hd
  refine ⟨l, e, ?_⟩
  simp at h
  exact h
theorem cut_to (l : List Nat) {k : Int} (h : 0 ≤ k) : cutS (mkS l) none (some k) = mkS (l.take k.toNat) := by rw [cutS_mk, cutL_to _ h]
theorem cut_fromI (l : List Nat) {k : Int} (h : 0 ≤ k) : cutS (mkS l) (some k) none = mkS (l.drop k.toNat) := by rw [cutS_mk, cutL_from _ h]
def d_words_end (_law_coin : SpdP) : TSd :=
    (dSeq (dIfS (dTest (dOp rdEq (dUn rdLenSet (dVar 7)) (dVar 1)))
    ((dRet (dVar 7)))
    (dNext))
    (dSeq (dAsg (dTup (dCons (dCallP 0 _law_coin (dCons (dC (.int 26)) dNil)) (dCons (dSl (dVar 5) dNoP (dPart (dCallP 0 _law_coin (dCons (dC (.int 8)) dNil)))) dNil))) (gdTup 2 (gdCons (gdName 6) (gdCons (gdName 12) gdNil))))
    (dSeq (dParVN 13 7 (dCallP 0 _law_coin (dCons (dOp rdAdd (dLenN 12) (dC (.int 1))) dNil)) (dNewL dNil))
    (dSeq (dFor (dRng1 (dVar 1)) (gdName 8)
    ((dSeq (dSet 14 (dIxN 2 (dOp (rdI (fun _ j => j ≠ 0) fun i j => i.fmod j) (dCB rdInt (dCons (dOp rdAdd (dVar 6) (dVar 8)) dNil)) (dC (.int 26)))))
    (dApp 7 (dOp rdAdd (dOp rdAdd (dSl (dVar 12) dNoP (dPart (dVar 13))) (dVar 14)) (dSl (dVar 12) (dPart (dVar 13)) dNoP))))))
    (dRet (dVar 7))))))
theorem pl_words : LawP nn__law_words sp_words (d__law_words sp_coin) := by
  rintro ad pds ds Q ⟨B, hP, rfl, h⟩
  have hb := sizeLine_big
  -- what is returned: a list of texts
  have ret : ∀ (xs : List D) (p' : List D), xs.length ≤ 20 → (∀ x ∈ xs, TxD (Tx 20) x) → Pu B p' → Q (.list xs) p' := by
    intro xs p' h1 h2 h3
    obtain ⟨ws, e1, e2, e3⟩ := texts_of h2
    rw [e1]
    exact h ws p' (by omega) e3 h3
  unfold d__law_words
  symm_saturate
  refine ⟨B + 199, 5, hP, rfl, by omega, by omega, fun sort p1 hs0 hs1 hP1 => ?_⟩
  symm_saturate
  refine Eq.mpr e_add3 ⟨by simp; omega, ?_⟩
  symm_saturate
  refine ⟨8, rfl, by omega, ?_⟩
  rw [s_letters]
  refine comp_letters (B + 191) 8 (by omega) (hP1.mono (by omega)) ?_
  intro xs p2 hxs hxT hP2
  symm_saturate
  rw [s_empty]
  refine join_nil_ok hxs (by omega) hxT fun stem hst => ?_

  -- the end
  have fin : ∀ (xs : List D) (p3 : List D) (x6 x8 x9 x10 x11 : Sl), xs.length ≤ 20 → (∀ x ∈ xs, TxD (Tx 20) x) → Pu (B + 10) p3 →
      d_words_end sp_coin { nx := fun n => ∃ p', n[0]? = some (Sl.own (some ad) p') ∧ Q .none p', rt := fun d n => ∃ p', n[0]? = some (Sl.own (some ad) p') ∧ Q d p' }
        [Sl.own (some ad) p3, Sl.val (.int 4), Sl.val (.str (mkS letters)), Sl.val (.int sort), Sl.val (.list (menuS.map fun s => PyData.str (Str.ofString s))), Sl.val (.str (mkS stem)), x6, Sl.own none xs, x8, x9, x10, x11, Sl.non, Sl.non, Sl.non, Sl.non] := by
    intro xs p3 x6 x8 x9 x10 x11 hx1 hx2 hP3
    obtain ⟨ws, e1, e2, e3⟩ := texts_of hx2
    unfold d_words_end
    symm_saturate
    refine Eq.mpr e_lenSet ⟨ws.map mkS, by rw [e1]; exact strsD_mk ws, by simp; omega, ?_⟩
    symm_saturate
    refine Eq.mpr e_eq ⟨by simp [PyData.depth], ?_⟩
    symm_saturate
    refine i_ite (fun _ => ?_) fun _ => ?_
    · symm_saturate
      exact ⟨_, rfl, ret xs p3 hx1 hx2 (hP3.mono (by omega))⟩
    · symm_saturate
      refine ⟨B + 9, 26, hP3, rfl, by omega, by omega, fun st p4 hst0 hst1 hP4 => ?_⟩
      symm_saturate
      refine ⟨B + 8, 8, hP4, rfl, by omega, by omega, fun k p5 hk0 hk1 hP5 => ?_⟩
      symm_saturate
      refine i_slS (by rw [mkS_len]; have := hst.1; omega) ?_
      rw [cut_to _ hk0]
      have htl := Tx.take hst k.toNat
      generalize hq : stem.take k.toNat = tail at htl ⊢
      symm_saturate
      refine ⟨by rw [mkS_len]; have := htl.1; omega, ?_⟩
      symm_saturate
      have htl1 := htl.1
      refine ⟨B + 7, _, hP5, rfl, by rw [mkS_len]; omega, by rw [mkS_len]; omega, fun sp p6 hsp0 hsp1 hP6 => ?_⟩
      rw [mkS_len] at hsp1
      symm_saturate
      refine ⟨4, rfl, by omega, ?_⟩
      refine forL_ind (fun rest m => ∃ (ys : List D) (x8 x14 : Sl), ys.length + rest.length ≤ 4 ∧ (∀ r ∈ rest, ∃ k : Int, r = .int k) ∧ (∀ y ∈ ys, TxD (Tx 20) y) ∧ m = [Sl.own (some ad) p6, Sl.val (.int 4), Sl.val (.str (mkS letters)), Sl.val (.int sort), Sl.val (.list (menuS.map fun s => PyData.str (Str.ofString s))), Sl.val (.str (mkS stem)), Sl.val (.int st), Sl.own none ys, x8, x9, x10, x11, Sl.val (.str (mkS tail)), Sl.val (.int sp), x14, Sl.non]) ?_ ?_ _ _ ⟨[], x8, Sl.non, by simp [rngD_len], fun r hr => by obtain ⟨k, e, _⟩ := rngD_mem hr; exact ⟨k, e⟩, by simp, rfl⟩
      · rintro m ⟨ys, x8, x14, hy1, _, hy2, rfl⟩
        symm_saturate
        exact ⟨_, rfl, ret ys p6 (by simp at hy1; omega) hy2 (hP6.mono (by omega))⟩
      · rintro d rest m K ⟨ys, x8, x14, hy1, hyr, hy2, rfl⟩ hK
        obtain ⟨k, rfl⟩ := hyr d (by simp)
        symm_saturate
        refine x_I (by omega) ?_
        have hf := fmod_in (st + k) (m := 26) (by omega)
        obtain ⟨c, hc, hat⟩ := atI_str (l := letters) hf.1 (by simpa [letters] using hf.2)
        refine Eq.mpr e_ix3 ⟨by rw [mkS_len]; exact Nat.le_trans (by decide) hb, c, hat, ?_⟩
        symm_saturate
        refine i_slS (by rw [mkS_len]; omega) ?_
        rw [cut_to _ hsp0]
        symm_saturate
        have t1 := Tx.take htl sp.toNat
        have t2 := Tx.drop htl sp.toNat
        have t3 : Tx 1 [c] := ⟨by simp, by simp; exact fun z => letters_ok hc z.symm⟩
        have ec : (⟨#[c]⟩ : Str) = mkS [c] := rfl
        rw [ec]
        refine Eq.mpr e_add2 ⟨by rw [mkS_len, mkS_len]; have := t1.1; simp at this ⊢; omega, ?_⟩
        rw [mkS_app]
        symm_saturate
        refine i_slS (by rw [mkS_len]; omega) ?_
        rw [cut_fromI _ hsp0]
        symm_saturate
        have t4 := Tx.app t1 t3
        refine Eq.mpr e_add2 ⟨by rw [mkS_len, mkS_len]; have := t4.1; have := t2.1; omega, ?_⟩
        rw [mkS_app]
        symm_saturate
        simp only [List.length_cons] at hy1
        refine ⟨by omega, ?_⟩
        symm_saturate
        refine hK _ ⟨ys ++ [_], _, _, by simp; omega, fun r hr => hyr r (by simp [hr]), ?_, rfl⟩
        intro y hy
        simp at hy
        rcases hy with hy | rfl
        · exact hy2 y hy
        · have t5 := Tx.app t4 t2
          have t6 : Tx 20 _ := Tx.mono t5 (by omega)
          exact ⟨_, rfl, by simpa using t6⟩
  have hst1 := hst.1
  symm_saturate
  refine Eq.mpr e_eq ⟨by simp [PyData.depth], ?_⟩
  symm_saturate
  have noB : ∀ (x6 : Sl), ¬ sort = 0 → ∀ E : Eds, True := fun _ _ _ => trivial
  refine i_ite (fun c1 => ?_) fun c1 => ?_
  · symm_saturate
    refine i_ite (fun _ => ?_) fun z => absurd z (by decide)
    symm_saturate
    refine ⟨B + 190, 14, hP2, rfl, by omega, by omega, fun st p3 h30 h31 hP3 => ?_⟩
    symm_saturate
    refine ⟨4, rfl, by omega, ?_⟩
    refine lc_relN (R := TxD (Tx 20)) (I := fun m => m = [Sl.own (some ad) p3, Sl.val (.int 4), Sl.val (.str (mkS letters)), Sl.val (.int sort), Sl.val (.list (menuS.map fun s => PyData.str (Str.ofString s))), Sl.val (.str (mkS stem)), Sl.val (.int st), Sl.non, Sl.non, Sl.non, Sl.non, Sl.non, Sl.non, Sl.non, Sl.non, Sl.non]) _ _ _ rfl ?_ (by simp [rngD_len]; omega) (by simp) ?_
    · rintro d hd m rfl Q' hq
      obtain ⟨k, rfl, hk0, hk1⟩ := rngD_mem hd
      symm_saturate
      refine Eq.mpr e_mul ⟨.inl (by omega), ?_⟩
      symm_saturate
      refine x_I (by omega) ?_
      have hf := fmod_in (st + 3 * k) (m := 14) (by omega)
      obtain ⟨x, hx, hat⟩ := atI_mem (xs := menuS.map fun s => PyData.str (Str.ofString s)) hf.1 (by simpa [menuS] using hf.2)
      refine Eq.mpr e_ix1 ⟨x, hat, ?_⟩
      obtain ⟨l, e, hl⟩ := menu_ok x hx
      exact hq _ _ ⟨l, e, Tx.mono hl (by omega)⟩ rfl
    · rintro ys n' hy hR rfl
      symm_saturate
      exact ⟨_, rfl, ret ys p3 (by simp [rngD_len] at hy; omega) hR (hP3.mono (by omega))⟩
  · symm_saturate
    refine Eq.mpr e_eq ⟨by simp [PyData.depth], ?_⟩
    symm_saturate
    refine i_ite (fun c2 => ?_) fun c2 => ?_
    · symm_saturate
      refine i_ite (fun _ => ?_) fun z => absurd z (by decide)
      symm_saturate
      refine ⟨B + 190, _, hP2, rfl, by omega, by omega, fun st p3 h30 h31 hP3 => ?_⟩
      symm_saturate
      refine ⟨4, rfl, by omega, ?_⟩
      refine lc_relN (R := TxD (Tx 20)) (I := fun m => m = [Sl.own (some ad) p3, Sl.val (.int 4), Sl.val (.str (mkS letters)), Sl.val (.int sort), Sl.val (.list (menuS.map fun s => PyData.str (Str.ofString s))), Sl.val (.str (mkS stem)), Sl.val (.int st), Sl.non, Sl.non, Sl.non, Sl.non, Sl.non, Sl.non, Sl.non, Sl.non, Sl.non]) _ _ _ rfl ?_ (by simp [rngD_len]; omega) (by simp) ?_
      · rintro d hd m rfl Q' hq
        obtain ⟨k, rfl, hk0, hk1⟩ := rngD_mem hd
        symm_saturate
        refine i_slS (by rw [mkS_len]; omega) ?_
        rw [cut_to _ (by omega)]
        exact hq _ _ ⟨_, rfl, Tx.mono (Tx.take hst _) (by omega)⟩ rfl
      · rintro ys n' hy hR rfl
        symm_saturate
        exact ⟨_, rfl, ret ys p3 (by simp [rngD_len] at hy; omega) hR (hP3.mono (by omega))⟩
    · symm_saturate
      refine Eq.mpr e_eq ⟨by simp [PyData.depth], ?_⟩
      symm_saturate
      refine i_ite (fun c3 => ?_) fun c3 => ?_
      · symm_saturate
        refine ⟨4, rfl, by omega, ?_⟩
        refine forL_ind (fun rest m => ∃ (p3 : List D) (ys : List D) (x8 x9 : Sl), Pu (B + 10 + 9 * rest.length) p3 ∧ ys.length + rest.length ≤ 4 ∧ (∀ y ∈ ys, TxD (Tx 20) y) ∧ m = [Sl.own (some ad) p3, Sl.val (.int 4), Sl.val (.str (mkS letters)), Sl.val (.int sort), Sl.val (.list (menuS.map fun s => PyData.str (Str.ofString s))), Sl.val (.str (mkS stem)), Sl.non, Sl.own none ys, x8, x9, Sl.non, Sl.non, Sl.non, Sl.non, Sl.non, Sl.non]) ?_ ?_ _ _ ⟨p2, [], Sl.non, Sl.non, hP2.mono (by first | (simp [rngD_len]; done) | (simp [rngD_len]; omega)), by simp [rngD_len], by simp, rfl⟩
        · rintro m ⟨p3, ys, x8, x9, hP3, hy1, hy2, rfl⟩
          have c3' : sort = 3 := by simpa [PyData.eqv] using c3
          symm_saturate
          refine Eq.mpr e_eq ⟨by simp [PyData.depth], ?_⟩
          symm_saturate
          refine i_ite (fun c4 => ?_) fun c4 => ?_
          · simp [PyData.eqv, c3'] at c4
          · refine x_next ?_
            refine i_nx ?_
            exact fin ys p3 _ _ _ _ _ (by simp at hy1; omega) hy2 (hP3.mono (by omega))
        · rintro d rest m K ⟨p3, ys, x8, x9, hP3, hy1, hy2, rfl⟩ hK
          simp only [List.length_cons] at hP3 hy1
          symm_saturate
          refine ⟨B + 10 + 9 * rest.length + 8, 8, hP3.mono (by omega), rfl, by omega, by omega, fun r p4 hr0 hr1 hP4 => ?_⟩
          symm_saturate
          refine ⟨_, rfl, by omega, ?_⟩
          refine comp_letters (B + 10 + 9 * rest.length) (1 + r).toNat (by omega) (hP4.mono (by omega)) ?_
          intro xs p5 hxs hxT hP5
          symm_saturate
          refine join_nil_ok hxs (by omega) hxT fun w hw => ?_
          symm_saturate
          refine ⟨by omega, ?_⟩
          symm_saturate
          refine hK _ ⟨p5, ys ++ [.str (mkS w)], _, _, hP5, by simp; omega, ?_, rfl⟩
          intro y hy
          simp at hy
          rcases hy with hy | rfl
          · exact hy2 y hy
          · exact ⟨w, rfl, Tx.mono hw (by omega)⟩
      · symm_saturate
        refine Eq.mpr e_eq ⟨by simp [PyData.depth], ?_⟩
        symm_saturate
        refine i_ite (fun c4 => ?_) fun c4 => ?_
        · symm_saturate
          refine ⟨B + 190, 5, hP2, rfl, by omega, by omega, fun r p3 hr0 hr1 hP3 => ?_⟩
          symm_saturate
          refine i_slS (by rw [mkS_len]; omega) ?_
          rw [cut_to _ (by omega)]
          have hbs := Tx.mono (Tx.take hst (1 + r).toNat) (k' := 8) (by omega)
          generalize stem.take (1 + r).toNat = base at hbs ⊢
          symm_saturate
          refine forL_ind (fun rest m => ∃ (p4 : List D) (ys : List D) (x11 : Sl), Pu (B + 10 + rest.length) p4 ∧ ys.length + rest.length ≤ 15 ∧ (∀ y ∈ rest, TxD (Tx 5) y) ∧ (∀ y ∈ ys, TxD (Tx 20) y) ∧ m = [Sl.own (some ad) p4, Sl.val (.int 4), Sl.val (.str (mkS letters)), Sl.val (.int sort), Sl.val (.list (menuS.map fun s => PyData.str (Str.ofString s))), Sl.val (.str (mkS stem)), Sl.non, Sl.own none ys, Sl.non, Sl.non, Sl.val (.str (mkS base)), x11, Sl.non, Sl.non, Sl.non, Sl.non]) ?_ ?_ _ _ ⟨p3, [.str (mkS base)], Sl.non, hP3.mono (by show B + 10 + 14 ≤ _; omega), by show 1 + 14 ≤ 15; omega, menu_ok, by intro y hy; simp at hy; subst hy; exact ⟨_, rfl, Tx.mono hbs (by omega)⟩, rfl⟩
          · rintro m ⟨p4, ys, x11, hP4, hy1, _, hy2, rfl⟩
            symm_saturate
            refine fin _ p4 _ _ _ _ _ ?_ ?_ (hP4.mono (by omega))
            · rw [cutD_L, cutL_to _ (by decide)]; simp; omega
            · rw [cutD_L, cutL_to _ (by decide)]
              intro y hy
              exact hy2 y (List.mem_of_mem_take hy)
          · rintro d rest m K ⟨p4, ys, x11, hP4, hy1, hy3, hy2, rfl⟩ hK
            obtain ⟨w, rfl, hw⟩ := hy3 d (by simp)
            simp only [List.length_cons] at hP4 hy1
            have hw1 := hw.1
            have hb1 := hbs.1
            symm_saturate
            refine i_slS (by rw [mkS_len]; omega) ?_
            rw [cut_to _ (by decide)]
            have ht := Tx.mono (Tx.take hw (3 : Int).toNat) (k' := 5) (by omega)
            generalize w.take (3 : Int).toNat = t at ht ⊢
            have ht1 := ht.1
            symm_saturate
            refine Eq.mpr e_add2 ⟨by rw [mkS_len, mkS_len]; omega, ?_⟩
            rw [mkS_app]
            symm_saturate
            refine i_slS (by rw [mkS_len]; omega) ?_
            rw [cut_to _ (by decide)]
            have ht := Tx.mono (Tx.take hw (3 : Int).toNat) (k' := 5) (by omega)
            generalize w.take (3 : Int).toNat = t2 at ht ⊢
            have ht2 := ht.1
            symm_saturate
            refine Eq.mpr e_add2 ⟨by rw [mkS_len, mkS_len]; omega, ?_⟩
            rw [mkS_app]
            symm_saturate
            refine ⟨B + 10 + rest.length, 2, hP4.mono (by omega), rfl, by omega, by omega, fun r p5 hr0 hr1 hP5 => ?_⟩
            obtain ⟨x, hx, hat⟩ := atI_mem (xs := [PyData.str (mkS (t ++ base)), PyData.str (mkS (base ++ t2))]) hr0 hr1
            symm_saturate
            refine Eq.mpr e_ix1 ⟨x, hat, ?_⟩
            symm_saturate
            refine ⟨by omega, ?_⟩
            symm_saturate
            refine hK _ ⟨p5, ys ++ [x], _, hP5, by simp; omega, fun y hy => hy3 y (by simp [hy]), ?_, rfl⟩
            intro y hy
            simp at hy
            rcases hy with hy | rfl
            · exact hy2 y hy
            · simp at hx
              rcases hx with rfl | rfl
              · exact ⟨_, rfl, Tx.mono (Tx.app ‹Tx 5 t› hbs) (by omega)⟩
              · exact ⟨_, rfl, Tx.mono (Tx.app hbs ht) (by omega)⟩
        · refine x_next ?_
          refine i_nx ?_
          exact fin [] p2 _ _ _ _ _ (by simp) (by simp) (hP2.mono (by omega))
end
end K55

namespace K55
open PySem PySem.Spec PyProof.Rows L2 TL DL
section
local macro_rules | `(tactic| symm_saturate) => `(tactic| repeat (first
  | with_reducible refine x_seq ?_
  | with_reducible refine x_next ?_
  | with_reducible refine x_ret ?_
  | with_reducible refine x_retN ?_
  | with_reducible refine x_drop ?_
  | with_reducible refine x_ifS ?_
  | with_reducible refine x_gname ?_
  | with_reducible refine i_gnil ?_
  | with_reducible refine x_gcons ?_
  | with_reducible refine x_asg ?_
  | with_reducible refine x_set ?_
  | with_reducible refine x_setO ?_
  | with_reducible refine x_par ?_
  | with_reducible refine x_parVN ?_
  | with_reducible refine x_parNV ?_
  | with_reducible refine x_rng1 ?_
  | with_reducible refine x_rng2 ?_
  | with_reducible refine x_for ?_
  | with_reducible refine x_lc ?_
  | with_reducible refine x_yes ?_
  | with_reducible refine x_c ?_
  | with_reducible refine x_op ?_
  | with_reducible refine x_un ?_
  | with_reducible refine x_add1 ?_
  | with_reducible refine x_I0 ?_
  | with_reducible refine x_B0 ?_
  | with_reducible refine x_neg ?_
  | with_reducible refine x_isN ?_
  | with_reducible refine x_tru ?_
  | with_reducible refine x_truB ?_
  | with_reducible refine x_and ?_
  | with_reducible refine x_or ?_
  | with_reducible refine x_not ?_
  | with_reducible refine x_if ?_
  | with_reducible refine x_nil ?_
  | with_reducible refine x_cons ?_
  | with_reducible refine x_tup ?_
  | with_reducible refine x_lst ?_
  | with_reducible refine x_frz ?_
  | with_reducible refine x_newL ?_
  | with_reducible refine x_noP ?_
  | with_reducible refine x_CB ?_
  | with_reducible refine x_abs ?_
  | with_reducible refine x_max2 ?_
  | with_reducible refine x_min2 ?_
  | with_reducible refine x_int1 ?_
  | with_reducible refine x_int2 ?_
  | with_reducible refine x_len ?_
  | with_reducible refine x_lenD1 ?_
  | with_reducible refine x_lenD2 ?_
  | with_reducible refine x_fmt ?_
  | with_reducible refine x_call ?_
  | with_reducible refine x_raise ?_
  | with_reducible refine x_callX ?_
  | with_reducible refine x_rngL ?_
  | with_reducible refine i_nx ?_
  | with_reducible refine i_rt ?_
  | with_reducible refine i_ct ?_
  | with_reducible refine i_bk ?_
  | with_reducible refine x_isi ?_
  | with_reducible refine x_joined ?_
  | with_reducible refine x_jnil ?_
  | with_reducible refine x_jcons ?_
  | with_reducible refine x_fmtS ?_
  | with_reducible refine x_fmtI ?_
  | with_reducible refine i_mB ?_
  | with_reducible refine i_mI ?_
  | with_reducible refine i_mS ?_
  | with_reducible refine i_mL ?_
  | with_reducible refine i_mLT1 ?_
  | with_reducible refine i_mLT2 ?_
  | with_reducible refine i_mTL1 ?_
  | with_reducible refine i_mTL2 ?_
  | with_reducible refine i_mLL ?_
  | with_reducible refine i_mT ?_
  | with_reducible refine i_mF ?_
  | with_reducible refine i_itT ?_
  | with_reducible refine i_itF ?_
  | with_reducible refine i_test ?_
  | with_reducible refine i_itL ?_
  | with_reducible refine i_itS ?_
  | with_reducible refine i_part ?_
  | with_reducible refine i_sl ?_
  | with_reducible refine i_slD ?_
  | with_reducible refine i_slL ?_
  | with_reducible refine i_listOf ?_
  | with_reducible refine i_catN ?_
  | with_reducible refine i_chain ?_
  | with_reducible refine i_andV ?_
  | with_reducible refine i_orV ?_
  | with_reducible refine i_notV ?_
  | with_reducible refine i_split ?_
  | with_reducible refine i_m1 ?_
  | with_reducible refine i_star ?_
  | with_reducible refine i_callS ?_
  | with_reducible refine i_repl ?_
  | with_reducible refine i_putIx ?_
  | ((with_reducible apply i_gtup); exact rfl)
  | ((with_reducible apply i_len); exact rfl)
  | ((with_reducible apply i_varG); exact rfl)
  | ((with_reducible apply i_lenG); exact rfl)
  | ((with_reducible apply i_ixG); exact rfl)
  | with_reducible refine i_vSv ?_
  | with_reducible refine i_vSo ?_
  | with_reducible refine i_lSv ?_
  | with_reducible refine i_lSo ?_
  | with_reducible refine i_xSv ?_
  | with_reducible refine i_xSo ?_
  | ((with_reducible apply i_aug); exact rfl)
  | ((with_reducible apply i_app); exact rfl)
  | ((with_reducible apply i_mO); exact rfl)
  | ((with_reducible apply i_callP); exact rfl)
  | ((with_reducible apply i_popAt); exact rfl)))
/-! ### drawn effects -/
theorem seqIx {i : Int} {n : Nat} (h0 : 0 ≤ i) (h1 : i < n) : seqIndex? i n = some i.toNat := by
  unfold seqIndex?
  have : ¬ i < 0 := by omega
  simp [this, h0, h1]
def sp_drawn_effect : SpdP := fun pds ds Q => ∃ (B : Nat), Pu (B + 50) pds ∧ ds = [.int 4, .int 5] ∧ ∀ (n : Int) (gs : List Int) pds', isEff n gs = true → n ≤ 10 → gs.length ≤ 10 → Pu B pds' → Q (.tuple [.int n, .list (iL gs)]) pds'
theorem ints_of : ∀ {ys : List D} {P : Int → Prop}, (∀ y ∈ ys, ∃ i : Int, y = .int i ∧ P i) → ∃ xs : List Int, ys = iL xs ∧ xs.length = ys.length ∧ ∀ i ∈ xs, P i
  | [], _, _ => ⟨[], rfl, rfl, fun _ h => by cases h⟩
  | y :: ys, P, h => by
    obtain ⟨i, rfl, hi⟩ := h y (by simp)
    obtain ⟨xs, h1, h2, h3⟩ := ints_of (ys := ys) (P := P) fun z hz => h z (by simp [hz])
    refine ⟨i :: xs, by rw [h1]; rfl, by simp [h2], ?_⟩
    intro z hz
    rcases List.mem_cons.mp hz with rfl | hz
    · exact hi
    · exact h3 z hz
theorem pl_drawn_effect : LawP nn__law_drawn_effect sp_drawn_effect (d__law_drawn_effect sp_law_least sp_coin) := by
  rintro ad pds ds Q ⟨B, hP, rfl, h⟩
  have hb := sizeLine_big
  unfold d__law_drawn_effect
  symm_saturate
  refine ⟨B + 49, _, hP, rfl, by omega, by omega, fun m p1 hm0 hm1 hP1 => ?_⟩
  -- the end: the effect of what was drawn
  have fin : ∀ (ys : List D) (p : List D) (x4 x6 x7 : Sl), ys.length ≤ 10 → (∀ y ∈ ys, ∃ i : Int, y = .int i ∧ 1 ≤ i ∧ i ≤ m) → Pu B p →
      dRet (dCall sp_law_least (dCons (dVar 3) (dCons (dVar 5) dNil))) { nx := fun n => ∃ p', n[0]? = some (Sl.own (some ad) p') ∧ Q .none p', rt := fun d n => ∃ p', n[0]? = some (Sl.own (some ad) p') ∧ Q d p' } [Sl.own (some ad) p, Sl.val (.int 4), Sl.val (.int 5), Sl.val (.int m), x4, Sl.own none ys, x6, x7] := by
    intro ys p x4 x6 x7 hy1 hy2 hp
    obtain ⟨xs, rfl, h2, h3⟩ := ints_of hy2
    simp only [iL_len] at hy1
    symm_saturate
    have he : isEff m xs = true := by
      simp [isEff, hm0]
      exact h3
    have hl := leastOf_eff he
    refine ⟨m, xs, rfl, by omega, fun g hg => (h3 g hg).2, ?_⟩
    exact ⟨p, rfl, h _ _ p hl.1 (by omega) (by omega) hp⟩
  -- behind the size
  have mid : ∀ (k : Int) (p : List D), 0 ≤ k → k ≤ 5 → (0 < k → 0 < m) → Pu (B + 40) p →
      (dSeq (dSetO 5 (dLc (dRng1 (dVar 4)) (gdName 7) dYes (dOp rdAdd (dC (.int 1)) (dCallP 0 sp_coin (dCons (dVar 3) dNil))) [7]))
    (dSeq (dIfS (dTest (dOp rdEq (dCallP 0 sp_coin (dCons (dC (.int 4)) dNil)) (dC (.int 0))))
    ((dSeq (dSetO 6 (dRngL (dC (.int 1)) (dOp rdAdd (dVar 3) (dC (.int 1)))))
    (dSeq (dSetO 5 (dNewL dNil))
    (dFor (dRng1 (dVar 3)) (gdName 7)
    ((dApp 5 (dPopAt 6 (dCallP 0 sp_coin (dCons (dLenN 6) dNil)))))))))
    (dNext))
    (dRet (dCall sp_law_least (dCons (dVar 3) (dCons (dVar 5) dNil)))))) { nx := fun n => ∃ p', n[0]? = some (Sl.own (some ad) p') ∧ Q .none p', rt := fun d n => ∃ p', n[0]? = some (Sl.own (some ad) p') ∧ Q d p' } [Sl.own (some ad) p, Sl.val (.int 4), Sl.val (.int 5), Sl.val (.int m), Sl.val (.int k), Sl.non, Sl.non, Sl.non] := by
    intro k p hk0 hk1 hkm hp
    symm_saturate
    refine ⟨k, rfl, by omega, ?_⟩
    refine lc_relK (R := fun y => ∃ i : Int, y = .int i ∧ 1 ≤ i ∧ i ≤ m) (fun j n => ∃ p', Pu (B + 30 + j) p' ∧ n = [Sl.own (some ad) p', Sl.val (.int 4), Sl.val (.int 5), Sl.val (.int m), Sl.val (.int k), Sl.non, Sl.non, Sl.non]) _ _ _ ⟨p, hp.mono (by rw [rngD_len]; omega), rfl⟩ ?_ (by rw [rngD_len]; simp; omega) (by simp) ?_
    · rintro d hd j n ⟨p', hp', rfl⟩ Q' hq
      obtain ⟨t, rfl, ht0, ht1⟩ := rngD_mem hd
      have hm2 : 0 < m := hkm (by omega)
      symm_saturate
      refine ⟨B + 30 + j, m, hp', rfl, hm2, by omega, fun r p2 h0 h1 hP2 => ?_⟩
      symm_saturate
      exact hq _ _ ⟨_, rfl, by omega, by omega⟩ ⟨p2, hP2, rfl⟩
    · rintro ys n' hy hR ⟨p2, hP2, rfl⟩
      have hys : ys.length ≤ 5 := by rw [hy, rngD_len]; simp; omega
      symm_saturate
      refine ⟨B + 29, 4, hP2.mono (by omega), rfl, by omega, by omega, fun r p3 h0 h1 hP3 => ?_⟩
      symm_saturate
      refine Eq.mpr e_eq ⟨by simp [PyData.depth], ?_⟩
      symm_saturate
      refine i_ite (fun c1 => ?_) fun c1 => ?_
      · symm_saturate
        refine ⟨_, _, rfl, rfl, by unfold RgOk; omega, ?_⟩
        symm_saturate
        refine ⟨m, rfl, by omega, ?_⟩
        refine forL_ind (fun rest n => ∃ (p4 : List D) (pool zs : List D) (x7 : Sl), Pu (B + rest.length) p4 ∧ zs.length + rest.length ≤ 5 ∧ pool.length = rest.length ∧ (∀ y ∈ pool, ∃ i : Int, y = .int i ∧ 1 ≤ i ∧ i ≤ m) ∧ (∀ y ∈ zs, ∃ i : Int, y = .int i ∧ 1 ≤ i ∧ i ≤ m) ∧ n = [Sl.own (some ad) p4, Sl.val (.int 4), Sl.val (.int 5), Sl.val (.int m), Sl.val (.int k), Sl.own none zs, Sl.own none pool, x7]) ?_ ?_ _ _ ⟨p3, rngD 1 m.toNat, [], Sl.non, hP3.mono (by rw [rngD_len]; omega), by rw [rngD_len]; simp; omega, by rw [rngD_len, rngD_len], ?_, by simp, ?_⟩
        · rintro n ⟨p4, pool, zs, x7, hP4, hz1, _, _, hz2, rfl⟩
          symm_saturate
          exact fin zs p4 _ _ _ (by simp at hz1; omega) hz2 (hP4.mono (by omega))
        · rintro d rest n K ⟨p4, pool, zs, x7, hP4, hz1, hpl, hpo, hz2, rfl⟩ hK
          simp only [List.length_cons] at hP4 hz1 hpl
          symm_saturate
          refine ⟨B + rest.length, _, hP4.mono (by omega), rfl, by omega, by omega, fun r p5 h0 h1 hP5 => ?_⟩
          symm_saturate
          have hrl : r.toNat < pool.length := by omega
          refine ⟨r, r.toNat, pool[r.toNat], rfl, by omega, ?_, List.getElem?_eq_getElem hrl, ?_⟩
          · exact seqIx h0 h1
          · symm_saturate
            refine ⟨by omega, ?_⟩
            symm_saturate
            have hpm := hpo pool[r.toNat] (List.getElem_mem hrl)
            refine hK _ ⟨p5, pool.eraseIdx r.toNat, zs ++ [pool[r.toNat]], .val d, hP5, by simp; omega, ?_, ?_, ?_, rfl⟩
            · rw [List.length_eraseIdx_of_lt hrl]; omega
            · intro y hy
              exact hpo y (List.mem_of_mem_eraseIdx hy)
            · intro y hy
              simp at hy
              rcases hy with hy | rfl
              · exact hz2 y hy
              · exact hpm
        · intro y hy
          obtain ⟨t, rfl, ht0, ht1⟩ := rngD_mem hy
          exact ⟨t, rfl, by omega, by omega⟩
        · have : ((m + 1) - 1 : Int).toNat = m.toNat := by omega
          rw [this]; rfl
      · symm_saturate
        exact fin ys p3 _ _ _ (by omega) hR (hP3.mono (by omega))
  refine i_nx ?_
  refine x_seq ?_
  refine x_set ?_
  symm_saturate
  refine i_ite (fun c1 => ?_) fun c1 => ?_
  · symm_saturate
    refine ⟨B + 48, _, hP1.mono (by omega), rfl, by omega, by omega, fun k p2 hk0 hk1 hP2 => ?_⟩
    refine i_nx ?_
    exact mid k p2 hk0 (by omega) (fun _ => by simpa using c1) (hP2.mono (by omega))
  · refine x_c ?_
    refine i_nx ?_
    exact mid 0 p1 (by omega) (by omega) (fun z => absurd z (by omega)) (hP1.mono (by omega))
end
end K55

namespace K55
open PySem PySem.Spec PyProof.Rows L2 TL DL
section
local macro_rules | `(tactic| symm_saturate) => `(tactic| repeat (first
  | with_reducible refine x_seq ?_
  | with_reducible refine x_next ?_
  | with_reducible refine x_ret ?_
  | with_reducible refine x_retN ?_
  | with_reducible refine x_drop ?_
  | with_reducible refine x_ifS ?_
  | with_reducible refine x_gname ?_
  | with_reducible refine i_gnil ?_
  | with_reducible refine x_gcons ?_
  | with_reducible refine x_asg ?_
  | with_reducible refine x_set ?_
  | with_reducible refine x_setO ?_
  | with_reducible refine x_par ?_
  | with_reducible refine x_parVN ?_
  | with_reducible refine x_parNV ?_
  | with_reducible refine x_rng1 ?_
  | with_reducible refine x_rng2 ?_
  | with_reducible refine x_for ?_
  | with_reducible refine x_lc ?_
  | with_reducible refine x_yes ?_
  | with_reducible refine x_c ?_
  | with_reducible refine x_op ?_
  | with_reducible refine x_un ?_
  | with_reducible refine x_add1 ?_
  | with_reducible refine x_I0 ?_
  | with_reducible refine x_B0 ?_
  | with_reducible refine x_neg ?_
  | with_reducible refine x_isN ?_
  | with_reducible refine x_tru ?_
  | with_reducible refine x_truB ?_
  | with_reducible refine x_and ?_
  | with_reducible refine x_or ?_
  | with_reducible refine x_not ?_
  | with_reducible refine x_if ?_
  | with_reducible refine x_nil ?_
  | with_reducible refine x_cons ?_
  | with_reducible refine x_tup ?_
  | with_reducible refine x_lst ?_
  | with_reducible refine x_frz ?_
  | with_reducible refine x_newL ?_
  | with_reducible refine x_noP ?_
  | with_reducible refine x_CB ?_
  | with_reducible refine x_abs ?_
  | with_reducible refine x_max2 ?_
  | with_reducible refine x_min2 ?_
  | with_reducible refine x_int1 ?_
  | with_reducible refine x_int2 ?_
  | with_reducible refine x_len ?_
  | with_reducible refine x_lenD1 ?_
  | with_reducible refine x_lenD2 ?_
  | with_reducible refine x_fmt ?_
  | with_reducible refine x_call ?_
  | with_reducible refine x_raise ?_
  | with_reducible refine x_callX ?_
  | with_reducible refine x_rngL ?_
  | with_reducible refine i_nx ?_
  | with_reducible refine i_rt ?_
  | with_reducible refine i_ct ?_
  | with_reducible refine i_bk ?_
  | with_reducible refine x_isi ?_
  | with_reducible refine x_joined ?_
  | with_reducible refine x_jnil ?_
  | with_reducible refine x_jcons ?_
  | with_reducible refine x_fmtS ?_
  | with_reducible refine x_fmtI ?_
  | with_reducible refine i_mB ?_
  | with_reducible refine i_mI ?_
  | with_reducible refine i_mS ?_
  | with_reducible refine i_mL ?_
  | with_reducible refine i_mLT1 ?_
  | with_reducible refine i_mLT2 ?_
  | with_reducible refine i_mTL1 ?_
  | with_reducible refine i_mTL2 ?_
  | with_reducible refine i_mLL ?_
  | with_reducible refine i_mT ?_
  | with_reducible refine i_mF ?_
  | with_reducible refine i_itT ?_
  | with_reducible refine i_itF ?_
  | with_reducible refine i_test ?_
  | with_reducible refine i_itL ?_
  | with_reducible refine i_itS ?_
  | with_reducible refine i_part ?_
  | with_reducible refine i_sl ?_
  | with_reducible refine i_slD ?_
  | with_reducible refine i_slL ?_
  | with_reducible refine i_listOf ?_
  | with_reducible refine i_catN ?_
  | with_reducible refine i_chain ?_
  | with_reducible refine i_andV ?_
  | with_reducible refine i_orV ?_
  | with_reducible refine i_notV ?_
  | with_reducible refine i_split ?_
  | with_reducible refine i_m1 ?_
  | with_reducible refine i_star ?_
  | with_reducible refine i_callS ?_
  | with_reducible refine i_repl ?_
  | with_reducible refine i_putIx ?_
  | ((with_reducible apply i_gtup); exact rfl)
  | ((with_reducible apply i_len); exact rfl)
  | ((with_reducible apply i_varG); exact rfl)
  | ((with_reducible apply i_lenG); exact rfl)
  | ((with_reducible apply i_ixG); exact rfl)
  | with_reducible refine i_vSv ?_
  | with_reducible refine i_vSo ?_
  | with_reducible refine i_lSv ?_
  | with_reducible refine i_lSo ?_
  | with_reducible refine i_xSv ?_
  | with_reducible refine i_xSo ?_
  | ((with_reducible apply i_aug); exact rfl)
  | ((with_reducible apply i_app); exact rfl)
  | ((with_reducible apply i_mO); exact rfl)
  | ((with_reducible apply i_callP); exact rfl)
  | ((with_reducible apply i_popAt); exact rfl)))
def sp_drawn_phrase (d : Nat) : SpdP := fun pds ds Q => ∃ (B many : Nat) (xs : List (List Nat)), Pu (B + Cc d) pds ∧ ds = [.list (xs.map fun l => PyData.str (mkS l)), .int (many : Nat), .int (d : Nat), .int 4] ∧ many ≤ 4 ∧ xs.length ≤ 20 ∧ (∀ w ∈ xs, Tx 20 w) ∧
  ∀ (ph : List Stp) pds', ph.length ≤ many → (∀ s ∈ ph, SG d s) → Pu B pds' → Q (.list (phD ph)) pds'
def cnew : Nat → Nat
  | 0 => 2
  | d + 1 => Cc d + 2
theorem cnew_le (d : Nat) : 4 * cnew d + 1 ≤ Cc d := by cases d <;> simp [cnew, Cc]; omega
theorem pl_drawn_phrase (d : Nat) (I : SpdP) (hI : ∀ e, d = e + 1 → I = sp_drawn_phrase e) : LawP nn__law_drawn_phrase (sp_drawn_phrase d) (d__law_drawn_phrase sp_coin I) := by
  rintro ad pds ds Q ⟨B, many, xs, hP, rfl, hm, hxl, hx, h⟩
  have hb := sizeLine_big
  have hcd := cnew_le d
  unfold d__law_drawn_phrase
  symm_saturate
  refine ⟨B + 4 * cnew d, _, hP.mono (by omega), rfl, by omega, by omega, fun t p1 ht0 ht1 hP1 => ?_⟩
  symm_saturate
  refine ⟨t, rfl, by omega, ?_⟩
  refine forL_ind (fun rest n => ∃ (p : List D) (ph : List Stp) (x6 x7 x8 : Sl), Pu (B + rest.length * cnew d) p ∧ ph.length + rest.length ≤ many ∧ (∀ s ∈ ph, SG d s) ∧ n = [Sl.own (some ad) p, Sl.val (.list (xs.map fun l => PyData.str (mkS l))), Sl.val (.int (many : Nat)), Sl.val (.int (d : Nat)), Sl.val (.int 4), Sl.own none (phD ph), x6, x7, x8]) ?_ ?_ _ _ ⟨p1, [], Sl.non, Sl.non, Sl.non, ?_, by simp [rngD_len]; omega, by simp, rfl⟩
  · rintro n ⟨p, ph, x6, x7, x8, hp, hl, hs, rfl⟩
    symm_saturate
    exact ⟨p, rfl, h ph p (by simp at hl; omega) hs (hp.mono (by omega))⟩
  · rintro dd rest n K ⟨p, ph, x6, x7, x8, hp, hl, hs, rfl⟩ hK
    simp only [List.length_cons] at hp hl
    rw [Nat.add_mul, Nat.one_mul] at hp
    have fin : ∀ (s : Stp) (p' : List D) (x7 x8 : Sl), SG d s → Pu (B + rest.length * cnew d) p' → K [Sl.own (some ad) p', Sl.val (.list (xs.map fun l => PyData.str (mkS l))), Sl.val (.int (many : Nat)), Sl.val (.int (d : Nat)), Sl.val (.int 4), Sl.own none (phD ph ++ [stD s]), Sl.val dd, x7, x8] := by
      intro s p' x7 x8 hsg hp'
      refine hK _ ⟨p', ph ++ [s], _, x7, x8, hp', by simp; omega, ?_, by rw [show phD ph ++ [stD s] = phD (ph ++ [s]) from by rw [← phD_app]; rfl]⟩
      intro y hy
      simp at hy
      rcases hy with hy | rfl
      · exact hs y hy
      · exact hsg
    symm_saturate
    refine ⟨B + rest.length * cnew d + cnew d - 1, 6, hp.mono (by cases d <;> simp [cnew] <;> omega), rfl, by omega, by omega, fun way p2 hw0 hw1 hP2 => ?_⟩
    symm_saturate
    have other : dIfS (dTest (dOp rdNe (dVar 1) (dFrz (dNewL dNil))))
        ((dApp 5 (dIxN 1 (dCallP 0 sp_coin (dCons (dLenN 1) dNil)))))
        (dNext) { nx := K, rt := fun d n => ∃ p', n[0]? = some (Sl.own (some ad) p') ∧ Q d p', ct := K, bk := fun n => dRet (dVar 5) { nx := fun n => ∃ p', n[0]? = some (Sl.own (some ad) p') ∧ Q .none p', rt := fun d n => ∃ p', n[0]? = some (Sl.own (some ad) p') ∧ Q d p' } n } [Sl.own (some ad) p2, Sl.val (.list (xs.map fun l => PyData.str (mkS l))), Sl.val (.int (many : Nat)), Sl.val (.int (d : Nat)), Sl.val (.int 4), Sl.own none (phD ph), Sl.val dd, Sl.val (.int way), x8] := by
      symm_saturate
      refine Eq.mpr e_ne ⟨by simp [PyData.depth, PyData.depthAll], ?_⟩
      symm_saturate
      rw [eqv_nil]
      refine i_ite (fun c1 => ?_) fun c1 => ?_
      · have hne : 0 < xs.length := by
          cases xs with
          | nil => simp at c1
          | cons a b => simp
        symm_saturate
        refine ⟨B + rest.length * cnew d, _, hP2.mono (by cases d <;> simp [cnew] <;> omega), rfl, by simp; omega, by simp; omega, fun r p3 hr0 hr1 hP3 => ?_⟩
        obtain ⟨x, hx', hat⟩ := atI_mem (xs := xs.map fun l => PyData.str (mkS l)) hr0 hr1
        symm_saturate
        refine Eq.mpr e_ix1 ⟨x, hat, ?_⟩
        symm_saturate
        refine ⟨by rw [phD_len]; omega, ?_⟩
        symm_saturate
        obtain ⟨w, hw, rfl⟩ := List.mem_map.mp hx'
        exact fin (.nm w) p3 _ _ (SG_nm (hx w hw)) hP3
      · symm_saturate
        exact hK _ ⟨p2, ph, _, _, _, hP2.mono (by cases d <;> simp [cnew] <;> omega), by omega, hs, rfl⟩
    refine i_ite (fun c1 => ?_) fun c1 => ?_
    · symm_saturate
      refine i_ite (fun c2 => ?_) fun c2 => ?_
      · obtain ⟨e, rfl⟩ : ∃ e, d = e + 1 := ⟨d - 1, by simp at c2; omega⟩
        have hI' := hI e rfl
        subst hI'
        symm_saturate
        have ee : (((e + 1 : Nat) : Int) - 1) = (e : Int) := by omega
        rw [ee]
        refine ⟨B + rest.length * cnew (e + 1) + 1, 2, xs, hP2.mono (by simp [cnew]; omega), rfl, by omega, hxl, hx, fun inn p3 hil his hP3 => ?_⟩
        symm_saturate
        have hat : ∃ w : List Nat, (w = wUnder ∨ w = wTimes) ∧ atI [PyData.str (Str.ofString "under"), PyData.str (Str.ofString "times")] way = some (.str (mkS w)) := by
          have c1' : way < 2 := by simpa using c1
          rw [s_under, s_times]
          by_cases h0 : way = 0
          · subst h0; exact ⟨wUnder, .inl rfl, rfl⟩
          · have : way = 1 := by omega
            subst this; exact ⟨wTimes, .inr rfl, rfl⟩
        obtain ⟨w, hw, hat⟩ := hat
        refine Eq.mpr e_ix1 ⟨_, hat, ?_⟩
        symm_saturate
        refine ⟨B + rest.length * cnew (e + 1), _, hP3, rfl, by omega, by omega, fun r p4 hr0 hr1 hP4 => ?_⟩
        symm_saturate
        refine ⟨by rw [phD_len]; omega, ?_⟩
        symm_saturate
        have er : (r : Int) = ((r.toNat : Nat) : Int) := by omega
        rw [er]
        exact fin (.lg w r.toNat inn) p4 _ _ (SG_lg hw (by omega) hil his) hP4
      · exact other
    · refine i_itF ?_
      exact other
  · rw [rngD_len]
    refine hP1.mono ?_
    have : t.toNat * cnew d ≤ 4 * cnew d := Nat.mul_le_mul_right _ (by omega)
    omega
end
end K55

namespace K55
open PySem PySem.Spec PyProof.Rows L2 TL DL
section
local macro_rules | `(tactic| symm_saturate) => `(tactic| repeat (first
  | with_reducible refine x_seq ?_
  | with_reducible refine x_next ?_
  | with_reducible refine x_ret ?_
  | with_reducible refine x_retN ?_
  | with_reducible refine x_drop ?_
  | with_reducible refine x_ifS ?_
  | with_reducible refine x_gname ?_
  | with_reducible refine i_gnil ?_
  | with_reducible refine x_gcons ?_
  | with_reducible refine x_asg ?_
  | with_reducible refine x_set ?_
  | with_reducible refine x_setO ?_
  | with_reducible refine x_par ?_
  | with_reducible refine x_parVN ?_
  | with_reducible refine x_parNV ?_
  | with_reducible refine x_rng1 ?_
  | with_reducible refine x_rng2 ?_
  | with_reducible refine x_for ?_
  | with_reducible refine x_lc ?_
  | with_reducible refine x_yes ?_
  | with_reducible refine x_c ?_
  | with_reducible refine x_op ?_
  | with_reducible refine x_un ?_
  | with_reducible refine x_add1 ?_
  | with_reducible refine x_I0 ?_
  | with_reducible refine x_B0 ?_
  | with_reducible refine x_neg ?_
  | with_reducible refine x_isN ?_
  | with_reducible refine x_tru ?_
  | with_reducible refine x_truB ?_
  | with_reducible refine x_and ?_
  | with_reducible refine x_or ?_
  | with_reducible refine x_not ?_
  | with_reducible refine x_if ?_
  | with_reducible refine x_nil ?_
  | with_reducible refine x_cons ?_
  | with_reducible refine x_tup ?_
  | with_reducible refine x_lst ?_
  | with_reducible refine x_frz ?_
  | with_reducible refine x_newL ?_
  | with_reducible refine x_noP ?_
  | with_reducible refine x_CB ?_
  | with_reducible refine x_abs ?_
  | with_reducible refine x_max2 ?_
  | with_reducible refine x_min2 ?_
  | with_reducible refine x_int1 ?_
  | with_reducible refine x_int2 ?_
  | with_reducible refine x_len ?_
  | with_reducible refine x_lenD1 ?_
  | with_reducible refine x_lenD2 ?_
  | with_reducible refine x_fmt ?_
  | with_reducible refine x_call ?_
  | with_reducible refine x_raise ?_
  | with_reducible refine x_callX ?_
  | with_reducible refine x_rngL ?_
  | with_reducible refine i_nx ?_
  | with_reducible refine i_rt ?_
  | with_reducible refine i_ct ?_
  | with_reducible refine i_bk ?_
  | with_reducible refine x_isi ?_
  | with_reducible refine x_joined ?_
  | with_reducible refine x_jnil ?_
  | with_reducible refine x_jcons ?_
  | with_reducible refine x_fmtS ?_
  | with_reducible refine x_fmtI ?_
  | with_reducible refine i_mB ?_
  | with_reducible refine i_mI ?_
  | with_reducible refine i_mS ?_
  | with_reducible refine i_mL ?_
  | with_reducible refine i_mLT1 ?_
  | with_reducible refine i_mLT2 ?_
  | with_reducible refine i_mTL1 ?_
  | with_reducible refine i_mTL2 ?_
  | with_reducible refine i_mLL ?_
  | with_reducible refine i_mT ?_
  | with_reducible refine i_mF ?_
  | with_reducible refine i_itT ?_
  | with_reducible refine i_itF ?_
  | with_reducible refine i_test ?_
  | with_reducible refine i_itL ?_
  | with_reducible refine i_itS ?_
  | with_reducible refine i_part ?_
  | with_reducible refine i_sl ?_
  | with_reducible refine i_slD ?_
  | with_reducible refine i_slL ?_
  | with_reducible refine i_listOf ?_
  | with_reducible refine i_catN ?_
  | with_reducible refine i_chain ?_
  | with_reducible refine i_andV ?_
  | with_reducible refine i_orV ?_
  | with_reducible refine i_notV ?_
  | with_reducible refine i_split ?_
  | with_reducible refine i_m1 ?_
  | with_reducible refine i_star ?_
  | with_reducible refine i_callS ?_
  | with_reducible refine i_repl ?_
  | with_reducible refine i_putIx ?_
  | ((with_reducible apply i_gtup); exact rfl)
  | ((with_reducible apply i_len); exact rfl)
  | ((with_reducible apply i_varG); exact rfl)
  | ((with_reducible apply i_lenG); exact rfl)
  | ((with_reducible apply i_ixG); exact rfl)
  | with_reducible refine i_vSv ?_
  | with_reducible refine i_vSo ?_
  | with_reducible refine i_lSv ?_
  | with_reducible refine i_lSo ?_
  | with_reducible refine i_xSv ?_
  | with_reducible refine i_xSo ?_
  | ((with_reducible apply i_aug); exact rfl)
  | ((with_reducible apply i_app); exact rfl)
  | ((with_reducible apply i_mO); exact rfl)
  | ((with_reducible apply i_callP); exact rfl)
  | ((with_reducible apply i_popAt); exact rfl)))
def oddS : List String := ["", " ", "0 |", "0 | ", "0|", "0", "|", "1 |", "1 | 1", "1 | 1 1", "2 | 2 1", "2 | 1 2", "2 | 1 2 2", "3 | 3 1 2", "3 | 2 1 3", "1 | 2", "1 | 0", "-1 |", "01 |", "1 | 01", "1 || 1", "1 | 1,1", "1 |  1", " 1 | 1 1", "1 | 1 1 ", "1 | 1 |", "a | 1", "1 | a", "999999999 |", "1000000000 |", "a", "a b", "a  b", " a", "a ", "A", "a1", "abcdefgh", "abcdefghi", "under", "times", "under times", "under 1 ()", "under 1 (a)", "under 1 (a b) c", "under 1 a", "under (a)", "under 1(a)", "under  1 (a)", "under 1  (a)", "under 1 (a", "under 1 a)", "under 1 (a))", "under -1 (a)", "under 01 (a)", "under 1 ( a)", "under 1 (a )", "under 1 ( )", "times 2 (under 1 (a) b) c", "times 2 (a)b", "times 2 (a) b", "times 2 (a)  b", "(a)", "a (b)", "dip 1 (a)", "times 999999999 (a)", "times 1000000000 (a)", "times 2 (times)", "times 2 (times 2)", "times 2 (times 2 ())", "times times 2 (a)", "a 2", "2"]
def TLd (ds : List D) : Prop := ∀ d ∈ ds, TxD OT d
theorem TLd.app {a b : List D} (h : TLd a) (g : TLd b) : TLd (a ++ b) := by
  intro d hd
  rcases List.mem_append.mp hd with hd | hd
  · exact h d hd
  · exact g d hd
theorem TLd.cons {l : List Nat} {b : List D} (h : OT l) (g : TLd b) : TLd (.str (mkS l) :: b) := by
  intro d hd
  rcases List.mem_cons.mp hd with rfl | hd
  · exact ⟨l, rfl, h⟩
  · exact g d hd
theorem TLd.nil : TLd [] := fun d hd => by cases hd
theorem odd_lits : TLd (oddS.map fun s => PyData.str (Str.ofString s)) := by
  intro d hd
  obtain ⟨l, e, h⟩ := lits_ok (fun l => decide (l.count 40 ≤ 50) && decide (l.length ≤ 50000)) oddS (by decide +kernel) d hd
  refine ⟨l, e, ?_⟩
  simp at h
  exact h
def sp_odd_one : SpdP := fun pds ds Q => ∃ (B : Nat) (l : List Nat), Pu (B + 10) pds ∧ ds = [.str (mkS l)] ∧ l.count 40 ≤ 28 ∧ l.length ≤ 20000 ∧ ∀ (t : List Nat) pds', OT t → Pu B pds' → Q (.str (mkS t)) pds'
theorem s_leaf : (Str.ofString "times 1 (") = mkS [116, 105, 109, 101, 115, 32, 49, 32, 40] := litS _ _ rfl
theorem s_7 : (Str.ofString "7") = mkS [55] := litS _ _ rfl
theorem s_60 : (Str.ofString "60 | ") = mkS [54, 48, 32, 124, 32] := litS _ _ rfl
theorem s_ab : (Str.ofString "ab") = mkS [97, 98] := litS _ _ rfl
theorem s_spa : (Str.ofString " a") = mkS [32, 97] := litS _ _ rfl
theorem s_sp1 : (Str.ofString " 1") = mkS [32, 49] := litS _ _ rfl
theorem repD_one (x : List Nat) (k : Nat) : repD [.str (mkS x)] k = (List.replicate k x).map fun l => PyData.str (mkS l) := by
  unfold repD
  induction k with
  | zero => rfl
  | succ k ih => rw [List.replicate_succ, List.flatten_cons, ih, List.replicate_succ]; rfl
theorem rep_fit {x : List Nat} {k : Nat} (hk : k ≤ 300) (hx : x.length ≤ 5) : ((List.replicate k x).map List.length).sum + (List.replicate k x).length * [32].length ≤ 16777216 := by
  have := sum_le List.length 5 (List.replicate k x) (by intro y hy; rw [(List.mem_replicate.mp hy).2]; exact hx)
  simp only [List.length_replicate, List.length_singleton] at this ⊢
  omega
theorem rep_OT {x : List Nat} {k : Nat} (hk : k ≤ 300) (hx : x.length ≤ 5) (h : x.count 40 = 0) : (joinL [32] (List.replicate k x)).count 40 = 0 ∧ (joinL [32] (List.replicate k x)).length ≤ 1900 := by
  have h1 := joinL_cnt 40 [32] (List.replicate k x)
  have h2 := joinL_lenS [32] (List.replicate k x)
  have h3 := sum_le (List.count 40) 0 (List.replicate k x) (by intro y hy; rw [(List.mem_replicate.mp hy).2, h]; exact Nat.le_refl _)
  have h4 := sum_le List.length 5 (List.replicate k x) (by intro y hy; rw [(List.mem_replicate.mp hy).2]; exact hx)
  have e1 : List.count 40 [32] = 0 := rfl
  simp only [List.length_replicate, List.length_singleton, e1] at h1 h2 h3 h4
  omega
theorem repl_OT (W y z : List Nat) (hy : y ≠ []) (hc : z.count 40 ≤ y.count 40) (hl : z.length ≤ y.length) : ∃ t, Txt.replace (mkS W) (mkS y) (mkS z) = mkS t ∧ t.count 40 ≤ W.count 40 ∧ t.length ≤ W.length := by
  have e := PySem.StrLaws.replace_list (x := mkS W) (y := mkS y) (z := mkS z) (by rw [mkS_len]; exact List.length_pos_iff.mpr hy)
  have h := replL_fit hy hc hl W.length W (Nat.le_refl _)
  refine ⟨tl (Txt.replace (mkS W) (mkS y) (mkS z)), (mk_tl _).symm, ?_⟩
  have e2 : tl (Txt.replace (mkS W) (mkS y) (mkS z)) = PySem.StrLaws.replL y z W := e
  rw [e2]
  exact h
theorem pl_odd_one : LawP nn__law_odd_one sp_odd_one (d__law_odd_one sp_coin) := by
  rintro ad pds ds Q ⟨B, W, hP, rfl, hW1, hW2, h⟩
  have hb := sizeLine_big
  unfold d__law_odd_one
  symm_saturate
  refine Eq.mpr e_add3 ⟨by simp; omega, ?_⟩
  symm_saturate
  refine Eq.mpr e_add3 ⟨by simp; omega, ?_⟩
  symm_saturate
  refine Eq.mpr e_add3 ⟨by simp; omega, ?_⟩
  symm_saturate
  refine Eq.mpr e_add3 ⟨by simp; omega, ?_⟩
  symm_saturate
  refine Eq.mpr e_add3 ⟨by simp; omega, ?_⟩
  symm_saturate
  refine Eq.mpr e_add3 ⟨by simp; omega, ?_⟩
  symm_saturate
  refine Eq.mpr e_add3 ⟨by simp; omega, ?_⟩
  symm_saturate
  refine Eq.mpr e_add3 ⟨by simp; omega, ?_⟩
  symm_saturate
  refine Eq.mpr e_add3 ⟨by simp; omega, ?_⟩
  symm_saturate
  refine Eq.mpr e_add3 ⟨by simp; omega, ?_⟩
  symm_saturate
  refine Eq.mpr e_add3 ⟨by simp; omega, ?_⟩
  symm_saturate
  refine ⟨B + 9, 20, hP, rfl, by omega, by omega, fun k p1 hk0 hk1 hP1 => ?_⟩
  symm_saturate
  refine ⟨k, rfl, by omega, ?_⟩
  have hlits := odd_lits
  have hll : (oddS.map fun s => PyData.str (Str.ofString s)).length = 73 := rfl
  refine forL_ind (fun rest n => ∃ (lf : List Nat) (x4 : Sl), lf.count 40 + rest.length ≤ 19 ∧ lf.length + 10 * rest.length ≤ 200 ∧ n = [Sl.own (some ad) p1, Sl.val (.str (mkS W)), Sl.val (.list (oddS.map fun s => PyData.str (Str.ofString s))), Sl.val (.str (mkS lf)), x4, Sl.non]) ?_ ?_ _ _ ⟨[], Sl.non, by rw [rngD_len]; simp; omega, by rw [rngD_len]; simp; omega, by rw [← s_empty]; rfl⟩
  · rintro n ⟨lf, x4, hl1, hl2, rfl⟩
    simp only [List.length_nil] at hl1 hl2
    generalize (oddS.map fun s => PyData.str (Str.ofString s)) = L at hlits hll ⊢
    symm_saturate
    refine ⟨B + 8, 300, hP1.mono (by omega), rfl, by omega, by omega, fun m p2 hm0 hm1 hP2 => ?_⟩
    symm_saturate
    rw [s_cl, s_spa, s_60, s_7, s_ab, s_sp, s_sp1]
    refine Eq.mpr e_add2 ⟨by rw [mkS_len, mkS_len]; simp; omega, ?_⟩
    rw [mkS_app]
    symm_saturate
    refine i_slS (by rw [mkS_len]; omega) ?_
    rw [cutS_mk]
    symm_saturate
    refine Eq.mpr e_add2 ⟨by rw [mkS_len, mkS_len]; simp; omega, ?_⟩
    rw [mkS_app]
    symm_saturate
    refine ⟨⟨by omega, by omega, by simp; omega⟩, ?_⟩
    rw [repD_one]
    refine join_ok (xs := List.replicate (1 + m).toNat [55]) rfl (rep_fit (by omega) (by decide)) ?_
    have r7 := rep_OT (x := [55]) (k := (1 + m).toNat) (by omega) (by decide) rfl
    generalize joinL [32] (List.replicate (1 + m).toNat [55]) = j7 at r7 ⊢
    symm_saturate
    refine Eq.mpr e_add2 ⟨by rw [mkS_len, mkS_len]; simp; omega, ?_⟩
    rw [mkS_app]
    symm_saturate
    refine Eq.mpr e_add3 ⟨by simp; omega, ?_⟩
    symm_saturate
    refine ⟨⟨by omega, by omega, by simp; omega⟩, ?_⟩
    rw [repD_one]
    refine join_ok (xs := List.replicate (1 + m).toNat [97, 98]) rfl (rep_fit (by omega) (by decide)) ?_
    have rab := rep_OT (x := [97, 98]) (k := (1 + m).toNat) (by omega) (by decide) rfl
    symm_saturate
    refine ⟨⟨by omega, by omega, by simp; omega⟩, ?_⟩
    refine join_ok (xs := List.replicate (1 + m).toNat [97, 98]) (repD_one _ _) (rep_fit (by omega) (by decide)) ?_
    generalize joinL [32] (List.replicate (1 + m).toNat [97, 98]) = jab at rab ⊢
    symm_saturate
    refine Eq.mpr e_add2 ⟨by rw [mkS_len, mkS_len]; simp; omega, ?_⟩
    rw [mkS_app]
    symm_saturate
    refine Eq.mpr e_add3 ⟨by simp; omega, ?_⟩
    symm_saturate
    refine Eq.mpr e_add2 ⟨by rw [mkS_len, mkS_len]; simp; omega, ?_⟩
    rw [mkS_app]
    symm_saturate
    refine Eq.mpr e_add2 ⟨by rw [mkS_len, mkS_len]; simp; omega, ?_⟩
    rw [mkS_app]
    symm_saturate
    refine Eq.mpr e_add2 ⟨by rw [mkS_len, mkS_len]; simp; omega, ?_⟩
    rw [mkS_app]
    symm_saturate
    rw [s_spop, s_op]
    obtain ⟨r1, er1, hr1, hr1l⟩ := repl_OT W [32, 40] [40] (by simp) (by decide) (by decide)
    obtain ⟨r2, er2, hr2, hr2l⟩ := repl_OT W [41] [] (by simp) (by decide) (by decide)
    obtain ⟨r3, er3, hr3, hr3l⟩ := repl_OT W [124] [] (by simp) (by decide) (by decide)
    refine ⟨by rw [mkS_len, mkS_len]; simp; omega, ?_⟩
    rw [er1]
    symm_saturate
    refine Eq.mpr e_add3 ⟨by simp; omega, ?_⟩
    symm_saturate
    rw [s_empty, s_bar]
    refine ⟨by rw [mkS_len, mkS_len]; simp; omega, ?_⟩
    rw [er2]
    symm_saturate
    refine ⟨by rw [mkS_len, mkS_len]; simp; omega, ?_⟩
    rw [er3]
    symm_saturate
    refine Eq.mpr e_revS ⟨by rw [mkS_len]; omega, ?_⟩
    symm_saturate
    refine Eq.mpr e_add3 ⟨by simp; omega, ?_⟩
    symm_saturate
    have erev : revS (mkS W) = mkS W.reverse := rfl
    rw [erev]
    refine ⟨B + 7, _, hP2.mono (by omega), rfl, by simp; omega, by simp; omega, fun r p3 hr0 hr1' hP3 => ?_⟩
    symm_saturate
    obtain ⟨x, hx, hat⟩ := atI_mem hr0 hr1'
    refine Eq.mpr e_ix1 ⟨x, hat, ?_⟩
    have hcut := cutL_sub lf none (some (-1))
    have hall : TxD OT x := by
      refine TLd.app (TLd.app (TLd.app (TLd.app hlits ?_) ?_) ?_) ?_ x hx
      · have c1 := hcut.count_le 40
        have c2 := hcut.length_le
        refine TLd.cons ⟨by omega, by omega⟩ (TLd.cons ⟨?_, ?_⟩ (TLd.cons ⟨by omega, by omega⟩ (TLd.cons ⟨?_, ?_⟩ (TLd.cons ⟨?_, ?_⟩ TLd.nil))))
        · simp; omega
        · simp; omega
        · simp; omega
        · simp; omega
        · simp; omega
        · simp; omega
      · refine TLd.cons ⟨by omega, by omega⟩ (TLd.cons ⟨?_, ?_⟩ TLd.nil)
        · simp; omega
        · simp; omega
      · refine TLd.cons ⟨?_, ?_⟩ (TLd.cons ⟨?_, ?_⟩ (TLd.cons ⟨?_, ?_⟩ (TLd.cons ⟨by omega, by omega⟩ TLd.nil)))
        · simp; omega
        · simp; omega
        · simp; omega
        · simp; omega
        · simp; omega
        · simp; omega
      · refine TLd.cons ⟨by omega, by omega⟩ (TLd.cons ⟨by omega, by omega⟩ (TLd.cons ⟨?_, ?_⟩ TLd.nil))
        · rw [List.count_reverse]; omega
        · simp; omega
    obtain ⟨t, rfl, ht⟩ := hall
    exact ⟨p3, rfl, h t p3 ht (hP3.mono (by omega))⟩
  · rintro d rest n K ⟨lf, x4, hl1, hl2, rfl⟩ hK
    simp only [List.length_cons] at hl1 hl2
    symm_saturate
    rw [s_leaf, s_cl]
    refine Eq.mpr e_add2 ⟨by rw [mkS_len, mkS_len]; simp; omega, ?_⟩
    rw [mkS_app]
    symm_saturate
    refine Eq.mpr e_add2 ⟨by rw [mkS_len, mkS_len]; simp; omega, ?_⟩
    rw [mkS_app]
    symm_saturate
    refine hK _ ⟨[116, 105, 109, 101, 115, 32, 49, 32, 40] ++ lf ++ [41], _, ?_, ?_, rfl⟩
    · simp [List.count_append, List.count_cons]; omega
    · simp; omega
end
end K55

namespace K55
open PySem PySem.Spec PyProof.Rows L2 TL DL
section
local macro_rules | `(tactic| symm_saturate) => `(tactic| repeat (first
  | with_reducible refine x_seq ?_
  | with_reducible refine x_next ?_
  | with_reducible refine x_ret ?_
  | with_reducible refine x_retN ?_
  | with_reducible refine x_drop ?_
  | with_reducible refine x_ifS ?_
  | with_reducible refine x_gname ?_
  | with_reducible refine i_gnil ?_
  | with_reducible refine x_gcons ?_
  | with_reducible refine x_asg ?_
  | with_reducible refine x_set ?_
  | with_reducible refine x_setO ?_
  | with_reducible refine x_par ?_
  | with_reducible refine x_parVN ?_
  | with_reducible refine x_parNV ?_
  | with_reducible refine x_rng1 ?_
  | with_reducible refine x_rng2 ?_
  | with_reducible refine x_for ?_
  | with_reducible refine x_lc ?_
  | with_reducible refine x_yes ?_
  | with_reducible refine x_c ?_
  | with_reducible refine x_op ?_
  | with_reducible refine x_un ?_
  | with_reducible refine x_add1 ?_
  | with_reducible refine x_I0 ?_
  | with_reducible refine x_B0 ?_
  | with_reducible refine x_neg ?_
  | with_reducible refine x_isN ?_
  | with_reducible refine x_tru ?_
  | with_reducible refine x_truB ?_
  | with_reducible refine x_and ?_
  | with_reducible refine x_or ?_
  | with_reducible refine x_not ?_
  | with_reducible refine x_if ?_
  | with_reducible refine x_nil ?_
  | with_reducible refine x_cons ?_
  | with_reducible refine x_tup ?_
  | with_reducible refine x_lst ?_
  | with_reducible refine x_frz ?_
  | with_reducible refine x_newL ?_
  | with_reducible refine x_noP ?_
  | with_reducible refine x_CB ?_
  | with_reducible refine x_abs ?_
  | with_reducible refine x_max2 ?_
  | with_reducible refine x_min2 ?_
  | with_reducible refine x_int1 ?_
  | with_reducible refine x_int2 ?_
  | with_reducible refine x_len ?_
  | with_reducible refine x_lenD1 ?_
  | with_reducible refine x_lenD2 ?_
  | with_reducible refine x_fmt ?_
  | with_reducible refine x_call ?_
  | with_reducible refine x_raise ?_
  | with_reducible refine x_callX ?_
  | with_reducible refine x_rngL ?_
  | with_reducible refine i_nx ?_
  | with_reducible refine i_rt ?_
  | with_reducible refine i_ct ?_
  | with_reducible refine i_bk ?_
  | with_reducible refine x_isi ?_
  | with_reducible refine x_joined ?_
  | with_reducible refine x_jnil ?_
  | with_reducible refine x_jcons ?_
  | with_reducible refine x_fmtS ?_
  | with_reducible refine x_fmtI ?_
  | with_reducible refine i_mB ?_
  | with_reducible refine i_mI ?_
  | with_reducible refine i_mS ?_
  | with_reducible refine i_mL ?_
  | with_reducible refine i_mLT1 ?_
  | with_reducible refine i_mLT2 ?_
  | with_reducible refine i_mTL1 ?_
  | with_reducible refine i_mTL2 ?_
  | with_reducible refine i_mLL ?_
  | with_reducible refine i_mT ?_
  | with_reducible refine i_mF ?_
  | with_reducible refine i_itT ?_
  | with_reducible refine i_itF ?_
  | with_reducible refine i_test ?_
  | with_reducible refine i_itL ?_
  | with_reducible refine i_itS ?_
  | with_reducible refine i_part ?_
  | with_reducible refine i_sl ?_
  | with_reducible refine i_slD ?_
  | with_reducible refine i_slL ?_
  | with_reducible refine i_listOf ?_
  | with_reducible refine i_catN ?_
  | with_reducible refine i_chain ?_
  | with_reducible refine i_andV ?_
  | with_reducible refine i_orV ?_
  | with_reducible refine i_notV ?_
  | with_reducible refine i_split ?_
  | with_reducible refine i_m1 ?_
  | with_reducible refine i_star ?_
  | with_reducible refine i_callS ?_
  | with_reducible refine i_repl ?_
  | with_reducible refine i_putIx ?_
  | ((with_reducible apply i_gtup); exact rfl)
  | ((with_reducible apply i_len); exact rfl)
  | ((with_reducible apply i_varG); exact rfl)
  | ((with_reducible apply i_lenG); exact rfl)
  | ((with_reducible apply i_ixG); exact rfl)
  | with_reducible refine i_vSv ?_
  | with_reducible refine i_vSo ?_
  | with_reducible refine i_lSv ?_
  | with_reducible refine i_lSo ?_
  | with_reducible refine i_xSv ?_
  | with_reducible refine i_xSo ?_
  | ((with_reducible apply i_aug); exact rfl)
  | ((with_reducible apply i_app); exact rfl)
  | ((with_reducible apply i_mO); exact rfl)
  | ((with_reducible apply i_callP); exact rfl)
  | ((with_reducible apply i_popAt); exact rfl)))
theorem TLd.len {ds : List D} (h : TLd ds) : True := trivial
def sp_marred_one : SpdP := fun pds ds Q => ∃ (B : Nat) (l : List Nat), Pu (B + 20) pds ∧ ds = [.str (mkS l)] ∧ l.count 40 ≤ 28 ∧ l.length ≤ 20000 ∧ ∀ (t : List Nat) pds', OT t → Pu B pds' → Q (.str (mkS t)) pds'
def signsA : List Nat := "ab 1|(2)under times".toList.map Char.toNat
def signsB : List Nat := "ABCDEFGHIJKLMNOPQRSTUVWXYZ0123456789abcdefghijklmnopqrstuvwxyz !#$&'()*+,-./:;<=>?\x40[]^_`{|}~\"\\".toList.map Char.toNat
theorem signsA_len : signsA.length = 19 := by decide +kernel
theorem signsB_len : 0 < signsB.length ∧ signsB.length ≤ 200 := by decide +kernel
theorem eqv_int (a b : Int) : PyData.eqv (.int a) (.int b) = decide (a = b) := by by_cases h : a = b <;> simp [PyData.eqv, h]
theorem ins_OT {W s : List Nat} (h1 : W.count 40 ≤ 28) (h2 : W.length ≤ 20000) (hs : s.length ≤ 1) (i j : Nat) (hij : i ≤ j) : OT (W.take i ++ s ++ W.drop j) := by
  have c1 : (W.take i).count 40 + (W.drop j).count 40 ≤ W.count 40 := by
    have e : W.count 40 = (W.take i).count 40 + (W.drop i).count 40 := by rw [← List.count_append, List.take_append_drop]
    have e2 : (W.drop j).count 40 ≤ (W.drop i).count 40 := by
      have : W.drop j = (W.drop i).drop (j - i) := by rw [List.drop_drop]; congr 1; omega
      rw [this]
      exact (List.drop_sublist _ _).count_le 40
    omega
  have c2 : s.count 40 ≤ s.length := List.count_le_length
  refine ⟨by rw [List.count_append, List.count_append]; omega, by simp; omega⟩
def d_marred_swap (_law_coin : SpdP) : TSd :=
  (dSeq (dSet 7 (dOp rdIx (dFrz (dNewL (dCons (dC (.str " ")) (dCons (dC (.str " (")) dNil)))) (dOp (rdI0 fun i j => i - j) (dVar 3) (dC (.int 4)))))
    (dSeq (dSetO 8 (dSplit (dVar 1) (dVar 7)))
    (dSeq (dPar 9 10 (dCallP 0 _law_coin (dCons (dLenN 8) dNil)) (dCallP 0 _law_coin (dCons (dLenN 8) dNil)))
    (dSeq (dSet 11 (dIxN 8 (dVar 9)))
    (dSeq (dPutIx 8 (dVar 9) (dIxN 8 (dVar 10)))
    (dSeq (dPutIx 8 (dVar 10) (dVar 11))
    (dRet (dM1 rdJoin (dVar 7) (dVar 8)))))))))
theorem swap_ok {ad : Addr} {B : Nat} {W : List Nat} {Q : D → List D → Prop} {p4 : List D} {sp way : Int} {x4 x5 x6 : Sl} {nxx : En → Prop} (h : ∀ (t : List Nat) pds', OT t → Pu B pds' → Q (.str (mkS t)) pds') (hw0 : 0 ≤ way) (hW1 : W.count 40 ≤ 28) (hW2 : W.length ≤ 20000) (hway : way = 4 ∨ way = 5) (hP4 : Pu (B + 16) p4) :
    d_marred_swap sp_coin { nx := nxx, rt := fun d n => ∃ p', n[0]? = some (Sl.own (some ad) p') ∧ Q d p' } [Sl.own (some ad) p4, Sl.val (.str (mkS W)), Sl.val (.int sp), Sl.val (.int way), x4, x5, x6, Sl.non, Sl.non, Sl.non, Sl.non, Sl.non] := by
  have hb := sizeLine_big
  unfold d_marred_swap
  symm_saturate
  have hatS : ∃ S : List Nat, (S ≠ [] ∧ S.length ≤ 2 ∧ (mkS S).cps.all (· < 256) = true) ∧ atI [PyData.str (Str.ofString " "), PyData.str (Str.ofString " (")] (way - 4) = some (.str (mkS S)) := by
    rw [s_sp, s_spop]
    rcases hway with rfl | rfl
    · exact ⟨[32], ⟨by simp, by simp, by decide +kernel⟩, rfl⟩
    · exact ⟨[32, 40], ⟨by simp, by simp, by decide +kernel⟩, rfl⟩
  obtain ⟨S, ⟨hS1, hS2, hS3⟩, hatS⟩ := hatS
  refine Eq.mpr e_ix1 ⟨_, hatS, ?_⟩
  symm_saturate
  have hSl : 0 < S.length := List.length_pos_iff.mpr hS1
  refine ⟨by rw [mkS_len]; simp; exact hS1, by rw [mkS_len]; omega, ?_⟩
  rw [split_S W S hS1 hS3, List.map_map]
  have hj := join_spl hS1 W.length W [] (Nat.le_refl _)
  have hne := spl_ne hS1 W.length W [] (Nat.le_refl _)
  generalize spl S 0 [] W = P at hj hne ⊢
  rw [List.nil_append] at hj
  have hPl : 0 < P.length := List.length_pos_iff.mpr hne
  have hlen := joinL_lenS S P
  have hcnt := joinL_cnt 40 S P
  rw [hj] at hlen hcnt
  have hPS : P.length ≤ W.length + 1 := by
    have : P.length - 1 ≤ (P.length - 1) * S.length := Nat.le_mul_of_pos_right _ hSl
    omega
  symm_saturate
  refine ⟨B + 15, _, hP4, rfl, by simp; omega, by simp; omega, fun a p5 ha0 ha1 hP5 => ?_⟩
  simp only [List.length_map] at ha1
  symm_saturate
  refine ⟨B + 14, _, hP5, rfl, by simp; omega, by simp; omega, fun b p6 hb0 hb1 hP6 => ?_⟩
  simp only [List.length_map] at hb1
  have hal : a.toNat < P.length := by omega
  have hbl : b.toNat < P.length := by omega
  have gA : atI (P.map (PyData.str ∘ mkS)) a = some (.str (mkS P[a.toNat])) := by rw [atI_map, atI_int ha0, List.getElem?_eq_getElem hal]; rfl
  have gB : atI (P.map (PyData.str ∘ mkS)) b = some (.str (mkS P[b.toNat])) := by rw [atI_map, atI_int hb0, List.getElem?_eq_getElem hbl]; rfl
  symm_saturate
  refine ⟨_, _, rfl, gA, ?_⟩
  symm_saturate
  refine ⟨_, _, rfl, gB, ?_⟩
  refine ⟨i_own rfl, ?_⟩
  symm_saturate
  refine ⟨a, a.toNat, rfl, ixN_nn ha0 (by simpa using ha1), ?_⟩
  symm_saturate
  refine ⟨i_own rfl, ?_⟩
  symm_saturate
  refine ⟨b, b.toNat, rfl, ixN_nn hb0 (by simpa using hb1), ?_⟩
  symm_saturate
  have esw : ((P.map (PyData.str ∘ mkS)).set a.toNat (.str (mkS P[b.toNat]))).set b.toNat (.str (mkS P[a.toNat])) = ((P.set a.toNat P[b.toNat]).set b.toNat P[a.toNat]).map fun l => PyData.str (mkS l) := by
    rw [List.map_set, List.map_set]; rfl
  have s1 := sum_swap List.length P a.toNat b.toNat hal hbl
  have s2 := sum_swap (List.count 40) P a.toNat b.toNat hal hbl
  have s3 : ((P.set a.toNat P[b.toNat]).set b.toNat P[a.toNat]).length = P.length := by simp
  generalize (P.set a.toNat P[b.toNat]).set b.toNat P[a.toNat] = P2 at esw s1 s2 s3
  rw [esw]
  have l2 := joinL_lenS S P2
  have k2 := joinL_cnt 40 S P2
  rw [s3] at l2 k2
  refine join_ok (xs := P2) rfl ?_ ?_
  · rw [s1, s3]
    have : P.length * S.length = (P.length - 1) * S.length + S.length := by
      obtain ⟨q, hq⟩ : ∃ q, P.length = q + 1 := ⟨P.length - 1, by omega⟩
      rw [hq, Nat.add_sub_cancel, Nat.add_mul, Nat.one_mul]
    omega
  · symm_saturate
    exact ⟨p6, rfl, h _ p6 ⟨by omega, by omega⟩ (hP6.mono (by omega))⟩

theorem pl_marred_one : LawP nn__law_marred_one sp_marred_one (d__law_marred_one sp_coin sp_odd_one) := by
  rintro ad pds ds Q ⟨B, W, hP, rfl, hW1, hW2, h⟩
  have hb := sizeLine_big
  unfold d__law_marred_one
  symm_saturate
  refine ⟨by rw [mkS_len]; omega, ?_⟩
  symm_saturate
  rw [mkS_len]
  refine ⟨B + 19, _, hP, rfl, by omega, by omega, fun sp p1 hsp0 hsp1 hP1 => ?_⟩
  symm_saturate
  refine ⟨B + 18, 8, hP1, rfl, by omega, by omega, fun way p2 hw0 hw1 hP2 => ?_⟩
  symm_saturate
  refine ⟨B + 17, 2, hP2, rfl, by omega, by omega, fun r p3 hr0 hr1 hP3 => ?_⟩
  have hat : ∃ sg : List Nat, (0 < sg.length ∧ sg.length ≤ 200) ∧ atI [PyData.str (Str.ofString "ab 1|(2)under times"), PyData.str (Str.ofString "ABCDEFGHIJKLMNOPQRSTUVWXYZ0123456789abcdefghijklmnopqrstuvwxyz !#$&'()*+,-./:;<=>?\x40[]^_`{|}~\"\\")] r = some (.str (mkS sg)) := by
    by_cases h0 : r = 0
    · subst h0
      refine ⟨signsA, by rw [signsA_len]; omega, ?_⟩
      rw [atI_0, litS _ _ rfl]; rfl
    · have : r = 1 := by omega
      subst this
      refine ⟨signsB, signsB_len, ?_⟩
      rw [atI_1, litS "ABCDEFGHIJKLMNOPQRSTUVWXYZ0123456789abcdefghijklmnopqrstuvwxyz !#$&'()*+,-./:;<=>?\x40[]^_`{|}~\"\\" _ rfl]; rfl
  obtain ⟨sg, hsg, hat⟩ := hat
  symm_saturate
  refine Eq.mpr e_ix1 ⟨_, hat, ?_⟩
  symm_saturate
  refine ⟨by rw [mkS_len]; omega, ?_⟩
  symm_saturate
  rw [mkS_len]
  refine ⟨B + 16, _, hP3, rfl, by omega, by omega, fun r2 p4 h20 h21 hP4 => ?_⟩
  obtain ⟨c, hc, hatc⟩ := atI_str (l := sg) h20 h21
  symm_saturate
  refine Eq.mpr e_ix3 ⟨by rw [mkS_len]; omega, c, hatc, ?_⟩
  symm_saturate
  refine Eq.mpr e_eq ⟨by simp [PyData.depth], ?_⟩
  symm_saturate
  have ec : (⟨#[c]⟩ : Str) = mkS [c] := rfl
  rw [ec]
  rw [eqv_int]
  refine i_ite (fun c0 => ?_) fun c0 => ?_
  · symm_saturate
    refine i_slS (by rw [mkS_len]; omega) ?_
    rw [cut_to _ hsp0]
    symm_saturate
    refine Eq.mpr e_add2 ⟨by rw [mkS_len, mkS_len]; simp; omega, ?_⟩
    rw [mkS_app]
    symm_saturate
    refine i_slS (by rw [mkS_len]; omega) ?_
    rw [cut_fromI _ hsp0]
    symm_saturate
    refine Eq.mpr e_add2 ⟨by rw [mkS_len, mkS_len]; simp; omega, ?_⟩
    rw [mkS_app]
    exact ⟨p4, rfl, h _ p4 (ins_OT hW1 hW2 (by simp) _ _ (Nat.le_refl _)) (hP4.mono (by omega))⟩
  · symm_saturate
    refine Eq.mpr e_eq ⟨by simp [PyData.depth], ?_⟩
    symm_saturate
    rw [eqv_int]
    refine i_ite (fun c1 => ?_) fun c1 => ?_
    · symm_saturate
      refine i_slS (by rw [mkS_len]; omega) ?_
      rw [cut_to _ hsp0]
      symm_saturate
      refine i_slS (by rw [mkS_len]; omega) ?_
      rw [cut_fromI _ (by omega)]
      symm_saturate
      refine Eq.mpr e_add2 ⟨by rw [mkS_len, mkS_len]; simp; omega, ?_⟩
      rw [mkS_app]
      have := ins_OT (s := []) hW1 hW2 (by simp) sp.toNat (sp + 1).toNat (by omega)
      rw [List.append_nil] at this
      exact ⟨p4, rfl, h _ p4 this (hP4.mono (by omega))⟩
    · symm_saturate
      refine Eq.mpr e_eq ⟨by simp [PyData.depth], ?_⟩
      symm_saturate
      rw [eqv_int]
      refine i_ite (fun c2 => ?_) fun c2 => ?_
      · symm_saturate
        refine i_slS (by rw [mkS_len]; omega) ?_
        rw [cut_to _ hsp0]
        symm_saturate
        refine Eq.mpr e_add2 ⟨by rw [mkS_len, mkS_len]; simp; omega, ?_⟩
        rw [mkS_app]
        symm_saturate
        refine i_slS (by rw [mkS_len]; omega) ?_
        rw [cut_fromI _ (by omega)]
        symm_saturate
        refine Eq.mpr e_add2 ⟨by rw [mkS_len, mkS_len]; simp; omega, ?_⟩
        rw [mkS_app]
        exact ⟨p4, rfl, h _ p4 (ins_OT hW1 hW2 (by simp) _ _ (by omega)) (hP4.mono (by omega))⟩
      · symm_saturate
        refine Eq.mpr e_eq ⟨by simp [PyData.depth], ?_⟩
        symm_saturate
        rw [eqv_int]
        refine i_ite (fun c3 => ?_) fun c3 => ?_
        · symm_saturate
          refine ⟨B, W, hP4.mono (by omega), rfl, hW1, hW2, fun t p5 ht hP5 => ?_⟩
          exact ⟨p5, rfl, h t p5 ht hP5⟩
        · symm_saturate
          refine Eq.mpr e_in2 ⟨by simp [PyData.depth, PyData.depthAll], ?_⟩
          symm_saturate
          refine i_ite (fun c4 => ?_) fun c4 => ?_
          · have hway : way = 4 ∨ way = 5 := by
              rw [if_neg (by decide)] at c4
              simp [inD, eqv_int] at c4
              omega
            exact swap_ok h hw0 hW1 hW2 hway hP4
          · symm_saturate
            exact ⟨p4, rfl, h W p4 ⟨by omega, by omega⟩ (hP4.mono (by omega))⟩
end
end K55

namespace K55
open PySem PySem.Spec PyProof.Rows L2 TL DL
section
local macro_rules | `(tactic| symm_saturate) => `(tactic| repeat (first
  | with_reducible refine x_seq ?_
  | with_reducible refine x_next ?_
  | with_reducible refine x_ret ?_
  | with_reducible refine x_retN ?_
  | with_reducible refine x_drop ?_
  | with_reducible refine x_ifS ?_
  | with_reducible refine x_gname ?_
  | with_reducible refine i_gnil ?_
  | with_reducible refine x_gcons ?_
  | with_reducible refine x_asg ?_
  | with_reducible refine x_set ?_
  | with_reducible refine x_setO ?_
  | with_reducible refine x_par ?_
  | with_reducible refine x_parVN ?_
  | with_reducible refine x_parNV ?_
  | with_reducible refine x_rng1 ?_
  | with_reducible refine x_rng2 ?_
  | with_reducible refine x_for ?_
  | with_reducible refine x_lc ?_
  | with_reducible refine x_yes ?_
  | with_reducible refine x_c ?_
  | with_reducible refine x_op ?_
  | with_reducible refine x_un ?_
  | with_reducible refine x_add1 ?_
  | with_reducible refine x_I0 ?_
  | with_reducible refine x_B0 ?_
  | with_reducible refine x_neg ?_
  | with_reducible refine x_isN ?_
  | with_reducible refine x_tru ?_
  | with_reducible refine x_truB ?_
  | with_reducible refine x_and ?_
  | with_reducible refine x_or ?_
  | with_reducible refine x_not ?_
  | with_reducible refine x_if ?_
  | with_reducible refine x_nil ?_
  | with_reducible refine x_cons ?_
  | with_reducible refine x_tup ?_
  | with_reducible refine x_lst ?_
  | with_reducible refine x_frz ?_
  | with_reducible refine x_newL ?_
  | with_reducible refine x_noP ?_
  | with_reducible refine x_CB ?_
  | with_reducible refine x_abs ?_
  | with_reducible refine x_max2 ?_
  | with_reducible refine x_min2 ?_
  | with_reducible refine x_int1 ?_
  | with_reducible refine x_int2 ?_
  | with_reducible refine x_len ?_
  | with_reducible refine x_lenD1 ?_
  | with_reducible refine x_lenD2 ?_
  | with_reducible refine x_fmt ?_
  | with_reducible refine x_call ?_
  | with_reducible refine x_raise ?_
  | with_reducible refine x_callX ?_
  | with_reducible refine x_rngL ?_
  | with_reducible refine i_nx ?_
  | with_reducible refine i_rt ?_
  | with_reducible refine i_ct ?_
  | with_reducible refine i_bk ?_
  | with_reducible refine x_isi ?_
  | with_reducible refine x_joined ?_
  | with_reducible refine x_jnil ?_
  | with_reducible refine x_jcons ?_
  | with_reducible refine x_fmtS ?_
  | with_reducible refine x_fmtI ?_
  | with_reducible refine i_mB ?_
  | with_reducible refine i_mI ?_
  | with_reducible refine i_mS ?_
  | with_reducible refine i_mL ?_
  | with_reducible refine i_mLT1 ?_
  | with_reducible refine i_mLT2 ?_
  | with_reducible refine i_mTL1 ?_
  | with_reducible refine i_mTL2 ?_
  | with_reducible refine i_mLL ?_
  | with_reducible refine i_mT ?_
  | with_reducible refine i_mF ?_
  | with_reducible refine i_itT ?_
  | with_reducible refine i_itF ?_
  | with_reducible refine i_test ?_
  | with_reducible refine i_itL ?_
  | with_reducible refine i_itS ?_
  | with_reducible refine i_part ?_
  | with_reducible refine i_sl ?_
  | with_reducible refine i_slD ?_
  | with_reducible refine i_slL ?_
  | with_reducible refine i_listOf ?_
  | with_reducible refine i_catN ?_
  | with_reducible refine i_chain ?_
  | with_reducible refine i_andV ?_
  | with_reducible refine i_orV ?_
  | with_reducible refine i_notV ?_
  | with_reducible refine i_split ?_
  | with_reducible refine i_m1 ?_
  | with_reducible refine i_star ?_
  | with_reducible refine i_callS ?_
  | with_reducible refine i_repl ?_
  | with_reducible refine i_putIx ?_
  | ((with_reducible apply i_gtup); exact rfl)
  | ((with_reducible apply i_len); exact rfl)
  | ((with_reducible apply i_varG); exact rfl)
  | ((with_reducible apply i_lenG); exact rfl)
  | ((with_reducible apply i_ixG); exact rfl)
  | with_reducible refine i_vSv ?_
  | with_reducible refine i_vSo ?_
  | with_reducible refine i_lSv ?_
  | with_reducible refine i_lSo ?_
  | with_reducible refine i_xSv ?_
  | with_reducible refine i_xSo ?_
  | ((with_reducible apply i_aug); exact rfl)
  | ((with_reducible apply i_app); exact rfl)
  | ((with_reducible apply i_mO); exact rfl)
  | ((with_reducible apply i_callP); exact rfl)
  | ((with_reducible apply i_popAt); exact rfl)))
theorem effT_OT {n : Int} {gs : List Int} (he : isEff n gs = true) (hn : n ≤ 10) (hg : gs.length ≤ 10) : (effT n gs).count 40 ≤ 28 ∧ (effT n gs).length ≤ 20000 := by
  have he' : 0 ≤ n ∧ ∀ g ∈ gs, 1 ≤ g ∧ g ≤ n := by simpa [isEff] using he
  have hj := joinL_cnt 40 [32] (numL n.toNat :: [124] :: gs.map fun g => numL g.toNat)
  have hl := joinL_lenS [32] (numL n.toNat :: [124] :: gs.map fun g => numL g.toNat)
  have hs : ∀ g : Int, 0 ≤ g → g ≤ 10 → (numL g.toNat).length ≤ 40 ∧ (numL g.toNat).count 40 = 0 := fun g h1 h2 => ⟨numL_short (Nat.lt_of_lt_of_le (m := 11) (by omega) (by decide)), List.count_eq_zero.mpr (numL_free (by omega))⟩
  have h0 := hs n he'.1 hn
  have k1 : ((gs.map fun g => numL g.toNat).map List.length).sum ≤ gs.length * 40 := by
    have := sum_le List.length 40 (gs.map fun g => numL g.toNat) (by
      intro x hx
      obtain ⟨g, hg', rfl⟩ := List.mem_map.mp hx
      have := he'.2 g hg'
      exact (hs g (by omega) (by omega)).1)
    simpa using this
  have k2 : ((gs.map fun g => numL g.toNat).map (List.count 40)).sum ≤ gs.length * 0 := by
    have := sum_le (List.count 40) 0 (gs.map fun g => numL g.toNat) (by
      intro x hx
      obtain ⟨g, hg', rfl⟩ := List.mem_map.mp hx
      have := he'.2 g hg'
      exact Nat.le_of_eq (hs g (by omega) (by omega)).2)
    simpa using this
  have e1 : List.count 40 [32] = 0 := rfl
  have e2 : List.count 40 [124] = 0 := rfl
  unfold effT
  simp only [List.map_cons, List.sum_cons, List.length_cons, List.length_nil, List.length_map, e1, e2, Nat.mul_zero, Nat.add_zero] at hj hl k1 k2
  omega
theorem phT_OT {ph : List Stp} (hl : ph.length ≤ 4) (h : ∀ s ∈ ph, SG 3 s) : (phT ph).count 40 ≤ 28 ∧ (phT ph).length ≤ 20000 ∧ phN ph ≤ 3 ∧ phOk ph := by
  have hj := joinL_cnt 40 [32] (phTs ph)
  have hl2 := joinL_lenS [32] (phTs ph)
  have e0 : (phTs ph).length = ph.length := by rw [phTs_map]; simp
  have k1 : ((phTs ph).map List.length).sum ≤ (phTs ph).length * (100 * 3 ^ 3) := sum_le List.length _ (phTs ph) (by
    intro x hx
    rw [phTs_map] at hx
    obtain ⟨s, hs, rfl⟩ := List.mem_map.mp hx
    exact (h s hs).2.2.1)
  have k2 : ((phTs ph).map (List.count 40)).sum ≤ (phTs ph).length * 7 := sum_le (List.count 40) 7 (phTs ph) (by
    intro x hx
    rw [phTs_map] at hx
    obtain ⟨s, hs, rfl⟩ := List.mem_map.mp hx
    have := (h s hs).2.2.2
    omega)
  have e1 : List.count 40 [32] = 0 := rfl
  rw [e1] at hj
  unfold phT
  simp only [List.length_cons, List.length_nil, Nat.mul_zero, Nat.add_zero] at hj hl2
  refine ⟨by omega, by omega, phN_all fun s hs => (h s hs).1, phOk_all fun s hs => (h s hs).2.1⟩
theorem iL_plain (xs : List Int) : PyData.plainAll (iL xs) = true := by
  induction xs with
  | nil => rfl
  | cons x xs ih => simp [PyData.plainAll, PyData.plain, ih]
theorem effL_self (o : Option (Int × List Int)) : PyData.eqv (.list (effL o)) (.list (effL o)) = true ∧ (PyData.list (effL o)).depth ≤ 128 := by
  cases o with
  | none => exact ⟨rfl, by simp [effL, PyData.depth, PyData.depthAll]⟩
  | some x =>
    obtain ⟨n, gs⟩ := x
    refine ⟨PySem.SeqAt.eqv_refl_plain _ ?_, ?_⟩
    · simp [effL, PyData.plain, PyData.plainAll, iL_plain]
    · have := depth_iL gs
      simp [effL, PyData.depth, PyData.depthAll]; omega
theorem phL_self {l : List Nat} (h : l.count 40 ≤ 50) : PyData.eqv (.list (phL (parse l))) (.list (phL (parse l))) = true ∧ (PyData.list (phL (parse l))).depth ≤ 128 := by
  cases hp : parse l with
  | none => exact ⟨rfl, by simp [phL, PyData.depth, PyData.depthAll]⟩
  | some p =>
    have ok := (parse_ok hp).n
    refine ⟨PySem.SeqAt.eqv_refl_plain _ ?_, ?_⟩
    · simp [phL, PyData.plain, PyData.plainAll, phD_plain]
    · have := phD_depth p
      simp [phL, PyData.depth, PyData.depthAll]; omega
def sp_right : SpdP := fun pds ds Q => ∃ B : Nat, Pu (B + 5000) pds ∧ ds = [] ∧ ∀ pds', Pu B pds' → Q (.bool true) pds'
theorem pl_right : LawP nn__law_right sp_right (d__law_right (sp_caught_one 51) (sp_law_phrase_of 51) sp_law_effect_of sp_marred_one sp_coin (sp_law_phrase_text 4) (sp_drawn_phrase 3) sp_law_effect_text sp_drawn_effect sp_words) := by
  rintro ad pds ds Q ⟨B, hP, rfl, h⟩
  have hb := sizeLine_big
  have hC : Cc 3 = 1700 := rfl
  unfold d__law_right
  symm_saturate
  refine ⟨B + 4000, hP.mono (by omega), rfl, fun ws p1 hws hwT hP1 => ?_⟩
  symm_saturate
  refine ⟨B + 3900, hP1.mono (by omega), rfl, fun n gs p2 he hn hg hP2 => ?_⟩
  symm_saturate
  refine ⟨n, gs, rfl, by omega, by omega, he, ?_⟩
  symm_saturate
  refine ⟨B + 2000, 4, ws, hP2.mono (by rw [hC]; omega), rfl, by omega, hws, hwT, fun ph p3 hph hSG hP3 => ?_⟩
  have hO := phT_OT hph hSG
  have hE := effT_OT he hn hg
  symm_saturate
  refine ⟨ph, rfl, by omega, hO.2.2.2, by omega, ?_⟩
  symm_saturate
  refine ⟨by simp; omega, ?_⟩
  symm_saturate
  refine ⟨8, rfl, by omega, ?_⟩
  refine forL_ind (fun rest m => ∃ (p : List D) (x3 x4 : Sl), Pu (B + 30 * rest.length) p ∧ m = [Sl.own (some ad) p, Sl.val (.list (ws.map fun l => PyData.str (mkS l))), Sl.own none [.str (mkS (effT n gs)), .str (mkS (phT ph))], x3, x4]) ?_ ?_ _ _ ⟨p3, Sl.non, Sl.non, hP3.mono (by rw [rngD_len]; omega), rfl⟩
  · rintro m ⟨p, x3, x4, hp, rfl⟩
    symm_saturate
    exact ⟨p, rfl, h p (hp.mono (by omega))⟩
  · rintro d rest m K ⟨p, x3, x4, hp, rfl⟩ hK
    simp only [List.length_cons] at hp
    symm_saturate
    refine ⟨B + 30 * rest.length + 29, 2, hp.mono (by omega), rfl, by omega, by omega, fun r p4 hr0 hr1 hP4 => ?_⟩
    symm_saturate
    obtain ⟨x, hx, hat⟩ := atI_mem (xs := [PyData.str (mkS (effT n gs)), PyData.str (mkS (phT ph))]) hr0 hr1
    refine ⟨r, x, rfl, hat, ?_⟩
    have hxW : ∃ W : List Nat, x = .str (mkS W) ∧ W.count 40 ≤ 28 ∧ W.length ≤ 20000 := by
      simp at hx
      rcases hx with rfl | rfl
      · exact ⟨_, rfl, hE.1, hE.2⟩
      · exact ⟨_, rfl, hO.1, hO.2.1⟩
    obtain ⟨W, rfl, hW1, hW2⟩ := hxW
    symm_saturate
    refine ⟨B + 30 * rest.length, W, hP4.mono (by omega), rfl, hW1, hW2, fun t p5 ht hP5 => ?_⟩
    have ht1 := ht.1
    have ht2 := ht.2
    symm_saturate
    refine ⟨by rw [mkS_len]; omega, ?_⟩
    symm_saturate
    have next : K [Sl.own (some ad) p5, Sl.val (.list (ws.map fun l => PyData.str (mkS l))), Sl.own none [.str (mkS (effT n gs)), .str (mkS (phT ph))], Sl.val d, Sl.val (.str (mkS t))] := hK _ ⟨p5, _, _, hP5, rfl⟩
    have second : dIfS (dAnd (dTest (dOp (rdB0 fun i j => decide (i ≤ j)) (dLenN 4) (dC (.int 3000)))) (dTest (dOp rdNe (dCall (sp_caught_one 51) (dCons (dVar 4) (dCons (dC (.int 1)) dNil))) (dCall (sp_law_phrase_of 51) (dCons (dVar 4) dNil)))))
        ((dRet (dC (.bool false))))
        (dNext) { nx := K, rt := fun d n => ∃ p', n[0]? = some (Sl.own (some ad) p') ∧ Q d p', ct := K, bk := fun n => dRet (dC (.bool true)) { nx := fun n => ∃ p', n[0]? = some (Sl.own (some ad) p') ∧ Q .none p', rt := fun d n => ∃ p', n[0]? = some (Sl.own (some ad) p') ∧ Q d p' } n } [Sl.own (some ad) p5, Sl.val (.list (ws.map fun l => PyData.str (mkS l))), Sl.own none [.str (mkS (effT n gs)), .str (mkS (phT ph))], Sl.val d, Sl.val (.str (mkS t))] := by
      symm_saturate
      refine ⟨by rw [mkS_len]; omega, ?_⟩
      symm_saturate
      refine i_ite (fun c1 => ?_) fun c1 => ?_
      · have hs : t.length ≤ 3000 := by simp only [decide_eq_true_eq, mkS_len] at c1; omega
        have hself := phL_self (l := t) (by omega)
        symm_saturate
        refine ⟨t, 1, rfl, by omega, by omega, ?_⟩
        symm_saturate
        refine ⟨t, rfl, by omega, by omega, ?_⟩
        symm_saturate
        rw [if_neg (by decide)]
        refine Eq.mpr e_ne ⟨by have := hself.2; omega, ?_⟩
        symm_saturate
        rw [hself.1]
        refine i_itF ?_
        symm_saturate
        exact next
      · symm_saturate
        exact next
    refine i_ite (fun c1 => ?_) fun c1 => ?_
    · have hs : t.length ≤ 3000 := by simp only [decide_eq_true_eq, mkS_len] at c1; omega
      have hself := effL_self (effF t)
      symm_saturate
      refine ⟨t, 0, rfl, by omega, by omega, ?_⟩
      symm_saturate
      refine ⟨t, rfl, by omega, ?_⟩
      symm_saturate
      rw [if_pos rfl]
      refine Eq.mpr e_ne ⟨by have := hself.2; omega, ?_⟩
      symm_saturate
      rw [hself.1]
      refine i_itF ?_
      refine x_next ?_
      refine i_nx ?_
      exact second
    · refine i_itF ?_
      refine x_next ?_
      refine i_nx ?_
      exact second
/-! ### the purse and the law, that read the script -/
abbrev st__law_purse : Stmt := topS 29
abbrev nn__law_purse : List Str := ["_law_script", "_law_place", "_law_cell"]
theorem sc__law_purse : FnScope nn__law_purse ["_law_script", "_law_place"] (defScope st__law_purse) := ⟨rfl, rfl, rfl, by decide +kernel, rfl, by decide +kernel, by decide +kernel⟩
def d__law_purse (a : Addr) (ns : List Int) : TSd :=
    (dSeq (dSet 2 (dIf (dTest (dOp (rdB0 fun i j => decide (i < j)) (dVar 1) (dLenR 0 a ns))) (dIxR 0 a ns (dVar 1)) (dC (.int 0))))
    (dRet (dFrz (dNewL (dCons (dCB rdMax2 (dCons (dC (.int 0)) (dCons (dOp (rdI0 fun i j => i - j) (dCB rdAbs (dCons (dVar 2) dNil)) (dOp (rdI CPowW fun i j => i ^ j.toNat) (dC (.int 10)) (dC (.int 18)))) dNil))) (dCons (dOp (rdI (fun _ j => j ≠ 0) fun i j => i.fmod j) (dCB rdInt (dCons (dOp rdAdd (dOp rdAdd (dOp rdMul (dVar 2) (dC (.int 30011))) (dOp rdMul (dVar 1) (dC (.int 7368787)))) (dC (.int 104729))) dNil)) (dOp rdAdd (dOp (rdI CPowW fun i j => i ^ j.toNat) (dC (.int 10)) (dC (.int 24))) (dC (.int 7)))) (dCons (dC (.int 0)) dNil)))))))
theorem bd__law_purse {P : Program} {w : World} {K : PySem.W.Frag} {mg : Str → Option Value} {base : Heap} {ea : Str → Addr} {k : Nat} {f : Addr} {a : Addr} {ns : List Int} (T : Mgs K mg ea) (cdv : Value) (A : Around) (outer : List Env) (s : Shared) (H : Hp) (E : XK) (hr : Room k (A.deeper (envOfC "_law_purse" (defScope st__law_purse) s.heap.objs.size f cdv))) :
    PSsd (cxOf CX0 P w K mg base nn__law_purse "_law_purse" (defScope st__law_purse) f cdv A outer s H E).nox (GScr K a ns) (defBody st__law_purse) (d__law_purse a ns) :=
  (psd_cons (psd_set 2 sc__law_purse.nd (pd_if (pdt_lt (pdv 1) (pd_lenR 0 T.m_len)) (pd_ixR 0 (pdv 1)) pd_int))
      (psd_one (psd_ret (pd_lst (pad_cons (pd_max2 T.m_max rfl (pad_cons pd_int (pad_cons (pd_sub (pd_abs T.m_abs (pdv 2)) (pd_pow pd_int pd_int)) pad_nil))) (pad_cons (pd_mod (pd_intc T.m_int (pd_add (pd_add (pd_mul (pdv 2) pd_int) (pd_mul (pdv 1) pd_int)) pd_int)) (pd_add (pd_pow pd_int pd_int) pd_int)) (pad_cons pd_int pad_nil)))))))
def sdPurse : Int → (List Int → Prop) → Prop := fun i Q => 0 ≤ i ∧ ∀ x b : Int, 0 ≤ b → b ≤ 10 ^ 25 → Q [x, b, 0]
theorem pl_purse (a : Addr) (ns : List Int) (i : Int) (Qd : List Int → Prop) (h : sdPurse i Qd) : d__law_purse a ns { nx := fun _ => False, rt := fun d _ => ∃ zs, d = .list (iL zs) ∧ Qd zs } (startN nn__law_purse [Sl.raw (.ref a), Sl.val (.int i)]) := by
  obtain ⟨h0, h⟩ := h
  have fin : ∀ c : Int, dRet (dFrz (dNewL (dCons (dCB rdMax2 (dCons (dC (.int 0)) (dCons (dOp (rdI0 fun i j => i - j) (dCB rdAbs (dCons (dVar 2) dNil)) (dOp (rdI CPowW fun i j => i ^ j.toNat) (dC (.int 10)) (dC (.int 18)))) dNil))) (dCons (dOp (rdI (fun _ j => j ≠ 0) fun i j => i.fmod j) (dCB rdInt (dCons (dOp rdAdd (dOp rdAdd (dOp rdMul (dVar 2) (dC (.int 30011))) (dOp rdMul (dVar 1) (dC (.int 7368787)))) (dC (.int 104729))) dNil)) (dOp rdAdd (dOp (rdI CPowW fun i j => i ^ j.toNat) (dC (.int 10)) (dC (.int 24))) (dC (.int 7)))) (dCons (dC (.int 0)) dNil))))) { nx := fun _ => False, rt := fun d _ => ∃ zs, d = .list (iL zs) ∧ Qd zs } [Sl.raw (.ref a), Sl.val (.int i), Sl.val (.int c)] := by
    intro c
    symm_saturate
    refine x_I (pow_ok (by omega) (by omega) (by omega)) ?_
    symm_saturate
    refine Eq.mpr e_mul ⟨.inr (by omega), ?_⟩
    symm_saturate
    refine Eq.mpr e_mul ⟨.inr (by omega), ?_⟩
    symm_saturate
    refine x_I (pow_ok (by omega) (by omega) (by omega)) ?_
    symm_saturate
    have t2 : (10 : Int) ^ (24 : Int).toNat + 7 = 1000000000000000000000007 := by decide
    rw [t2]
    refine x_I (by omega) ?_
    symm_saturate
    have hf := fmod_in (c * 30011 + i * 7368787 + 104729) (m := 1000000000000000000000007) (by omega)
    exact ⟨[_, _, 0], rfl, h _ _ hf.1 (by omega)⟩
  unfold d__law_purse
  refine x_seq (x_set ?_)
  refine Eq.mpr e_if ?_
  symm_saturate
  refine ⟨rfl, ?_⟩
  symm_saturate
  refine i_ite (fun c1 => ?_) fun c1 => ?_
  · have c1' : i < ns.length := by simpa using c1
    refine ⟨rfl, ?_⟩
    symm_saturate
    obtain ⟨z, _, hz⟩ := atI_mem (xs := ns) h0 c1'
    refine ⟨i, z, rfl, hz, ?_⟩
    exact fin z
  · symm_saturate
    exact fin 0
abbrev st_law : Stmt := topS 47
abbrev nn_law : List Str := ["_law_script", "_law_spot", "_law_purse_here", "_law_turn"]
theorem sc_law : FnScope nn_law ["_law_script"] (defScope st_law) := ⟨rfl, rfl, rfl, by decide +kernel, rfl, by decide +kernel, by decide +kernel⟩
def d_law (_law_right : SpdP) (a : Addr) (ns : List Int) : TSd :=
    (dSeq (dFor (dRng1 (dCB rdMax2 (dCons (dC (.int 1)) (dCons (dCB rdMin2 (dCons (dC (.int 6)) (dCons (dLenR 0 a ns) dNil))) dNil)))) (gdName 1)
    ((dSeq (dSetO 2 (dCallR 0 a sdPurse (dVar 1)))
    (dFor (dRng1 (dC (.int 2))) (gdName 3)
    ((dIfS (dNot (dTru (dCallP 2 _law_right dNil)))
    ((dRet (dC (.bool false))))
    (dNext)))))))
    (dRet (dC (.bool true))))
theorem bd_law {P : Program} {w : World} {K : PySem.W.Frag} {mg : Str → Option Value} {base : Heap} {ea : Str → Addr} {k : Nat} {f : Addr} {_law_right : SpdP} {a : Addr} {ns : List Int} (T : Mgs K mg ea) (c__law_right : CalP P w K mg base "_law_right" k ["_law_purse_here"] _law_right) (c__law_purse : Cal P w K mg base CX0 "_law_purse" k ["_law_script", "_law_place"] (spN K ns sdPurse)) (cdv : Value) (A : Around) (outer : List Env) (s : Shared) (H : Hp) (E : XK) (hr : Room k (A.deeper (envOfC "law" (defScope st_law) s.heap.objs.size f cdv))) :
    PSsd (cxOf CX0 P w K mg base nn_law "law" (defScope st_law) f cdv A outer s H E).nox (GScr K a ns) (defBody st_law) (d_law _law_right a ns) :=
  (psd_cons (psd_for PassesOwn.never rfl (pid_rng1 T.m_range (pd_max2 T.m_max rfl (pad_cons pd_int (pad_cons (pd_min2 T.m_min rfl (pad_cons pd_int (pad_cons (pd_lenR 0 T.m_len) pad_nil))) pad_nil)))) (pgd_name 1 sc_law.nd) (psd_cons (psd_setO 2 sc_law.nd (pn_callR 0 c__law_purse hr (pdv 1)))
      (psd_one (psd_for PassesOwn.never rfl (pid_rng1 T.m_range pd_int) (pgd_name 3 sc_law.nd) (psd_one (psd_if (pdt_not (pdt_tru (pd_callP 2 c__law_right hr pad_nil))) (psd_one (psd_ret pd_bl)) psd_nil))))))
      (psd_one (psd_ret pd_bl)))
theorem pl_law (a : Addr) (ns : List Int) (hl : ns.length ≤ 100) : d_law sp_right a ns { nx := fun _ => False, rt := fun d _ => d = .bool true } (startN nn_law [Sl.raw (.ref a)]) := by
  unfold d_law
  symm_saturate
  refine ⟨rfl, ?_⟩
  symm_saturate
  refine ⟨_, rfl, by split <;> split <;> omega, ?_⟩
  refine forL_ind (fun rest m => (∀ r ∈ rest, ∃ k : Int, r = .int k ∧ 0 ≤ k) ∧ ∃ x1 x2 x3, m = [Sl.raw (.ref a), x1, x2, x3]) ?_ ?_ _ _ ⟨fun r hr => by obtain ⟨k, e, h0, _⟩ := rngD_mem hr; exact ⟨k, e, h0⟩, Sl.non, Sl.non, Sl.non, rfl⟩
  · rintro m ⟨_, x1, x2, x3, rfl⟩
    symm_saturate
    rfl
  · rintro d rest m K ⟨hr, x1, x2, x3, rfl⟩ hK
    obtain ⟨k, rfl, hk⟩ := hr d (by simp)
    symm_saturate
    refine ⟨rfl, ?_⟩
    symm_saturate
    refine ⟨k, rfl, hk, fun x b hb0 hb1 => ?_⟩
    symm_saturate
    refine ⟨2, rfl, by omega, ?_⟩
    refine forL_ind (fun rest m => ∃ p x3, Pu (10000 * rest.length) p ∧ m = [Sl.raw (.ref a), Sl.val (.int k), Sl.own none p, x3]) ?_ ?_ _ _ ⟨_, x3, ⟨x, b, 0, rfl, hb0, hb1, by omega, by rw [rngD_len]; omega⟩, rfl⟩
    · rintro m ⟨p, x3, _, rfl⟩
      symm_saturate
      exact hK _ ⟨fun r h => hr r (by simp [h]), _, _, _, rfl⟩
    · rintro d2 rest2 m K2 ⟨p, x3, hp, rfl⟩ hK2
      simp only [List.length_cons] at hp
      symm_saturate
      refine ⟨10000 * rest2.length, hp.mono (by omega), rfl, fun p2 hp2 => ?_⟩
      symm_saturate
      refine i_itF ?_
      symm_saturate
      exact hK2 _ ⟨p2, _, hp2, rfl⟩
end
end K55

namespace K55
open PySem PySem.Spec PyProof.Rows L2 DL
def initS : Stmt := match topS 1 with
  | .ClassDef _ _ _ body _ _ _ _ _ _ _ => body.getD 0 (.Pass ⟨0, 0, 0, 0⟩)
  | x => x
def dd_is_effect : He.DefD := ⟨("is_effect", none), "is_effect", "is_effect", defArgs (topS 7), defBody (topS 7), defScope (topS 7), [], []⟩
def dd_least_of : He.DefD := ⟨("least_of", none), "least_of", "least_of", defArgs (topS 8), defBody (topS 8), defScope (topS 8), [], []⟩
def dd_checked : He.DefD := ⟨("checked", none), "checked", "checked", defArgs (topS 9), defBody (topS 9), defScope (topS 9), [], []⟩
def dd_least : He.DefD := ⟨("least", none), "least", "least", defArgs (topS 10), defBody (topS 10), defScope (topS 10), [], []⟩
def dd_show_effect : He.DefD := ⟨("show_effect", none), "show_effect", "show_effect", defArgs (topS 12), defBody (topS 12), defScope (topS 12), [], []⟩
def dd_show_step : He.DefD := ⟨("show_step", none), "show_step", "show_step", defArgs (topS 13), defBody (topS 13), defScope (topS 13), [], []⟩
def dd_show_phrase : He.DefD := ⟨("show_phrase", none), "show_phrase", "show_phrase", defArgs (topS 14), defBody (topS 14), defScope (topS 14), [], []⟩
def dd_number_in : He.DefD := ⟨("number_in", none), "number_in", "number_in", defArgs (topS 19), defBody (topS 19), defScope (topS 19), [], []⟩
def dd_effect_in : He.DefD := ⟨("effect_in", none), "effect_in", "effect_in", defArgs (topS 20), defBody (topS 20), defScope (topS 20), [], []⟩
def dd_is_title : He.DefD := ⟨("is_title", none), "is_title", "is_title", defArgs (topS 21), defBody (topS 21), defScope (topS 21), [], []⟩
def dd_closing_place : He.DefD := ⟨("closing_place", none), "closing_place", "closing_place", defArgs (topS 22), defBody (topS 22), defScope (topS 22), [], []⟩
def dd_long_step : He.DefD := ⟨("long_step", none), "long_step", "long_step", defArgs (topS 23), defBody (topS 23), defScope (topS 23), [], []⟩
def dd_step_at : He.DefD := ⟨("step_at", none), "step_at", "step_at", defArgs (topS 24), defBody (topS 24), defScope (topS 24), [], []⟩
def dd_phrase_in : He.DefD := ⟨("phrase_in", none), "phrase_in", "phrase_in", defArgs (topS 25), defBody (topS 25), defScope (topS 25), [], []⟩
def dd_read_effect : He.DefD := ⟨("read_effect", none), "read_effect", "read_effect", defArgs (topS 26), defBody (topS 26), defScope (topS 26), [], []⟩
def dd_read_phrase : He.DefD := ⟨("read_phrase", none), "read_phrase", "read_phrase", defArgs (topS 27), defBody (topS 27), defScope (topS 27), [], []⟩
def dd__law_purse : He.DefD := ⟨("_law_purse", none), "_law_purse", "_law_purse", defArgs (topS 29), defBody (topS 29), defScope (topS 29), [], []⟩
def dd__law_coin : He.DefD := ⟨("_law_coin", none), "_law_coin", "_law_coin", defArgs (topS 30), defBody (topS 30), defScope (topS 30), [], []⟩
def dd__law_words : He.DefD := ⟨("_law_words", none), "_law_words", "_law_words", defArgs (topS 31), defBody (topS 31), defScope (topS 31), [], []⟩
def dd__law_least : He.DefD := ⟨("_law_least", none), "_law_least", "_law_least", defArgs (topS 32), defBody (topS 32), defScope (topS 32), [], []⟩
def dd__law_drawn_effect : He.DefD := ⟨("_law_drawn_effect", none), "_law_drawn_effect", "_law_drawn_effect", defArgs (topS 33), defBody (topS 33), defScope (topS 33), [], []⟩
def dd__law_drawn_phrase : He.DefD := ⟨("_law_drawn_phrase", none), "_law_drawn_phrase", "_law_drawn_phrase", defArgs (topS 34), defBody (topS 34), defScope (topS 34), [], []⟩
def dd__law_effect_text : He.DefD := ⟨("_law_effect_text", none), "_law_effect_text", "_law_effect_text", defArgs (topS 35), defBody (topS 35), defScope (topS 35), [], []⟩
def dd__law_phrase_text : He.DefD := ⟨("_law_phrase_text", none), "_law_phrase_text", "_law_phrase_text", defArgs (topS 36), defBody (topS 36), defScope (topS 36), [], []⟩
def dd__law_number_of : He.DefD := ⟨("_law_number_of", none), "_law_number_of", "_law_number_of", defArgs (topS 37), defBody (topS 37), defScope (topS 37), [], []⟩
def dd__law_is_title : He.DefD := ⟨("_law_is_title", none), "_law_is_title", "_law_is_title", defArgs (topS 38), defBody (topS 38), defScope (topS 38), [], []⟩
def dd__law_effect_of : He.DefD := ⟨("_law_effect_of", none), "_law_effect_of", "_law_effect_of", defArgs (topS 39), defBody (topS 39), defScope (topS 39), [], []⟩
def dd__law_close : He.DefD := ⟨("_law_close", none), "_law_close", "_law_close", defArgs (topS 40), defBody (topS 40), defScope (topS 40), [], []⟩
def dd__law_head : He.DefD := ⟨("_law_head", none), "_law_head", "_law_head", defArgs (topS 41), defBody (topS 41), defScope (topS 41), [], []⟩
def dd__law_phrase_of : He.DefD := ⟨("_law_phrase_of", none), "_law_phrase_of", "_law_phrase_of", defArgs (topS 42), defBody (topS 42), defScope (topS 42), [], []⟩
def dd__law_caught_one : He.DefD := ⟨("_law_caught_one", none), "_law_caught_one", "_law_caught_one", defArgs (topS 43), defBody (topS 43), defScope (topS 43), [], []⟩
def dd__law_odd_one : He.DefD := ⟨("_law_odd_one", none), "_law_odd_one", "_law_odd_one", defArgs (topS 44), defBody (topS 44), defScope (topS 44), [], []⟩
def dd__law_marred_one : He.DefD := ⟨("_law_marred_one", none), "_law_marred_one", "_law_marred_one", defArgs (topS 45), defBody (topS 45), defScope (topS 45), [], []⟩
def dd__law_right : He.DefD := ⟨("_law_right", none), "_law_right", "_law_right", defArgs (topS 46), defBody (topS 46), defScope (topS 46), [], []⟩
def dd_law : He.DefD := ⟨("law", none), "law", "law", defArgs (topS 47), defBody (topS 47), defScope (topS 47), [], []⟩
def dd_init : He.DefD := ⟨("PileError", some "__init__"), "__init__", "PileError.__init__", defArgs initS, defBody initS, defScope initS, [], []⟩
def fnD : List He.DefD := [dd_is_effect, dd_least_of, dd_checked, dd_least, dd_show_effect, dd_show_step, dd_show_phrase, dd_number_in, dd_effect_in, dd_is_title, dd_closing_place, dd_long_step, dd_step_at, dd_phrase_in, dd_read_effect, dd_read_phrase, dd__law_purse, dd__law_coin, dd__law_words, dd__law_least, dd__law_drawn_effect, dd__law_drawn_phrase, dd__law_effect_text, dd__law_phrase_text, dd__law_number_of, dd__law_is_title, dd__law_effect_of, dd__law_close, dd__law_head, dd__law_phrase_of, dd__law_caught_one, dd__law_odd_one, dd__law_marred_one, dd__law_right, dd_law, dd_init]
def fa0 : List He.Fa := [.glo "is_effect", .glo "least_of", .glo "checked", .glo "least", .glo "show_effect", .glo "show_step", .glo "show_phrase", .glo "number_in", .glo "effect_in", .glo "is_title", .glo "closing_place", .glo "long_step", .glo "step_at", .glo "phrase_in", .glo "read_effect", .glo "read_phrase", .glo "_law_purse", .glo "_law_coin", .glo "_law_words", .glo "_law_least", .glo "_law_drawn_effect", .glo "_law_drawn_phrase", .glo "_law_effect_text", .glo "_law_phrase_text", .glo "_law_number_of", .glo "_law_is_title", .glo "_law_effect_of", .glo "_law_close", .glo "_law_head", .glo "_law_phrase_of"]
def fa1 : List He.Fa := [.glo "_law_caught_one", .glo "_law_odd_one", .glo "_law_marred_one", .glo "_law_right", .glo "law", .glo "PileError", .glo "InvalidEffect", .glo "UnknownWord", .glo "InvalidStep", .glo "Unreadable", .free "len", .free "max", .free "min", .free "abs", .free "int", .free "str", .free "all", .free "list", .free "isinstance", .free "range", .free "set", .free "tuple", .free "ValueError", .str "DIGITS" "0123456789", .str "LETTERS" "abcdefghijklmnopqrstuvwxyz", .int "MOST_DIGITS" 9, .keep "is_effect", .keep "least_of", .keep "checked", .keep "least"]
def fa2 : List He.Fa := [.keep "show_effect", .keep "show_step", .keep "show_phrase", .keep "number_in", .keep "effect_in", .keep "is_title", .keep "closing_place", .keep "long_step", .keep "step_at", .keep "phrase_in", .keep "read_effect", .keep "read_phrase", .keep "_law_purse", .keep "_law_coin", .keep "_law_words", .keep "_law_least", .keep "_law_drawn_effect", .keep "_law_drawn_phrase", .keep "_law_effect_text", .keep "_law_phrase_text", .keep "_law_number_of", .keep "_law_is_title", .keep "_law_effect_of", .keep "_law_close", .keep "_law_head", .keep "_law_phrase_of", .keep "_law_caught_one", .keep "_law_odd_one", .keep "_law_marred_one", .keep "_law_right"]
def fa3 : List He.Fa := [.keep "law"]
def faA : List He.Fa := fa0 ++ fa1 ++ fa2 ++ fa3
/-! what more is to be told of the classes -/
def oexB (K : PySem.W.Frag) (C : Addr) : Bool := match K.lookup C with
  | some ⟨.type "type", _, .cls cd, sl⟩ => (match cd.mro, sl.toList with
    | .ref a :: bm, [_, _, _, _, some (.builtin n), _] => decide (a = C) && (decide (n = "ValueError.__new__") && (cd.hasDict && (!cd.hasDel && PySem.HandSPX.refsVE bm)))
    | _, _ => false)
  | _ => false
theorem oexB_ok {K : PySem.W.Frag} {C : Addr} (hq : oexB K C = true) : ∃ nm q N bs bm sn sub ab col dd k0 k1 k2 k3 k5, K.lookup C = some (excClassObj nm q C N bs bm true sn sub ab col dd k0 k1 k2 k3 k5 "ValueError.__new__") ∧ PySem.HandSPX.refsVE bm = true := by
  unfold oexB at hq
  split at hq
  · rename_i od c sl eq1
    split at hq
    · rename_i a bm k0 k1 k2 k3 n k5 em es
      obtain ⟨h1, hq⟩ := Bool.and_eq_true_iff.mp hq
      obtain ⟨h2, hq⟩ := Bool.and_eq_true_iff.mp hq
      obtain ⟨h3, hq⟩ := Bool.and_eq_true_iff.mp hq
      obtain ⟨h4, h5⟩ := Bool.and_eq_true_iff.mp hq
      have h1 := of_decide_eq_true h1
      have h2 := of_decide_eq_true h2
      obtain ⟨x1, x2, x3, x4, x5, x6, x7, x8, x9, x10, x11⟩ := c
      simp only at em h3 h4
      have h4 : x11 = false := by simpa using h4
      have e6 : sl = #[k0, k1, k2, k3, some (.builtin n), k5] := by
        obtain ⟨li⟩ := sl
        simp only at es
        rw [es]
      subst e6 h1 h2 em h3 h4
      exact ⟨_, _, _, _, _, _, _, _, _, _, _, _, _, _, _, eq1, h5⟩
    · cases hq
  · cases hq
def viB (K : PySem.W.Frag) : Bool := match PySem.W.findCls K (.type "ValueError") (.type "type") "__init__" with
  | some (.val (.builtin n)) => decide (n = "ValueError.__init__")
  | _ => false
theorem viB_ok {K : PySem.W.Frag} (h : viB K = true) : PySem.W.findCls K (.type "ValueError") (.type "type") "__init__" = some (.val (.builtin "ValueError.__init__")) := by
  unfold viB at h
  split at h
  · rename_i n e
    rw [e, of_decide_eq_true h]
  · cases h
def excB (K : PySem.W.Frag) (D : Addr) : Bool := decide (PySem.W.findIn K (.ref D) "__class__" = some (some (.builtin "object.__class__"))) && (decide (PySem.W.specialIn K (.builtin "object.__class__") "__get__" = some (some (.builtin "getset_descriptor.__get__"))) && (decide (PySem.W.takesIn K (.builtin "object.__class__") = some true) && decide (PySem.W.mroIn K D (.type "object") = some true)))
def clsB (K : PySem.W.Frag) (C : Addr) : Bool := oexB K C && (xfB K C && (excB K C && (decide (PySem.W.findIn K (.ref C) "__setattr__" = some (some (.builtin "object.__setattr__"))) && (decide (PySem.W.typeIn K (.ref C) = some (.type "type")) && (PySem.W.keepIn K (.ref C) && ((PySem.W.clsIn K C).isSome && (decide (PySem.W.findIn K (.ref C) "value" = some none) &&
  (decide (PySem.W.findIn K (.ref C) "__init__" = some (some (.ref (He.fAd K ("PileError", some "__init__"))))) && decide (PySem.W.typeIn K (.ref (He.fAd K ("PileError", some "__init__"))) = some (.type "function"))))))))))
def exB (K : PySem.W.Frag) : Bool := clsB K (He.ga K "Unreadable") && (decide (PySem.W.exmOne K (.ref (He.ga K "Unreadable")) (.ref (He.ga K "PileError")) = some true) && (decide (PySem.W.kitOne K (.ref (He.ga K "Unreadable")) (.ref (He.ga K "Unreadable")) = some true) &&
  (decide (PySem.W.kitAny K (.ref (He.ga K "Unreadable")) [.ref (He.ga K "InvalidEffect"), .ref (He.ga K "InvalidStep"), .ref (He.ga K "UnknownWord")] = some false) && viB K)))

abbrev R : PySem.W.OpenRow := PySem.W.OpenLaw.row PySem.Challenge.rw_pileshifts_k55_phrases_that_are_none
abbrev hk : PySem.W.Hook := He.hookX 5 faA fnD [] [] exB
def ob (s : PySem.W.SharedT) : He.AlX := He.obsX 5 faA fnD [] [] exB (HandSHeadRun.getT s)
theorem ob_eq (s : PySem.W.SharedT) : ob s = hk.obs s.abs := He.obsX_eq (HandSHeadRun.getT_eq s)
abbrev qv : Program := PySem.W.view R.prog [47]
def loose : List PySem.Str := (["__name__", "PileError", "InvalidEffect", "UnknownWord", "InvalidStep", "Unreadable", "is_effect", "least_of", "checked", "least", "show_effect", "show_step", "show_phrase", "DIGITS", "LETTERS", "MOST_DIGITS", "number_in", "effect_in", "is_title", "closing_place", "long_step", "step_at", "phrase_in", "read_effect", "read_phrase", "_law_purse", "_law_coin", "_law_words", "_law_least", "_law_drawn_effect"] : List PySem.Str) ++ (["_law_drawn_phrase", "_law_effect_text", "_law_phrase_text", "_law_number_of", "_law_is_title", "_law_effect_of", "_law_close", "_law_head", "_law_phrase_of", "_law_caught_one", "_law_odd_one", "_law_marred_one", "_law_right"] : List PySem.Str)
theorem run (w : World) : HandSHeadRun.RunEq R qv hk ob 3000 loose w := by
  intro os
  kernel_rfl
end K55

namespace K55
open PySem PySem.Spec PyProof.Rows L2 TL DL
theorem funOf {K : PySem.W.Frag} {x qual : Str} {st : Stmt} {f : Addr} {fd : FuncData} (F : FunD K x qual (defArgs st) (defBody st) (defScope st) [] [] f fd) : Fun K x qual st f fd := by
  obtain ⟨oc, od, dV, kV, doc, pm, an, cdv, ct, osl, e, lk, hc, hd, _⟩ := F.ex
  rcases hd with ⟨_, e2⟩ | ⟨hn, _⟩
  · subst e2
    exact ⟨⟨oc, od, kV, doc, pm, an, cdv, ct, osl, e, lk, hc⟩, F.kp⟩
  · exact absurd rfl hn
section
variable {P : Program} {w : World} {K : PySem.W.Frag} {mg : Str → Option Value} {base : Heap}
theorem never0 {x qual : Str} {st : Stmt} {f : Addr} {fd : FuncData} {N ps : List Str} {sd : Spd0} (F : Fun K x qual st f fd) (S : FnScope N ps (defScope st)) (gm : mg x = some (.ref f)) (hb : Binds K fd ps []) (hv : ∀ ds Q, ¬ sd ds Q) : Cal0 P w K mg base x 1 ps sd :=
  ⟨f, fd, F.ok (k := 0) S (fun vs H Q E h => by obtain ⟨_, _, _, _, _, hs, _⟩ := h; exact (hv _ _ hs).elim) (fun cdv A outer s H vs Q E hr h => by obtain ⟨_, _, _, _, _, hs, _⟩ := h; exact (hv _ _ hs).elim), gm, F.kp, hb⟩
theorem neverP {x qual : Str} {st : Stmt} {f : Addr} {fd : FuncData} {N ps : List Str} {sd : SpdP} (F : Fun K x qual st f fd) (S : FnScope N ps (defScope st)) (gm : mg x = some (.ref f)) (hb : Binds K fd ps []) (hv : ∀ pds ds Q, ¬ sd pds ds Q) : CalP P w K mg base x 1 ps sd :=
  ⟨f, fd, F.ok (k := 0) S (fun vs H Q E h => by obtain ⟨_, _, _, _, _, _, _, _, _, _, _, _, _, hs, _⟩ := h; exact (hv _ _ _ hs).elim) (fun cdv A outer s H vs Q E hr h => by obtain ⟨_, _, _, _, _, _, _, _, _, _, _, _, _, hs, _⟩ := h; exact (hv _ _ _ hs).elim), gm, F.kp, hb⟩
end
structure Defs (K : PySem.W.Frag) (mg : Str → Option Value) : Prop where
  T : Mgs K mg (He.ga K)
  F_is_effect : ∃ fd, Fun K "is_effect" "is_effect" (topS 7) (He.ga K "is_effect") fd ∧ Binds K fd ["one"] []
  g_is_effect : mg "is_effect" = some (.ref (He.ga K "is_effect"))
  F_least_of : ∃ fd, Fun K "least_of" "least_of" (topS 8) (He.ga K "least_of") fd ∧ Binds K fd ["needs", "gives"] []
  g_least_of : mg "least_of" = some (.ref (He.ga K "least_of"))
  F_checked : ∃ fd, Fun K "checked" "checked" (topS 9) (He.ga K "checked") fd ∧ Binds K fd ["one"] []
  g_checked : mg "checked" = some (.ref (He.ga K "checked"))
  F_least : ∃ fd, Fun K "least" "least" (topS 10) (He.ga K "least") fd ∧ Binds K fd ["needs", "gives"] []
  g_least : mg "least" = some (.ref (He.ga K "least"))
  F_show_effect : ∃ fd, Fun K "show_effect" "show_effect" (topS 12) (He.ga K "show_effect") fd ∧ Binds K fd ["one"] []
  g_show_effect : mg "show_effect" = some (.ref (He.ga K "show_effect"))
  F_show_step : ∃ fd, Fun K "show_step" "show_step" (topS 13) (He.ga K "show_step") fd ∧ Binds K fd ["step"] []
  g_show_step : mg "show_step" = some (.ref (He.ga K "show_step"))
  F_show_phrase : ∃ fd, Fun K "show_phrase" "show_phrase" (topS 14) (He.ga K "show_phrase") fd ∧ Binds K fd ["phrase"] []
  g_show_phrase : mg "show_phrase" = some (.ref (He.ga K "show_phrase"))
  F_number_in : ∃ fd, Fun K "number_in" "number_in" (topS 19) (He.ga K "number_in") fd ∧ Binds K fd ["text"] []
  g_number_in : mg "number_in" = some (.ref (He.ga K "number_in"))
  F_effect_in : ∃ fd, Fun K "effect_in" "effect_in" (topS 20) (He.ga K "effect_in") fd ∧ Binds K fd ["text"] []
  g_effect_in : mg "effect_in" = some (.ref (He.ga K "effect_in"))
  F_is_title : ∃ fd, Fun K "is_title" "is_title" (topS 21) (He.ga K "is_title") fd ∧ Binds K fd ["text"] []
  g_is_title : mg "is_title" = some (.ref (He.ga K "is_title"))
  F_closing_place : ∃ fd, Fun K "closing_place" "closing_place" (topS 22) (He.ga K "closing_place") fd ∧ Binds K fd ["text", "begin"] []
  g_closing_place : mg "closing_place" = some (.ref (He.ga K "closing_place"))
  F_long_step : ∃ fd, Fun K "long_step" "long_step" (topS 23) (He.ga K "long_step") fd ∧ Binds K fd ["text"] []
  g_long_step : mg "long_step" = some (.ref (He.ga K "long_step"))
  F_step_at : ∃ fd, Fun K "step_at" "step_at" (topS 24) (He.ga K "step_at") fd ∧ Binds K fd ["text"] []
  g_step_at : mg "step_at" = some (.ref (He.ga K "step_at"))
  F_phrase_in : ∃ fd, Fun K "phrase_in" "phrase_in" (topS 25) (He.ga K "phrase_in") fd ∧ Binds K fd ["text"] []
  g_phrase_in : mg "phrase_in" = some (.ref (He.ga K "phrase_in"))
  F_read_effect : ∃ fd, Fun K "read_effect" "read_effect" (topS 26) (He.ga K "read_effect") fd ∧ Binds K fd ["text"] []
  g_read_effect : mg "read_effect" = some (.ref (He.ga K "read_effect"))
  F_read_phrase : ∃ fd, Fun K "read_phrase" "read_phrase" (topS 27) (He.ga K "read_phrase") fd ∧ Binds K fd ["text"] []
  g_read_phrase : mg "read_phrase" = some (.ref (He.ga K "read_phrase"))
  F__law_purse : ∃ fd, Fun K "_law_purse" "_law_purse" (topS 29) (He.ga K "_law_purse") fd ∧ Binds K fd ["_law_script", "_law_place"] []
  g__law_purse : mg "_law_purse" = some (.ref (He.ga K "_law_purse"))
  F__law_coin : ∃ fd, Fun K "_law_coin" "_law_coin" (topS 30) (He.ga K "_law_coin") fd ∧ Binds K fd ["_law_purse_here", "_law_many"] []
  g__law_coin : mg "_law_coin" = some (.ref (He.ga K "_law_coin"))
  F__law_words : ∃ fd, Fun K "_law_words" "_law_words" (topS 31) (He.ga K "_law_words") fd ∧ Binds K fd ["_law_purse_here", "_law_many"] []
  g__law_words : mg "_law_words" = some (.ref (He.ga K "_law_words"))
  F__law_least : ∃ fd, Fun K "_law_least" "_law_least" (topS 32) (He.ga K "_law_least") fd ∧ Binds K fd ["_law_needs", "_law_gives"] []
  g__law_least : mg "_law_least" = some (.ref (He.ga K "_law_least"))
  F__law_drawn_effect : ∃ fd, Fun K "_law_drawn_effect" "_law_drawn_effect" (topS 33) (He.ga K "_law_drawn_effect") fd ∧ Binds K fd ["_law_purse_here", "_law_needs", "_law_length"] []
  g__law_drawn_effect : mg "_law_drawn_effect" = some (.ref (He.ga K "_law_drawn_effect"))
  F__law_drawn_phrase : ∃ fd, Fun K "_law_drawn_phrase" "_law_drawn_phrase" (topS 34) (He.ga K "_law_drawn_phrase") fd ∧ Binds K fd ["_law_purse_here", "_law_labels", "_law_many", "_law_deep", "_law_most"] []
  g__law_drawn_phrase : mg "_law_drawn_phrase" = some (.ref (He.ga K "_law_drawn_phrase"))
  F__law_effect_text : ∃ fd, Fun K "_law_effect_text" "_law_effect_text" (topS 35) (He.ga K "_law_effect_text") fd ∧ Binds K fd ["_law_one"] []
  g__law_effect_text : mg "_law_effect_text" = some (.ref (He.ga K "_law_effect_text"))
  F__law_phrase_text : ∃ fd, Fun K "_law_phrase_text" "_law_phrase_text" (topS 36) (He.ga K "_law_phrase_text") fd ∧ Binds K fd ["_law_steps_here"] []
  g__law_phrase_text : mg "_law_phrase_text" = some (.ref (He.ga K "_law_phrase_text"))
  F__law_number_of : ∃ fd, Fun K "_law_number_of" "_law_number_of" (topS 37) (He.ga K "_law_number_of") fd ∧ Binds K fd ["_law_piece"] []
  g__law_number_of : mg "_law_number_of" = some (.ref (He.ga K "_law_number_of"))
  F__law_is_title : ∃ fd, Fun K "_law_is_title" "_law_is_title" (topS 38) (He.ga K "_law_is_title") fd ∧ Binds K fd ["_law_piece"] []
  g__law_is_title : mg "_law_is_title" = some (.ref (He.ga K "_law_is_title"))
  F__law_effect_of : ∃ fd, Fun K "_law_effect_of" "_law_effect_of" (topS 39) (He.ga K "_law_effect_of") fd ∧ Binds K fd ["_law_wording"] []
  g__law_effect_of : mg "_law_effect_of" = some (.ref (He.ga K "_law_effect_of"))
  F__law_close : ∃ fd, Fun K "_law_close" "_law_close" (topS 40) (He.ga K "_law_close") fd ∧ Binds K fd ["_law_wording", "_law_spot_here"] []
  g__law_close : mg "_law_close" = some (.ref (He.ga K "_law_close"))
  F__law_head : ∃ fd, Fun K "_law_head" "_law_head" (topS 41) (He.ga K "_law_head") fd ∧ Binds K fd ["_law_wording"] []
  g__law_head : mg "_law_head" = some (.ref (He.ga K "_law_head"))
  F__law_phrase_of : ∃ fd, Fun K "_law_phrase_of" "_law_phrase_of" (topS 42) (He.ga K "_law_phrase_of") fd ∧ Binds K fd ["_law_wording"] []
  g__law_phrase_of : mg "_law_phrase_of" = some (.ref (He.ga K "_law_phrase_of"))
  F__law_caught_one : ∃ fd, Fun K "_law_caught_one" "_law_caught_one" (topS 43) (He.ga K "_law_caught_one") fd ∧ Binds K fd ["_law_wording", "_law_way"] []
  g__law_caught_one : mg "_law_caught_one" = some (.ref (He.ga K "_law_caught_one"))
  F__law_odd_one : ∃ fd, Fun K "_law_odd_one" "_law_odd_one" (topS 44) (He.ga K "_law_odd_one") fd ∧ Binds K fd ["_law_purse_here", "_law_wording"] []
  g__law_odd_one : mg "_law_odd_one" = some (.ref (He.ga K "_law_odd_one"))
  F__law_marred_one : ∃ fd, Fun K "_law_marred_one" "_law_marred_one" (topS 45) (He.ga K "_law_marred_one") fd ∧ Binds K fd ["_law_purse_here", "_law_wording"] []
  g__law_marred_one : mg "_law_marred_one" = some (.ref (He.ga K "_law_marred_one"))
  F__law_right : ∃ fd, Fun K "_law_right" "_law_right" (topS 46) (He.ga K "_law_right") fd ∧ Binds K fd ["_law_purse_here"] []
  g__law_right : mg "_law_right" = some (.ref (He.ga K "_law_right"))
  F_law : ∃ fd, Fun K "law" "law" (topS 47) (He.ga K "law") fd ∧ Binds K fd ["_law_script"] []
  g_law : mg "law" = some (.ref (He.ga K "law"))
  oex : OexC K (He.ga K "Unreadable")
  iniI : PySem.W.findIn K (.ref (He.ga K "Unreadable")) "__init__" = some (some (.ref (He.fAd K ("PileError", some "__init__"))))
  iniT : PySem.W.typeIn K (.ref (He.fAd K ("PileError", some "__init__"))) = some (.type "function")
  iniF : ∃ fd, Fun K "__init__" "PileError.__init__" initS (He.fAd K ("PileError", some "__init__")) fd ∧ Binds K fd ["self", "value"] []
  fVE : mg "ValueError" = none
  vi : PySem.W.findCls K (.type "ValueError") (.type "type") "__init__" = some (.val (.builtin "ValueError.__init__"))
  kw_read_effect : ∃ fd, Fun K "read_effect" "read_effect" (topS 26) (He.ga K "read_effect") fd ∧ ∀ (s : Shared) (u : Value), BindsTo s fd ⟨[], [("text", u)]⟩ [("text", u)]
theorem defs_of {w : World} {K : PySem.W.Frag} {h hh : Heap} {mg : Str → Option Value} (X : K.In h) (G : h.Ns mainGlobals mg) (c : He.SaysX faA fnD [] [] exB w hh K) : Defs K mg := by
  have cd := c.t.d
  obtain ⟨m1, m⟩ := Bool.and_eq_true_iff.mp c.more
  obtain ⟨m2, m⟩ := Bool.and_eq_true_iff.mp m
  obtain ⟨m3, m⟩ := Bool.and_eq_true_iff.mp m
  obtain ⟨m4, m5⟩ := Bool.and_eq_true_iff.mp m
  obtain ⟨u1, u⟩ := Bool.and_eq_true_iff.mp m1
  obtain ⟨u2, u⟩ := Bool.and_eq_true_iff.mp u
  obtain ⟨u3, u⟩ := Bool.and_eq_true_iff.mp u
  obtain ⟨u4, u⟩ := Bool.and_eq_true_iff.mp u
  obtain ⟨u5, u⟩ := Bool.and_eq_true_iff.mp u
  obtain ⟨u6, u⟩ := Bool.and_eq_true_iff.mp u
  obtain ⟨u7, u⟩ := Bool.and_eq_true_iff.mp u
  obtain ⟨u8, u⟩ := Bool.and_eq_true_iff.mp u
  obtain ⟨u9, u10⟩ := Bool.and_eq_true_iff.mp u
  obtain ⟨e1, e⟩ := Bool.and_eq_true_iff.mp u3
  obtain ⟨e2, e⟩ := Bool.and_eq_true_iff.mp e
  obtain ⟨e3, e4⟩ := Bool.and_eq_true_iff.mp e
  have hx := xfB_ok u2
  have q_is_effect : ∃ fd, Fun K "is_effect" "is_effect" (topS 7) (He.ga K "is_effect") fd ∧ Binds K fd ["one"] [] := by
    obtain ⟨fd, F⟩ := cd.def_ 0 (d := dd_is_effect) rfl
    have F1 : Fun K "is_effect" "is_effect" (topS 7) (He.ga K "is_effect") fd := funOf F
    exact ⟨fd, F1, F1.binds fun _ _ _ _ _ _ us hl => match us, hl with | [_], _ => rfl⟩
  have q_least_of : ∃ fd, Fun K "least_of" "least_of" (topS 8) (He.ga K "least_of") fd ∧ Binds K fd ["needs", "gives"] [] := by
    obtain ⟨fd, F⟩ := cd.def_ 1 (d := dd_least_of) rfl
    have F1 : Fun K "least_of" "least_of" (topS 8) (He.ga K "least_of") fd := funOf F
    exact ⟨fd, F1, F1.binds fun _ _ _ _ _ _ us hl => match us, hl with | [_, _], _ => rfl⟩
  have q_checked : ∃ fd, Fun K "checked" "checked" (topS 9) (He.ga K "checked") fd ∧ Binds K fd ["one"] [] := by
    obtain ⟨fd, F⟩ := cd.def_ 2 (d := dd_checked) rfl
    have F1 : Fun K "checked" "checked" (topS 9) (He.ga K "checked") fd := funOf F
    exact ⟨fd, F1, F1.binds fun _ _ _ _ _ _ us hl => match us, hl with | [_], _ => rfl⟩
  have q_least : ∃ fd, Fun K "least" "least" (topS 10) (He.ga K "least") fd ∧ Binds K fd ["needs", "gives"] [] := by
    obtain ⟨fd, F⟩ := cd.def_ 3 (d := dd_least) rfl
    have F1 : Fun K "least" "least" (topS 10) (He.ga K "least") fd := funOf F
    exact ⟨fd, F1, F1.binds fun _ _ _ _ _ _ us hl => match us, hl with | [_, _], _ => rfl⟩
  have q_show_effect : ∃ fd, Fun K "show_effect" "show_effect" (topS 12) (He.ga K "show_effect") fd ∧ Binds K fd ["one"] [] := by
    obtain ⟨fd, F⟩ := cd.def_ 4 (d := dd_show_effect) rfl
    have F1 : Fun K "show_effect" "show_effect" (topS 12) (He.ga K "show_effect") fd := funOf F
    exact ⟨fd, F1, F1.binds fun _ _ _ _ _ _ us hl => match us, hl with | [_], _ => rfl⟩
  have q_show_step : ∃ fd, Fun K "show_step" "show_step" (topS 13) (He.ga K "show_step") fd ∧ Binds K fd ["step"] [] := by
    obtain ⟨fd, F⟩ := cd.def_ 5 (d := dd_show_step) rfl
    have F1 : Fun K "show_step" "show_step" (topS 13) (He.ga K "show_step") fd := funOf F
    exact ⟨fd, F1, F1.binds fun _ _ _ _ _ _ us hl => match us, hl with | [_], _ => rfl⟩
  have q_show_phrase : ∃ fd, Fun K "show_phrase" "show_phrase" (topS 14) (He.ga K "show_phrase") fd ∧ Binds K fd ["phrase"] [] := by
    obtain ⟨fd, F⟩ := cd.def_ 6 (d := dd_show_phrase) rfl
    have F1 : Fun K "show_phrase" "show_phrase" (topS 14) (He.ga K "show_phrase") fd := funOf F
    exact ⟨fd, F1, F1.binds fun _ _ _ _ _ _ us hl => match us, hl with | [_], _ => rfl⟩
  have q_number_in : ∃ fd, Fun K "number_in" "number_in" (topS 19) (He.ga K "number_in") fd ∧ Binds K fd ["text"] [] := by
    obtain ⟨fd, F⟩ := cd.def_ 7 (d := dd_number_in) rfl
    have F1 : Fun K "number_in" "number_in" (topS 19) (He.ga K "number_in") fd := funOf F
    exact ⟨fd, F1, F1.binds fun _ _ _ _ _ _ us hl => match us, hl with | [_], _ => rfl⟩
  have q_effect_in : ∃ fd, Fun K "effect_in" "effect_in" (topS 20) (He.ga K "effect_in") fd ∧ Binds K fd ["text"] [] := by
    obtain ⟨fd, F⟩ := cd.def_ 8 (d := dd_effect_in) rfl
    have F1 : Fun K "effect_in" "effect_in" (topS 20) (He.ga K "effect_in") fd := funOf F
    exact ⟨fd, F1, F1.binds fun _ _ _ _ _ _ us hl => match us, hl with | [_], _ => rfl⟩
  have q_is_title : ∃ fd, Fun K "is_title" "is_title" (topS 21) (He.ga K "is_title") fd ∧ Binds K fd ["text"] [] := by
    obtain ⟨fd, F⟩ := cd.def_ 9 (d := dd_is_title) rfl
    have F1 : Fun K "is_title" "is_title" (topS 21) (He.ga K "is_title") fd := funOf F
    exact ⟨fd, F1, F1.binds fun _ _ _ _ _ _ us hl => match us, hl with | [_], _ => rfl⟩
  have q_closing_place : ∃ fd, Fun K "closing_place" "closing_place" (topS 22) (He.ga K "closing_place") fd ∧ Binds K fd ["text", "begin"] [] := by
    obtain ⟨fd, F⟩ := cd.def_ 10 (d := dd_closing_place) rfl
    have F1 : Fun K "closing_place" "closing_place" (topS 22) (He.ga K "closing_place") fd := funOf F
    exact ⟨fd, F1, F1.binds fun _ _ _ _ _ _ us hl => match us, hl with | [_, _], _ => rfl⟩
  have q_long_step : ∃ fd, Fun K "long_step" "long_step" (topS 23) (He.ga K "long_step") fd ∧ Binds K fd ["text"] [] := by
    obtain ⟨fd, F⟩ := cd.def_ 11 (d := dd_long_step) rfl
    have F1 : Fun K "long_step" "long_step" (topS 23) (He.ga K "long_step") fd := funOf F
    exact ⟨fd, F1, F1.binds fun _ _ _ _ _ _ us hl => match us, hl with | [_], _ => rfl⟩
  have q_step_at : ∃ fd, Fun K "step_at" "step_at" (topS 24) (He.ga K "step_at") fd ∧ Binds K fd ["text"] [] := by
    obtain ⟨fd, F⟩ := cd.def_ 12 (d := dd_step_at) rfl
    have F1 : Fun K "step_at" "step_at" (topS 24) (He.ga K "step_at") fd := funOf F
    exact ⟨fd, F1, F1.binds fun _ _ _ _ _ _ us hl => match us, hl with | [_], _ => rfl⟩
  have q_phrase_in : ∃ fd, Fun K "phrase_in" "phrase_in" (topS 25) (He.ga K "phrase_in") fd ∧ Binds K fd ["text"] [] := by
    obtain ⟨fd, F⟩ := cd.def_ 13 (d := dd_phrase_in) rfl
    have F1 : Fun K "phrase_in" "phrase_in" (topS 25) (He.ga K "phrase_in") fd := funOf F
    exact ⟨fd, F1, F1.binds fun _ _ _ _ _ _ us hl => match us, hl with | [_], _ => rfl⟩
  have q_read_effect : ∃ fd, Fun K "read_effect" "read_effect" (topS 26) (He.ga K "read_effect") fd ∧ Binds K fd ["text"] [] := by
    obtain ⟨fd, F⟩ := cd.def_ 14 (d := dd_read_effect) rfl
    have F1 : Fun K "read_effect" "read_effect" (topS 26) (He.ga K "read_effect") fd := funOf F
    exact ⟨fd, F1, F1.binds fun _ _ _ _ _ _ us hl => match us, hl with | [_], _ => rfl⟩
  have q_read_phrase : ∃ fd, Fun K "read_phrase" "read_phrase" (topS 27) (He.ga K "read_phrase") fd ∧ Binds K fd ["text"] [] := by
    obtain ⟨fd, F⟩ := cd.def_ 15 (d := dd_read_phrase) rfl
    have F1 : Fun K "read_phrase" "read_phrase" (topS 27) (He.ga K "read_phrase") fd := funOf F
    exact ⟨fd, F1, F1.binds fun _ _ _ _ _ _ us hl => match us, hl with | [_], _ => rfl⟩
  have q__law_purse : ∃ fd, Fun K "_law_purse" "_law_purse" (topS 29) (He.ga K "_law_purse") fd ∧ Binds K fd ["_law_script", "_law_place"] [] := by
    obtain ⟨fd, F⟩ := cd.def_ 16 (d := dd__law_purse) rfl
    have F1 : Fun K "_law_purse" "_law_purse" (topS 29) (He.ga K "_law_purse") fd := funOf F
    exact ⟨fd, F1, F1.binds fun _ _ _ _ _ _ us hl => match us, hl with | [_, _], _ => rfl⟩
  have q__law_coin : ∃ fd, Fun K "_law_coin" "_law_coin" (topS 30) (He.ga K "_law_coin") fd ∧ Binds K fd ["_law_purse_here", "_law_many"] [] := by
    obtain ⟨fd, F⟩ := cd.def_ 17 (d := dd__law_coin) rfl
    have F1 : Fun K "_law_coin" "_law_coin" (topS 30) (He.ga K "_law_coin") fd := funOf F
    exact ⟨fd, F1, F1.binds fun _ _ _ _ _ _ us hl => match us, hl with | [_, _], _ => rfl⟩
  have q__law_words : ∃ fd, Fun K "_law_words" "_law_words" (topS 31) (He.ga K "_law_words") fd ∧ Binds K fd ["_law_purse_here", "_law_many"] [] := by
    obtain ⟨fd, F⟩ := cd.def_ 18 (d := dd__law_words) rfl
    have F1 : Fun K "_law_words" "_law_words" (topS 31) (He.ga K "_law_words") fd := funOf F
    exact ⟨fd, F1, F1.binds fun _ _ _ _ _ _ us hl => match us, hl with | [_, _], _ => rfl⟩
  have q__law_least : ∃ fd, Fun K "_law_least" "_law_least" (topS 32) (He.ga K "_law_least") fd ∧ Binds K fd ["_law_needs", "_law_gives"] [] := by
    obtain ⟨fd, F⟩ := cd.def_ 19 (d := dd__law_least) rfl
    have F1 : Fun K "_law_least" "_law_least" (topS 32) (He.ga K "_law_least") fd := funOf F
    exact ⟨fd, F1, F1.binds fun _ _ _ _ _ _ us hl => match us, hl with | [_, _], _ => rfl⟩
  have q__law_drawn_effect : ∃ fd, Fun K "_law_drawn_effect" "_law_drawn_effect" (topS 33) (He.ga K "_law_drawn_effect") fd ∧ Binds K fd ["_law_purse_here", "_law_needs", "_law_length"] [] := by
    obtain ⟨fd, F⟩ := cd.def_ 20 (d := dd__law_drawn_effect) rfl
    have F1 : Fun K "_law_drawn_effect" "_law_drawn_effect" (topS 33) (He.ga K "_law_drawn_effect") fd := funOf F
    exact ⟨fd, F1, F1.binds fun _ _ _ _ _ _ us hl => match us, hl with | [_, _, _], _ => rfl⟩
  have q__law_drawn_phrase : ∃ fd, Fun K "_law_drawn_phrase" "_law_drawn_phrase" (topS 34) (He.ga K "_law_drawn_phrase") fd ∧ Binds K fd ["_law_purse_here", "_law_labels", "_law_many", "_law_deep", "_law_most"] [] := by
    obtain ⟨fd, F⟩ := cd.def_ 21 (d := dd__law_drawn_phrase) rfl
    have F1 : Fun K "_law_drawn_phrase" "_law_drawn_phrase" (topS 34) (He.ga K "_law_drawn_phrase") fd := funOf F
    exact ⟨fd, F1, F1.binds fun _ _ _ _ _ _ us hl => match us, hl with | [_, _, _, _, _], _ => rfl⟩
  have q__law_effect_text : ∃ fd, Fun K "_law_effect_text" "_law_effect_text" (topS 35) (He.ga K "_law_effect_text") fd ∧ Binds K fd ["_law_one"] [] := by
    obtain ⟨fd, F⟩ := cd.def_ 22 (d := dd__law_effect_text) rfl
    have F1 : Fun K "_law_effect_text" "_law_effect_text" (topS 35) (He.ga K "_law_effect_text") fd := funOf F
    exact ⟨fd, F1, F1.binds fun _ _ _ _ _ _ us hl => match us, hl with | [_], _ => rfl⟩
  have q__law_phrase_text : ∃ fd, Fun K "_law_phrase_text" "_law_phrase_text" (topS 36) (He.ga K "_law_phrase_text") fd ∧ Binds K fd ["_law_steps_here"] [] := by
    obtain ⟨fd, F⟩ := cd.def_ 23 (d := dd__law_phrase_text) rfl
    have F1 : Fun K "_law_phrase_text" "_law_phrase_text" (topS 36) (He.ga K "_law_phrase_text") fd := funOf F
    exact ⟨fd, F1, F1.binds fun _ _ _ _ _ _ us hl => match us, hl with | [_], _ => rfl⟩
  have q__law_number_of : ∃ fd, Fun K "_law_number_of" "_law_number_of" (topS 37) (He.ga K "_law_number_of") fd ∧ Binds K fd ["_law_piece"] [] := by
    obtain ⟨fd, F⟩ := cd.def_ 24 (d := dd__law_number_of) rfl
    have F1 : Fun K "_law_number_of" "_law_number_of" (topS 37) (He.ga K "_law_number_of") fd := funOf F
    exact ⟨fd, F1, F1.binds fun _ _ _ _ _ _ us hl => match us, hl with | [_], _ => rfl⟩
  have q__law_is_title : ∃ fd, Fun K "_law_is_title" "_law_is_title" (topS 38) (He.ga K "_law_is_title") fd ∧ Binds K fd ["_law_piece"] [] := by
    obtain ⟨fd, F⟩ := cd.def_ 25 (d := dd__law_is_title) rfl
    have F1 : Fun K "_law_is_title" "_law_is_title" (topS 38) (He.ga K "_law_is_title") fd := funOf F
    exact ⟨fd, F1, F1.binds fun _ _ _ _ _ _ us hl => match us, hl with | [_], _ => rfl⟩
  have q__law_effect_of : ∃ fd, Fun K "_law_effect_of" "_law_effect_of" (topS 39) (He.ga K "_law_effect_of") fd ∧ Binds K fd ["_law_wording"] [] := by
    obtain ⟨fd, F⟩ := cd.def_ 26 (d := dd__law_effect_of) rfl
    have F1 : Fun K "_law_effect_of" "_law_effect_of" (topS 39) (He.ga K "_law_effect_of") fd := funOf F
    exact ⟨fd, F1, F1.binds fun _ _ _ _ _ _ us hl => match us, hl with | [_], _ => rfl⟩
  have q__law_close : ∃ fd, Fun K "_law_close" "_law_close" (topS 40) (He.ga K "_law_close") fd ∧ Binds K fd ["_law_wording", "_law_spot_here"] [] := by
    obtain ⟨fd, F⟩ := cd.def_ 27 (d := dd__law_close) rfl
    have F1 : Fun K "_law_close" "_law_close" (topS 40) (He.ga K "_law_close") fd := funOf F
    exact ⟨fd, F1, F1.binds fun _ _ _ _ _ _ us hl => match us, hl with | [_, _], _ => rfl⟩
  have q__law_head : ∃ fd, Fun K "_law_head" "_law_head" (topS 41) (He.ga K "_law_head") fd ∧ Binds K fd ["_law_wording"] [] := by
    obtain ⟨fd, F⟩ := cd.def_ 28 (d := dd__law_head) rfl
    have F1 : Fun K "_law_head" "_law_head" (topS 41) (He.ga K "_law_head") fd := funOf F
    exact ⟨fd, F1, F1.binds fun _ _ _ _ _ _ us hl => match us, hl with | [_], _ => rfl⟩
  have q__law_phrase_of : ∃ fd, Fun K "_law_phrase_of" "_law_phrase_of" (topS 42) (He.ga K "_law_phrase_of") fd ∧ Binds K fd ["_law_wording"] [] := by
    obtain ⟨fd, F⟩ := cd.def_ 29 (d := dd__law_phrase_of) rfl
    have F1 : Fun K "_law_phrase_of" "_law_phrase_of" (topS 42) (He.ga K "_law_phrase_of") fd := funOf F
    exact ⟨fd, F1, F1.binds fun _ _ _ _ _ _ us hl => match us, hl with | [_], _ => rfl⟩
  have q__law_caught_one : ∃ fd, Fun K "_law_caught_one" "_law_caught_one" (topS 43) (He.ga K "_law_caught_one") fd ∧ Binds K fd ["_law_wording", "_law_way"] [] := by
    obtain ⟨fd, F⟩ := cd.def_ 30 (d := dd__law_caught_one) rfl
    have F1 : Fun K "_law_caught_one" "_law_caught_one" (topS 43) (He.ga K "_law_caught_one") fd := funOf F
    exact ⟨fd, F1, F1.binds fun _ _ _ _ _ _ us hl => match us, hl with | [_, _], _ => rfl⟩
  have q__law_odd_one : ∃ fd, Fun K "_law_odd_one" "_law_odd_one" (topS 44) (He.ga K "_law_odd_one") fd ∧ Binds K fd ["_law_purse_here", "_law_wording"] [] := by
    obtain ⟨fd, F⟩ := cd.def_ 31 (d := dd__law_odd_one) rfl
    have F1 : Fun K "_law_odd_one" "_law_odd_one" (topS 44) (He.ga K "_law_odd_one") fd := funOf F
    exact ⟨fd, F1, F1.binds fun _ _ _ _ _ _ us hl => match us, hl with | [_, _], _ => rfl⟩
  have q__law_marred_one : ∃ fd, Fun K "_law_marred_one" "_law_marred_one" (topS 45) (He.ga K "_law_marred_one") fd ∧ Binds K fd ["_law_purse_here", "_law_wording"] [] := by
    obtain ⟨fd, F⟩ := cd.def_ 32 (d := dd__law_marred_one) rfl
    have F1 : Fun K "_law_marred_one" "_law_marred_one" (topS 45) (He.ga K "_law_marred_one") fd := funOf F
    exact ⟨fd, F1, F1.binds fun _ _ _ _ _ _ us hl => match us, hl with | [_, _], _ => rfl⟩
  have q__law_right : ∃ fd, Fun K "_law_right" "_law_right" (topS 46) (He.ga K "_law_right") fd ∧ Binds K fd ["_law_purse_here"] [] := by
    obtain ⟨fd, F⟩ := cd.def_ 33 (d := dd__law_right) rfl
    have F1 : Fun K "_law_right" "_law_right" (topS 46) (He.ga K "_law_right") fd := funOf F
    exact ⟨fd, F1, F1.binds fun _ _ _ _ _ _ us hl => match us, hl with | [_], _ => rfl⟩
  have q_law : ∃ fd, Fun K "law" "law" (topS 47) (He.ga K "law") fd ∧ Binds K fd ["_law_script"] [] := by
    obtain ⟨fd, F⟩ := cd.def_ 34 (d := dd_law) rfl
    have F1 : Fun K "law" "law" (topS 47) (He.ga K "law") fd := funOf F
    exact ⟨fd, F1, F1.binds fun _ _ _ _ _ _ us hl => match us, hl with | [_], _ => rfl⟩
  have q_init : ∃ fd, Fun K "__init__" "PileError.__init__" initS (He.fAd K ("PileError", some "__init__")) fd ∧ Binds K fd ["self", "value"] [] := by
    obtain ⟨fd, F⟩ := cd.def_ 35 (d := dd_init) rfl
    have F1 : Fun K "__init__" "PileError.__init__" initS (He.fAd K ("PileError", some "__init__")) fd := funOf F
    exact ⟨fd, F1, F1.binds fun _ _ _ _ _ _ us hl => match us, hl with | [_, _], _ => rfl⟩
  have q_kw : ∃ fd, Fun K "read_effect" "read_effect" (topS 26) (He.ga K "read_effect") fd ∧ ∀ (s : Shared) (u : Value), BindsTo s fd ⟨[], [("text", u)]⟩ [("text", u)] := by
    obtain ⟨fd, F⟩ := cd.def_ 14 (d := dd_read_effect) rfl
    have F1 : Fun K "read_effect" "read_effect" (topS 26) (He.ga K "read_effect") fd := funOf F
    refine ⟨fd, F1, fun s u => ?_⟩
    obtain ⟨oc, od, kV, doc, pm, an, cdv, ct, osl, rfl, _, _⟩ := F1.ex
    exact .of_eq rfl
  exact {
    T := {
      m_len := He.free_ok X G (cd.fact 40 (f := .free "len") rfl)
      m_max := He.free_ok X G (cd.fact 41 (f := .free "max") rfl)
      m_min := He.free_ok X G (cd.fact 42 (f := .free "min") rfl)
      m_abs := He.free_ok X G (cd.fact 43 (f := .free "abs") rfl)
      m_int := He.free_ok X G (cd.fact 44 (f := .free "int") rfl)
      m_str := He.free_ok X G (cd.fact 45 (f := .free "str") rfl)
      m_all := He.free_ok X G (cd.fact 46 (f := .free "all") rfl)
      m_list := He.free_ok X G (cd.fact 47 (f := .free "list") rfl)
      m_isinstance := He.free_ok X G (cd.fact 48 (f := .free "isinstance") rfl)
      m_range := He.free_ok X G (cd.fact 49 (f := .free "range") rfl)
      m_set := He.free_ok X G (cd.fact 50 (f := .free "set") rfl)
      m_tuple := He.free_ok X G (cd.fact 51 (f := .free "tuple") rfl)
      g_DIGITS := He.str_ok X G (cd.fact 53 (f := .str "DIGITS" "0123456789") rfl)
      g_LETTERS := He.str_ok X G (cd.fact 54 (f := .str "LETTERS" "abcdefghijklmnopqrstuvwxyz") rfl)
      g_MOST_DIGITS := He.int_ok X G (cd.fact 55 (f := .int "MOST_DIGITS" 9) rfl)
      gC_PileError := He.glo_ok X G (cd.fact 35 (f := .glo "PileError") rfl)
      gC_InvalidEffect := He.glo_ok X G (cd.fact 36 (f := .glo "InvalidEffect") rfl)
      gC_UnknownWord := He.glo_ok X G (cd.fact 37 (f := .glo "UnknownWord") rfl)
      gC_InvalidStep := He.glo_ok X G (cd.fact 38 (f := .glo "InvalidStep") rfl)
      gC_Unreadable := He.glo_ok X G (cd.fact 39 (f := .glo "Unreadable") rfl)
      exm_Unreadable_PileError := of_decide_eq_true m2
      cl_Unreadable := u7
      ec_Unreadable := ⟨hx.ga, hx.gg, hx.exC, hx.hdC, of_decide_eq_true e1, of_decide_eq_true e2, of_decide_eq_true e3, of_decide_eq_true e4⟩
      xf_Unreadable := hx
      nv_Unreadable := of_decide_eq_true u8
      ki_Unreadable := of_decide_eq_true m3
      ki_InvalidEffect_InvalidStep_UnknownWord := of_decide_eq_true m4 }
    F_is_effect := q_is_effect
    g_is_effect := He.glo_ok X G (cd.fact 0 (f := .glo "is_effect") rfl)
    F_least_of := q_least_of
    g_least_of := He.glo_ok X G (cd.fact 1 (f := .glo "least_of") rfl)
    F_checked := q_checked
    g_checked := He.glo_ok X G (cd.fact 2 (f := .glo "checked") rfl)
    F_least := q_least
    g_least := He.glo_ok X G (cd.fact 3 (f := .glo "least") rfl)
    F_show_effect := q_show_effect
    g_show_effect := He.glo_ok X G (cd.fact 4 (f := .glo "show_effect") rfl)
    F_show_step := q_show_step
    g_show_step := He.glo_ok X G (cd.fact 5 (f := .glo "show_step") rfl)
    F_show_phrase := q_show_phrase
    g_show_phrase := He.glo_ok X G (cd.fact 6 (f := .glo "show_phrase") rfl)
    F_number_in := q_number_in
    g_number_in := He.glo_ok X G (cd.fact 7 (f := .glo "number_in") rfl)
    F_effect_in := q_effect_in
    g_effect_in := He.glo_ok X G (cd.fact 8 (f := .glo "effect_in") rfl)
    F_is_title := q_is_title
    g_is_title := He.glo_ok X G (cd.fact 9 (f := .glo "is_title") rfl)
    F_closing_place := q_closing_place
    g_closing_place := He.glo_ok X G (cd.fact 10 (f := .glo "closing_place") rfl)
    F_long_step := q_long_step
    g_long_step := He.glo_ok X G (cd.fact 11 (f := .glo "long_step") rfl)
    F_step_at := q_step_at
    g_step_at := He.glo_ok X G (cd.fact 12 (f := .glo "step_at") rfl)
    F_phrase_in := q_phrase_in
    g_phrase_in := He.glo_ok X G (cd.fact 13 (f := .glo "phrase_in") rfl)
    F_read_effect := q_read_effect
    g_read_effect := He.glo_ok X G (cd.fact 14 (f := .glo "read_effect") rfl)
    F_read_phrase := q_read_phrase
    g_read_phrase := He.glo_ok X G (cd.fact 15 (f := .glo "read_phrase") rfl)
    F__law_purse := q__law_purse
    g__law_purse := He.glo_ok X G (cd.fact 16 (f := .glo "_law_purse") rfl)
    F__law_coin := q__law_coin
    g__law_coin := He.glo_ok X G (cd.fact 17 (f := .glo "_law_coin") rfl)
    F__law_words := q__law_words
    g__law_words := He.glo_ok X G (cd.fact 18 (f := .glo "_law_words") rfl)
    F__law_least := q__law_least
    g__law_least := He.glo_ok X G (cd.fact 19 (f := .glo "_law_least") rfl)
    F__law_drawn_effect := q__law_drawn_effect
    g__law_drawn_effect := He.glo_ok X G (cd.fact 20 (f := .glo "_law_drawn_effect") rfl)
    F__law_drawn_phrase := q__law_drawn_phrase
    g__law_drawn_phrase := He.glo_ok X G (cd.fact 21 (f := .glo "_law_drawn_phrase") rfl)
    F__law_effect_text := q__law_effect_text
    g__law_effect_text := He.glo_ok X G (cd.fact 22 (f := .glo "_law_effect_text") rfl)
    F__law_phrase_text := q__law_phrase_text
    g__law_phrase_text := He.glo_ok X G (cd.fact 23 (f := .glo "_law_phrase_text") rfl)
    F__law_number_of := q__law_number_of
    g__law_number_of := He.glo_ok X G (cd.fact 24 (f := .glo "_law_number_of") rfl)
    F__law_is_title := q__law_is_title
    g__law_is_title := He.glo_ok X G (cd.fact 25 (f := .glo "_law_is_title") rfl)
    F__law_effect_of := q__law_effect_of
    g__law_effect_of := He.glo_ok X G (cd.fact 26 (f := .glo "_law_effect_of") rfl)
    F__law_close := q__law_close
    g__law_close := He.glo_ok X G (cd.fact 27 (f := .glo "_law_close") rfl)
    F__law_head := q__law_head
    g__law_head := He.glo_ok X G (cd.fact 28 (f := .glo "_law_head") rfl)
    F__law_phrase_of := q__law_phrase_of
    g__law_phrase_of := He.glo_ok X G (cd.fact 29 (f := .glo "_law_phrase_of") rfl)
    F__law_caught_one := q__law_caught_one
    g__law_caught_one := He.glo_ok X G (cd.fact 30 (f := .glo "_law_caught_one") rfl)
    F__law_odd_one := q__law_odd_one
    g__law_odd_one := He.glo_ok X G (cd.fact 31 (f := .glo "_law_odd_one") rfl)
    F__law_marred_one := q__law_marred_one
    g__law_marred_one := He.glo_ok X G (cd.fact 32 (f := .glo "_law_marred_one") rfl)
    F__law_right := q__law_right
    g__law_right := He.glo_ok X G (cd.fact 33 (f := .glo "_law_right") rfl)
    F_law := q_law
    g_law := He.glo_ok X G (cd.fact 34 (f := .glo "law") rfl)
    oex := ⟨oexB_ok u1, of_decide_eq_true u4, hx.exC, of_decide_eq_true u5, u6⟩
    iniI := of_decide_eq_true u9
    iniT := of_decide_eq_true u10
    iniF := q_init
    fVE := He.free_ok X G (cd.fact 52 (f := .free "ValueError") rfl)
    vi := viB_ok m5
    kw_read_effect := q_kw }
end K55

namespace K55
open PySem PySem.Spec PyProof.Rows L2 TL DL
section
variable {P : Program} {w : World} {K : PySem.W.Frag} {mg : Str → Option Value} {base : Heap}
theorem fun_dXK {x qual : Str} {st : Stmt} {f : Addr} {fd : FuncData} {N : List Str} {p : Str} {k : Nat} {sd : SpdX} {td : (Str → D → En → Prop) → TSd} (F : Fun K x qual st f fd) (S : FnScope N [p] (defScope st)) (gm : mg x = some (.ref f)) (hb : ∀ (s : Shared) (u : Value), BindsTo s fd ⟨[], [(p, u)]⟩ [(p, u)])
    (body : ∀ (cdv : Value) (A : Around) (outer : List Env) (s : Shared) (H : Hp) (E : XK) (Ed : Str → D → En → Prop), Room k (A.deeper (envOfC qual (defScope st) s.heap.objs.size f cdv)) →
      PSsd (cxOf (L2.CX P w) P w K mg base N qual (defScope st) f cdv A outer s H E) (GE K mg (fun cls d _ H => E cls d H) Ed) (defBody st) (td Ed))
    (len : ∀ ds Qd Ed, sd ds Qd Ed → ds.length = 1) (law : ∀ ds Qd Ed, sd ds Qd Ed → td (fun x d _ => Ed x d) { nx := fun _ => Qd .none, rt := fun d _ => Qd d } (startN N (ds.map Sl.val))) : CalXK P w K mg base x (k + 1) p sd := by
  refine ⟨f, fd, F.okX S (fun vs H Q E h => ?_) (fun cdv A outer s H vs Q E hr h => ?_), gm, F.kp, hb⟩
  · obtain ⟨F', ds, Qd, Ed, _, r, hs, _⟩ := h
    rw [RpA.length r]
    exact len ds Qd Ed hs
  · obtain ⟨F', ds, Qd, Ed, f', r, hs, q, qe⟩ := h
    obtain ⟨t, a, b⟩ := body cdv A outer s H E (fun x d _ => Ed x d) hr
    refine ⟨t, a, ?_⟩
    refine b H F' H _ _ _ _ (IA.start f' r) (fun x C d v dx F2 H2 σ n e1 e2 I g e3 r2 => qe x C d v dx F2 H2 e1 e2 I.pf I.ff g e3 r2) (law ds Qd Ed hs)
      ⟨fun n' σ' F2 H2 h1 I g => q _ _ F2 H2 h1 I.pf I.ff g .non, fun d n' σ' v F2 H2 h1 I g r2 => q d v F2 H2 h1 I.pf I.ff g r2, fun _ _ _ _ z => z.elim, fun _ _ _ _ z => z.elim⟩
theorem CalXK.mono' {j k : Nat} {nm p : Str} {sd : SpdX} (c : CalXK P w K mg base nm j p sd) (h : j ≤ k) : CalXK P w K mg base nm k p sd := by
  obtain ⟨f, fd, a, b⟩ := c.ex
  exact ⟨f, fd, a.mono h, b⟩
theorem sc_init : FnScope ["self", "value"] ["self", "value"] (defScope initS) := ⟨rfl, rfl, rfl, by decide +kernel, rfl, by decide +kernel, by decide +kernel⟩
theorem init_ok {f : Addr} {fd : FuncData} (F : Fun K "__init__" "PileError.__init__" initS f fd) (hm : mg "ValueError" = none) (vi : PySem.W.findCls K (.type "ValueError") (.type "type") "__init__" = some (.val (.builtin "ValueError.__init__"))) : FnOk P w K mg base CX0 1 f fd ["self", "value"] (spInit K) := by
  refine F.ok sc_init (fun vs H Q E h => ?_) (fun cdv A outer s H vs Q E hr h => ⟨tSeq (tDrop (tVeI K (tCons (tVar 0) (tCons (tVar 1) tNil)))) (tOst K "value" (tVar 0) (tVar 1)), PSs.nox ?_, ?_⟩)
  · obtain ⟨a, C, v, rfl, _⟩ := h
    rfl
  · exact pss_cons (ps_expr (pe_veinit rfl hm vi (pa_cons (pv 0) (pa_cons (pv 1) pa_nil))) rfl) (pss_one (ps_ost (pv 0) (pv 1)))
  · obtain ⟨a, C, v, rfl, T, nv, ea, q⟩ := h
    exact ⟨_, rfl, _, rfl, a, C, [v], rfl, by simp, T, ea, _, rfl, _, rfl, a, C, rfl, T, nv, .inl ⟨ea, fun dx n ne => q dx n ne⟩⟩
theorem c_exc (D : Defs K mg) : ExcK P w K mg base "Unreadable" (He.ga K "Unreadable") 1 := by
  obtain ⟨fd, F, b⟩ := D.iniF
  exact ⟨D.T.gC_Unreadable, D.oex, D.T.nv_Unreadable, _, fd, D.iniI, D.iniT, init_ok F D.fVE D.vi, b⟩
theorem c_is_effect (D : Defs K mg) : Cal0 P w K mg base "is_effect" 1 ["one"] sp_is_effect := by
  obtain ⟨fd, F, b⟩ := D.F_is_effect
  exact fun_d0 F sc_is_effect D.g_is_effect b (fun cdv A outer s H E hr => bd_is_effect D.T  cdv A outer s H E hr) (by intro ds Q h; first | (obtain ⟨_, rfl, _⟩ := h; rfl) | (obtain ⟨_, _, rfl, _⟩ := h; rfl) | (obtain ⟨_, _, _, rfl, _⟩ := h; rfl)) pl_is_effect
theorem c_least_of (D : Defs K mg) : Cal0 P w K mg base "least_of" 1 ["needs", "gives"] sp_least_of := by
  obtain ⟨fd, F, b⟩ := D.F_least_of
  exact fun_d0 F sc_least_of D.g_least_of b (fun cdv A outer s H E hr => bd_least_of D.T  cdv A outer s H E hr) (by intro ds Q h; first | (obtain ⟨_, rfl, _⟩ := h; rfl) | (obtain ⟨_, _, rfl, _⟩ := h; rfl) | (obtain ⟨_, _, _, rfl, _⟩ := h; rfl)) pl_least_of
theorem c_checked (D : Defs K mg) : Cal0 P w K mg base "checked" 2 ["one"] sp_checked := by
  obtain ⟨fd, F, b⟩ := D.F_checked
  exact fun_d0 F sc_checked D.g_checked b (fun cdv A outer s H E hr => bd_checked D.T ((c_least_of D).mono (by decide)) ((c_is_effect D).mono (by decide)) cdv A outer s H E hr) (by intro ds Q h; first | (obtain ⟨_, rfl, _⟩ := h; rfl) | (obtain ⟨_, _, rfl, _⟩ := h; rfl) | (obtain ⟨_, _, _, rfl, _⟩ := h; rfl)) pl_checked
theorem c_least (D : Defs K mg) : Cal0 P w K mg base "least" 3 ["needs", "gives"] sp_least := by
  obtain ⟨fd, F, b⟩ := D.F_least
  exact fun_d0 F sc_least D.g_least b (fun cdv A outer s H E hr => bd_least D.T ((c_checked D).mono (by decide)) cdv A outer s H E hr) (by intro ds Q h; first | (obtain ⟨_, rfl, _⟩ := h; rfl) | (obtain ⟨_, _, rfl, _⟩ := h; rfl) | (obtain ⟨_, _, _, rfl, _⟩ := h; rfl)) pl_least
theorem c_show_effect (D : Defs K mg) : Cal0 P w K mg base "show_effect" 4 ["one"] sp_show_effect := by
  obtain ⟨fd, F, b⟩ := D.F_show_effect
  exact fun_d0 F sc_show_effect D.g_show_effect b (fun cdv A outer s H E hr => bd_show_effect D.T ((c_least D).mono (by decide)) cdv A outer s H E hr) (by intro ds Q h; first | (obtain ⟨_, rfl, _⟩ := h; rfl) | (obtain ⟨_, _, rfl, _⟩ := h; rfl) | (obtain ⟨_, _, _, rfl, _⟩ := h; rfl)) pl_show_effect
theorem c_number_in (D : Defs K mg) : Cal0 P w K mg base "number_in" 1 ["text"] sp_number_in := by
  obtain ⟨fd, F, b⟩ := D.F_number_in
  exact fun_d0 F sc_number_in D.g_number_in b (fun cdv A outer s H E hr => bd_number_in D.T  cdv A outer s H E hr) (by intro ds Q h; first | (obtain ⟨_, rfl, _⟩ := h; rfl) | (obtain ⟨_, _, rfl, _⟩ := h; rfl) | (obtain ⟨_, _, _, rfl, _⟩ := h; rfl)) pl_number_in
theorem c_effect_in (D : Defs K mg) : Cal0 P w K mg base "effect_in" 4 ["text"] sp_effect_in := by
  obtain ⟨fd, F, b⟩ := D.F_effect_in
  exact fun_d0 F sc_effect_in D.g_effect_in b (fun cdv A outer s H E hr => bd_effect_in D.T ((c_least D).mono (by decide)) ((c_is_effect D).mono (by decide)) ((c_number_in D).mono (by decide)) cdv A outer s H E hr) (by intro ds Q h; first | (obtain ⟨_, rfl, _⟩ := h; rfl) | (obtain ⟨_, _, rfl, _⟩ := h; rfl) | (obtain ⟨_, _, _, rfl, _⟩ := h; rfl)) pl_effect_in
theorem c_is_title (D : Defs K mg) : Cal0 P w K mg base "is_title" 1 ["text"] sp_is_title := by
  obtain ⟨fd, F, b⟩ := D.F_is_title
  exact fun_d0 F sc_is_title D.g_is_title b (fun cdv A outer s H E hr => bd_is_title D.T  cdv A outer s H E hr) (by intro ds Q h; first | (obtain ⟨_, rfl, _⟩ := h; rfl) | (obtain ⟨_, _, rfl, _⟩ := h; rfl) | (obtain ⟨_, _, _, rfl, _⟩ := h; rfl)) pl_is_title
theorem c_closing_place (D : Defs K mg) : Cal0 P w K mg base "closing_place" 1 ["text", "begin"] sp_closing_place := by
  obtain ⟨fd, F, b⟩ := D.F_closing_place
  exact fun_d0 F sc_closing_place D.g_closing_place b (fun cdv A outer s H E hr => bd_closing_place D.T  cdv A outer s H E hr) (by intro ds Q h; first | (obtain ⟨_, rfl, _⟩ := h; rfl) | (obtain ⟨_, _, rfl, _⟩ := h; rfl) | (obtain ⟨_, _, _, rfl, _⟩ := h; rfl)) pl_closing_place
theorem c_show (D : Defs K mg) : ∀ d : Nat, Cal0 P w K mg base "show_step" (2 * d + 1) ["step"] (sp_show_step d) ∧ Cal0 P w K mg base "show_phrase" (2 * d + 2) ["phrase"] (sp_show_phrase d) := by
  obtain ⟨fd, F, b⟩ := D.F_show_step
  obtain ⟨fd2, F2, b2⟩ := D.F_show_phrase
  have up : ∀ d k, Cal0 P w K mg base "show_step" k ["step"] (sp_show_step d) → Cal0 P w K mg base "show_phrase" (k + 1) ["phrase"] (sp_show_phrase d) := fun d k c =>
    fun_d0 F2 sc_show_phrase D.g_show_phrase b2 (fun cdv A outer s H E hr => bd_show_phrase D.T (c) cdv A outer s H E hr) (by intro ds Q h; first | (obtain ⟨_, rfl, _⟩ := h; rfl) | (obtain ⟨_, _, rfl, _⟩ := h; rfl) | (obtain ⟨_, _, _, rfl, _⟩ := h; rfl)) (pl_show_phrase d)
  intro d
  induction d with
  | zero =>
    have c0 : Cal0 P w K mg base "show_step" 1 ["step"] (sp_show_step 0) := never0 F sc_show_step D.g_show_step b (fun ds Q h => by obtain ⟨_, _, h, _⟩ := h; exact absurd h (Nat.not_lt_zero _))
    exact ⟨c0, up 0 1 c0⟩
  | succ d ih =>
    have c1 : Cal0 P w K mg base "show_step" (2 * d + 2 + 1) ["step"] (sp_show_step (d + 1)) := fun_d0 F sc_show_step D.g_show_step b (fun cdv A outer s H E hr => bd_show_step D.T (ih.2) cdv A outer s H E hr) (by intro ds Q h; first | (obtain ⟨_, rfl, _⟩ := h; rfl) | (obtain ⟨_, _, rfl, _⟩ := h; rfl) | (obtain ⟨_, _, _, rfl, _⟩ := h; rfl)) (pl_show_step d)
    exact ⟨c1, up (d + 1) _ c1⟩
theorem c_phrase_in (D : Defs K mg) : ∀ c : Nat, Cal0 P w K mg base "phrase_in" (3 * c + 1) ["text"] (sp_phrase_in c) := by
  obtain ⟨fd, F, b⟩ := D.F_phrase_in
  obtain ⟨fd2, F2, b2⟩ := D.F_long_step
  obtain ⟨fd3, F3, b3⟩ := D.F_step_at
  intro c
  induction c with
  | zero => exact never0 F sc_phrase_in D.g_phrase_in b (fun ds Q h => by obtain ⟨_, _, _, h, _⟩ := h; exact absurd h (Nat.not_lt_zero _))
  | succ c ih =>
    have c1 : Cal0 P w K mg base "long_step" (3 * c + 1 + 1) ["text"] (sp_long_step (c + 1)) := fun_d0 F2 sc_long_step D.g_long_step b2 (fun cdv A outer s H E hr => bd_long_step D.T ((c_number_in D).mono (by omega)) (ih) ((c_closing_place D).mono (by omega)) cdv A outer s H E hr) (by intro ds Q h; first | (obtain ⟨_, rfl, _⟩ := h; rfl) | (obtain ⟨_, _, rfl, _⟩ := h; rfl) | (obtain ⟨_, _, _, rfl, _⟩ := h; rfl)) (pl_long_step c)
    have c2 : Cal0 P w K mg base "step_at" (3 * c + 2 + 1) ["text"] (sp_step_at (c + 1)) := fun_d0 F3 sc_step_at D.g_step_at b3 (fun cdv A outer s H E hr => bd_step_at D.T ((c_is_title D).mono (by omega)) (c1) cdv A outer s H E hr) (by intro ds Q h; first | (obtain ⟨_, rfl, _⟩ := h; rfl) | (obtain ⟨_, _, rfl, _⟩ := h; rfl) | (obtain ⟨_, _, _, rfl, _⟩ := h; rfl)) (pl_step_at (c + 1))
    exact fun_d0 F sc_phrase_in D.g_phrase_in b (fun cdv A outer s H E hr => bd_phrase_in D.T (c2) cdv A outer s H E hr) (by intro ds Q h; first | (obtain ⟨_, rfl, _⟩ := h; rfl) | (obtain ⟨_, _, rfl, _⟩ := h; rfl) | (obtain ⟨_, _, _, rfl, _⟩ := h; rfl)) (pl_phrase_in (c + 1))
theorem c_read_effect (D : Defs K mg) : CalX P w K mg base "read_effect" 5 ["text"] sp_read_effect := by
  obtain ⟨fd, F, b⟩ := D.F_read_effect
  exact fun_dX F sc_read_effect D.g_read_effect b (fun cdv A outer s H E Ed hr => bd_read_effect D.T ((c_show_effect D).mono (by decide)) ((c_effect_in D).mono (by decide)) (c_exc D) (by decide) cdv A outer s H E Ed hr) (by intro ds Q E h; obtain ⟨_, rfl, _⟩ := h; rfl) pl_read_effect
theorem ck_read_effect (D : Defs K mg) : CalXK P w K mg base "read_effect" 5 "text" sp_read_effect := by
  obtain ⟨fd, F, b⟩ := D.kw_read_effect
  exact fun_dXK F sc_read_effect D.g_read_effect b (fun cdv A outer s H E Ed hr => bd_read_effect D.T ((c_show_effect D).mono (by decide)) ((c_effect_in D).mono (by decide)) (c_exc D) (by decide) cdv A outer s H E Ed hr) (by intro ds Q E h; obtain ⟨_, rfl, _⟩ := h; rfl) pl_read_effect
theorem c_read_phrase (D : Defs K mg) : CalX P w K mg base "read_phrase" 155 ["text"] (sp_read_phrase 51) := by
  obtain ⟨fd, F, b⟩ := D.F_read_phrase
  exact fun_dX (k := 154) F sc_read_phrase D.g_read_phrase b (fun cdv A outer s H E Ed hr => bd_read_phrase D.T ((c_show D 51).2.mono (by decide)) ((c_phrase_in D 51).mono (by decide)) (c_exc D) (by decide) cdv A outer s H E Ed hr) (by intro ds Q E h; obtain ⟨_, rfl, _⟩ := h; rfl) (pl_read_phrase 51)
theorem c__law_caught_one (D : Defs K mg) : Cal0 P w K mg base "_law_caught_one" 156 ["_law_wording", "_law_way"] (sp_caught_one 51) := by
  obtain ⟨fd, F, b⟩ := D.F__law_caught_one
  exact fun_d0 F sc__law_caught_one D.g__law_caught_one b (fun cdv A outer s H E hr => bd__law_caught_one D.T ((c_show_effect D).mono (by decide)) ((c_read_effect D).mono (by decide)) (CalXK.mono' (ck_read_effect D) (by decide)) ((c_show D 51).2.mono (by decide)) ((c_read_phrase D)) cdv A outer s H E hr) (by intro ds Q h; first | (obtain ⟨_, rfl, _⟩ := h; rfl) | (obtain ⟨_, _, rfl, _⟩ := h; rfl) | (obtain ⟨_, _, _, rfl, _⟩ := h; rfl)) (pl_caught_one 51)
theorem c__law_number_of (D : Defs K mg) : Cal0 P w K mg base "_law_number_of" 1 ["_law_piece"] sp_law_number_of := by
  obtain ⟨fd, F, b⟩ := D.F__law_number_of
  exact fun_d0 F sc__law_number_of D.g__law_number_of b (fun cdv A outer s H E hr => bd__law_number_of D.T  cdv A outer s H E hr) (by intro ds Q h; first | (obtain ⟨_, rfl, _⟩ := h; rfl) | (obtain ⟨_, _, rfl, _⟩ := h; rfl) | (obtain ⟨_, _, _, rfl, _⟩ := h; rfl)) pl_law_number_of
theorem c__law_is_title (D : Defs K mg) : Cal0 P w K mg base "_law_is_title" 1 ["_law_piece"] sp_law_is_title := by
  obtain ⟨fd, F, b⟩ := D.F__law_is_title
  exact fun_d0 F sc__law_is_title D.g__law_is_title b (fun cdv A outer s H E hr => bd__law_is_title D.T  cdv A outer s H E hr) (by intro ds Q h; first | (obtain ⟨_, rfl, _⟩ := h; rfl) | (obtain ⟨_, _, rfl, _⟩ := h; rfl) | (obtain ⟨_, _, _, rfl, _⟩ := h; rfl)) pl_law_is_title
theorem c__law_least (D : Defs K mg) : Cal0 P w K mg base "_law_least" 1 ["_law_needs", "_law_gives"] sp_law_least := by
  obtain ⟨fd, F, b⟩ := D.F__law_least
  exact fun_d0 F sc__law_least D.g__law_least b (fun cdv A outer s H E hr => bd__law_least D.T  cdv A outer s H E hr) (by intro ds Q h; first | (obtain ⟨_, rfl, _⟩ := h; rfl) | (obtain ⟨_, _, rfl, _⟩ := h; rfl) | (obtain ⟨_, _, _, rfl, _⟩ := h; rfl)) pl_law_least
theorem c__law_effect_of (D : Defs K mg) : Cal0 P w K mg base "_law_effect_of" 2 ["_law_wording"] sp_law_effect_of := by
  obtain ⟨fd, F, b⟩ := D.F__law_effect_of
  exact fun_d0 F sc__law_effect_of D.g__law_effect_of b (fun cdv A outer s H E hr => bd__law_effect_of D.T ((c__law_least D).mono (by decide)) ((c__law_number_of D).mono (by decide)) cdv A outer s H E hr) (by intro ds Q h; first | (obtain ⟨_, rfl, _⟩ := h; rfl) | (obtain ⟨_, _, rfl, _⟩ := h; rfl) | (obtain ⟨_, _, _, rfl, _⟩ := h; rfl)) pl_law_effect_of
theorem c__law_close (D : Defs K mg) : Cal0 P w K mg base "_law_close" 1 ["_law_wording", "_law_spot_here"] sp_law_close := by
  obtain ⟨fd, F, b⟩ := D.F__law_close
  exact fun_d0 F sc__law_close D.g__law_close b (fun cdv A outer s H E hr => bd__law_close D.T  cdv A outer s H E hr) (by intro ds Q h; first | (obtain ⟨_, rfl, _⟩ := h; rfl) | (obtain ⟨_, _, rfl, _⟩ := h; rfl) | (obtain ⟨_, _, _, rfl, _⟩ := h; rfl)) pl_law_close
theorem c__law_phrase_of (D : Defs K mg) : ∀ c : Nat, Cal0 P w K mg base "_law_phrase_of" (2 * c + 1) ["_law_wording"] (sp_law_phrase_of c) := by
  obtain ⟨fd, F, b⟩ := D.F__law_phrase_of
  obtain ⟨fd2, F2, b2⟩ := D.F__law_head
  intro c
  induction c with
  | zero => exact never0 F sc__law_phrase_of D.g__law_phrase_of b (fun ds Q h => by obtain ⟨_, _, _, h, _⟩ := h; exact absurd h (Nat.not_lt_zero _))
  | succ c ih =>
    have c1 : Cal0 P w K mg base "_law_head" (2 * c + 1 + 1) ["_law_wording"] (sp_law_head (c + 1)) := fun_d0 F2 sc__law_head D.g__law_head b2 (fun cdv A outer s H E hr => bd__law_head D.T ((c__law_is_title D).mono (by omega)) ((c__law_number_of D).mono (by omega)) (ih) ((c__law_close D).mono (by omega)) cdv A outer s H E hr) (by intro ds Q h; first | (obtain ⟨_, rfl, _⟩ := h; rfl) | (obtain ⟨_, _, rfl, _⟩ := h; rfl) | (obtain ⟨_, _, _, rfl, _⟩ := h; rfl)) (pl_law_head c)
    exact fun_d0 F sc__law_phrase_of D.g__law_phrase_of b (fun cdv A outer s H E hr => bd__law_phrase_of D.T (c1) cdv A outer s H E hr) (by intro ds Q h; first | (obtain ⟨_, rfl, _⟩ := h; rfl) | (obtain ⟨_, _, rfl, _⟩ := h; rfl) | (obtain ⟨_, _, _, rfl, _⟩ := h; rfl)) (pl_law_phrase_of (c + 1))
theorem c__law_coin (D : Defs K mg) : CalP P w K mg base "_law_coin" 1 ["_law_purse_here", "_law_many"] sp_coin := by
  obtain ⟨fd, F, b⟩ := D.F__law_coin
  exact fun_dP F sc__law_coin D.g__law_coin b (fun cdv A outer s H E hr => bd__law_coin D.T  cdv A outer s H E hr) (by intro pds ds Q h; first | (obtain ⟨_, _, rfl, _⟩ := h; rfl) | (obtain ⟨_, _, _, rfl, _⟩ := h; rfl) | (obtain ⟨_, _, _, _, rfl, _⟩ := h; rfl)) pl_coin
theorem c__law_words (D : Defs K mg) : CalP P w K mg base "_law_words" 2 ["_law_purse_here", "_law_many"] sp_words := by
  obtain ⟨fd, F, b⟩ := D.F__law_words
  exact fun_dP F sc__law_words D.g__law_words b (fun cdv A outer s H E hr => bd__law_words D.T ((c__law_coin D).mono (by decide)) cdv A outer s H E hr) (by intro pds ds Q h; first | (obtain ⟨_, _, rfl, _⟩ := h; rfl) | (obtain ⟨_, _, _, rfl, _⟩ := h; rfl) | (obtain ⟨_, _, _, _, rfl, _⟩ := h; rfl)) pl_words
theorem c__law_drawn_effect (D : Defs K mg) : CalP P w K mg base "_law_drawn_effect" 2 ["_law_purse_here", "_law_needs", "_law_length"] sp_drawn_effect := by
  obtain ⟨fd, F, b⟩ := D.F__law_drawn_effect
  exact fun_dP F sc__law_drawn_effect D.g__law_drawn_effect b (fun cdv A outer s H E hr => bd__law_drawn_effect D.T ((c__law_least D).mono (by decide)) ((c__law_coin D).mono (by decide)) cdv A outer s H E hr) (by intro pds ds Q h; first | (obtain ⟨_, _, rfl, _⟩ := h; rfl) | (obtain ⟨_, _, _, rfl, _⟩ := h; rfl) | (obtain ⟨_, _, _, _, rfl, _⟩ := h; rfl)) pl_drawn_effect
theorem c__law_drawn_phrase (D : Defs K mg) : ∀ d : Nat, CalP P w K mg base "_law_drawn_phrase" (d + 2) ["_law_purse_here", "_law_labels", "_law_many", "_law_deep", "_law_most"] (sp_drawn_phrase d) := by
  obtain ⟨fd, F, b⟩ := D.F__law_drawn_phrase
  intro d
  induction d with
  | zero =>
    have c0 : CalP P w K mg base "_law_drawn_phrase" 1 ["_law_purse_here", "_law_labels", "_law_many", "_law_deep", "_law_most"] (fun _ _ _ => False) := neverP F sc__law_drawn_phrase D.g__law_drawn_phrase b (fun _ _ _ h => h)
    exact fun_dP F sc__law_drawn_phrase D.g__law_drawn_phrase b (fun cdv A outer s H E hr => bd__law_drawn_phrase D.T (c__law_coin D) (c0) cdv A outer s H E hr) (by intro pds ds Q h; first | (obtain ⟨_, _, rfl, _⟩ := h; rfl) | (obtain ⟨_, _, _, rfl, _⟩ := h; rfl) | (obtain ⟨_, _, _, _, rfl, _⟩ := h; rfl)) (pl_drawn_phrase 0 _ (fun e h => by omega))
  | succ d ih =>
    exact fun_dP F sc__law_drawn_phrase D.g__law_drawn_phrase b (fun cdv A outer s H E hr => bd__law_drawn_phrase D.T ((c__law_coin D).mono (by omega)) (ih) cdv A outer s H E hr) (by intro pds ds Q h; first | (obtain ⟨_, _, rfl, _⟩ := h; rfl) | (obtain ⟨_, _, _, rfl, _⟩ := h; rfl) | (obtain ⟨_, _, _, _, rfl, _⟩ := h; rfl)) (pl_drawn_phrase (d + 1) _ (fun e h => by cases h; rfl))
theorem c__law_effect_text (D : Defs K mg) : Cal0 P w K mg base "_law_effect_text" 1 ["_law_one"] sp_law_effect_text := by
  obtain ⟨fd, F, b⟩ := D.F__law_effect_text
  exact fun_d0 F sc__law_effect_text D.g__law_effect_text b (fun cdv A outer s H E hr => bd__law_effect_text D.T  cdv A outer s H E hr) (by intro ds Q h; first | (obtain ⟨_, rfl, _⟩ := h; rfl) | (obtain ⟨_, _, rfl, _⟩ := h; rfl) | (obtain ⟨_, _, _, rfl, _⟩ := h; rfl)) pl_law_effect_text
theorem c__law_phrase_text (D : Defs K mg) : ∀ d : Nat, Cal0 P w K mg base "_law_phrase_text" (d + 1) ["_law_steps_here"] (sp_law_phrase_text d) := by
  obtain ⟨fd, F, b⟩ := D.F__law_phrase_text
  intro d
  induction d with
  | zero => exact never0 F sc__law_phrase_text D.g__law_phrase_text b (fun ds Q h => by obtain ⟨_, _, h, _⟩ := h; exact absurd h (Nat.not_lt_zero _))
  | succ d ih => exact fun_d0 F sc__law_phrase_text D.g__law_phrase_text b (fun cdv A outer s H E hr => bd__law_phrase_text D.T (ih) cdv A outer s H E hr) (by intro ds Q h; first | (obtain ⟨_, rfl, _⟩ := h; rfl) | (obtain ⟨_, _, rfl, _⟩ := h; rfl) | (obtain ⟨_, _, _, rfl, _⟩ := h; rfl)) (pl_law_phrase_text d)
theorem c__law_odd_one (D : Defs K mg) : CalP P w K mg base "_law_odd_one" 2 ["_law_purse_here", "_law_wording"] sp_odd_one := by
  obtain ⟨fd, F, b⟩ := D.F__law_odd_one
  exact fun_dP F sc__law_odd_one D.g__law_odd_one b (fun cdv A outer s H E hr => bd__law_odd_one D.T ((c__law_coin D).mono (by decide)) cdv A outer s H E hr) (by intro pds ds Q h; first | (obtain ⟨_, _, rfl, _⟩ := h; rfl) | (obtain ⟨_, _, _, rfl, _⟩ := h; rfl) | (obtain ⟨_, _, _, _, rfl, _⟩ := h; rfl)) pl_odd_one
theorem c__law_marred_one (D : Defs K mg) : CalP P w K mg base "_law_marred_one" 3 ["_law_purse_here", "_law_wording"] sp_marred_one := by
  obtain ⟨fd, F, b⟩ := D.F__law_marred_one
  exact fun_dP F sc__law_marred_one D.g__law_marred_one b (fun cdv A outer s H E hr => bd__law_marred_one D.T ((c__law_coin D).mono (by decide)) ((c__law_odd_one D).mono (by decide)) cdv A outer s H E hr) (by intro pds ds Q h; first | (obtain ⟨_, _, rfl, _⟩ := h; rfl) | (obtain ⟨_, _, _, rfl, _⟩ := h; rfl) | (obtain ⟨_, _, _, _, rfl, _⟩ := h; rfl)) pl_marred_one
theorem c__law_right (D : Defs K mg) : CalP P w K mg base "_law_right" 157 ["_law_purse_here"] sp_right := by
  obtain ⟨fd, F, b⟩ := D.F__law_right
  exact fun_dP F sc__law_right D.g__law_right b (fun cdv A outer s H E hr => bd__law_right D.T (c__law_caught_one D) ((c__law_phrase_of D 51).mono (by decide)) ((c__law_effect_of D).mono (by decide)) ((c__law_marred_one D).mono (by decide)) ((c__law_coin D).mono (by decide)) ((c__law_phrase_text D 4).mono (by decide)) ((c__law_drawn_phrase D 3).mono (by decide)) ((c__law_effect_text D).mono (by decide)) ((c__law_drawn_effect D).mono (by decide)) ((c__law_words D).mono (by decide)) cdv A outer s H E hr) (by intro pds ds Q h; first | (obtain ⟨_, _, rfl, _⟩ := h; rfl) | (obtain ⟨_, _, _, rfl, _⟩ := h; rfl) | (obtain ⟨_, _, _, _, rfl, _⟩ := h; rfl)) pl_right
theorem c__law_purse (D : Defs K mg) (ns : List Int) : Cal P w K mg base CX0 "_law_purse" 1 ["_law_script", "_law_place"] (spN K ns sdPurse) := by
  obtain ⟨fd, F, b⟩ := D.F__law_purse
  exact fun_dN F sc__law_purse D.g__law_purse b rfl (fun a cdv A outer s H E hr => bd__law_purse D.T cdv A outer s H E hr) (fun a i Qd h => pl_purse a ns i Qd h)
theorem law_ok (D : Defs K mg) {fd : FuncData} (F : Fun K "law" "law" (topS 47) (He.ga K "law") fd) : FnOk P w K mg base CX0 158 (He.ga K "law") fd ["_law_script"] (spLaw K) :=
  fun_dLaw F sc_law (fun a ns cdv A outer s H E hr => bd_law D.T (c__law_right D) ((c__law_purse D ns).mono (by decide)) cdv A outer s H E hr) pl_law
end
theorem facts {P : Program} {w : World} {K : PySem.W.Frag} {h hh : Heap} {mg : Str → Option Value} {f : Addr} (X : K.In h) (G : h.Ns mainGlobals mg) (hfa : mg ("law" : Str) = some (.ref f)) (c : He.SaysX faA fnD [] [] exB w hh K) :
    ∃ fd : FuncData, (∀ (s : Shared) (v : Value), BindsTo s fd ⟨[v], []⟩ [("_law_script", v)]) ∧ ∀ base : Heap, K.In base → base.Ns mainGlobals mg → FnOk P w K mg base CX0 158 f fd ["_law_script"] (spLaw K) := by
  have D := defs_of X G c
  obtain ⟨fd, F, b⟩ := D.F_law
  have e := hfa.symm.trans D.g_law
  cases e
  refine ⟨fd, fun s v => ?_, fun base _ _ => law_ok D F⟩
  obtain ⟨oc, od, kV, doc, pm, an, cdv, ct, osl, rfl, _, _⟩ := F.ex
  exact .of_eq rfl
end K55
open PySem PySem.W PySem.Calls PyProof.Rows
theorem PySem.Challenge.cw_pileshifts_k55_phrases_that_are_none_holds : PySem.Challenge.rw_pileshifts_k55_phrases_that_are_none.Holds := by
  w_on; o_law
  refine HandSHeadRun.head_any (r := OpenLaw.row PySem.Challenge.rw_pileshifts_k55_phrases_that_are_none) (q := view (OpenLaw.row PySem.Challenge.rw_pileshifts_k55_phrases_that_are_none).prog [47]) (H := K55.hk) (ob := K55.ob) (M := 3000) (loose := K55.loose) (d := HandSHeadRun.topDef (OpenLaw.row PySem.Challenge.rw_pileshifts_k55_phrases_that_are_none).prog 47) (kwd := []) K55.ob_eq
    (by kernel_rfl) (fun s => by kernel_rfl) K55.run (by kernel_rfl) (by kernel_rfl) (by kernel_rfl) (by rfl) (by first | assumption | decide +kernel) (by decide +kernel) ⟨rfl, rfl, rfl, rfl, rfl, by decide +kernel⟩ ?hw ?hc
  case hw => w_witness2
  case hc =>
    refine L2.walk_ofE (l := PySem.Challenge.rw_pileshifts_k55_phrases_that_are_none) (n := 63) (k := 158) (x := "_law_script") (CX := L2.CX0) rfl (by decide) (by kernel_rfl) ⟨rfl, by decide, by decide⟩ ?F (fun _ _ _ _ z => z)
    intro w mg fa h Y G hmg0
    obtain ⟨K, KX, c⟩ := Y
    have hmg : mg ("law" : PySem.Str) = some (.ref fa) := by
      have e : (HandSHeadRun.topDef (OpenLaw.row PySem.Challenge.rw_pileshifts_k55_phrases_that_are_none).prog 47).name = ("law" : PySem.Str) := by kernel_rfl
      rw [← e]
      exact hmg0
    obtain ⟨fd, hb, hF⟩ := K55.facts (P := (PySem.Challenge.rw_pileshifts_k55_phrases_that_are_none).prog) (w := w) KX G hmg c
    exact ⟨K, fd, DL.spLaw K, KX, hb, fun H a ns hl _ hS => ⟨a, ns, rfl, by omega, hS, fun _ => rfl⟩, hF⟩

