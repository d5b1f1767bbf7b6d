import PyProof.Rows.All
import Wide.All
import OpenK.AllK
import Wide.FinOn
import HandS.ForMost
import HandS.Walk
import HandS.Conv
import HandS.Zip
import HandS.Strs
import HandS.SortInts
import HandS.SetFor
import HandS.NoneIn
import HandS.IsInst
import HandS.Wide
import HandS.Defaults
import HandS.DictTup
import KE.GoesEnum
import KE.GoesZip
import KE.GoesMore
import KE.KDictZip
import PyProof.ListNew
import KE.KDictPairs
import PySem.Challenge.RW_propfall_k54_whole_strengths_for_several
import KE.KStateDown
import Lean
import HandS.Head0
import HandS.Head1
import HandS.Head2
import HandS.HeadEnd
import HandS.HeadHook1
import HandS.HeadHook2
set_option Elab.async false
set_option linter.all false
set_option maxRecDepth 100000
set_option maxHeartbeats 4000000
/-! A small typed logic over the hand layer: what a value is (Ty), contexts of slots (GS), heaps with a part that stays (WI, Gr), triples for expressions, tests, blocks. -/
namespace Lg
open PySem PySem.Spec PyProof.Rows L2
/-! ### heaps -/
def strip : HO → HO
  | .frz _ (.dT kvs) => .dT kvs
  | o => o
def Le (H H' : Hp) : Prop := ∀ a o, H a = some o → ∃ o', H' a = some o' ∧ strip o' = strip o
theorem Le.refl (H : Hp) : Le H H := fun _ o h => ⟨o, h, rfl⟩
theorem Le.trans {H H1 H2 : Hp} (a : Le H H1) (b : Le H1 H2) : Le H H2 := fun c o h => by
  obtain ⟨o1, h1, e1⟩ := a c o h
  obtain ⟨o2, h2, e2⟩ := b c o1 h1
  exact ⟨o2, h2, e2.trans e1⟩
theorem Le.of {H H' : Hp} (s : Same H H') : Le H H' := fun a o h => ⟨o, s a o h, rfl⟩
def Solid (o : HO) : Prop := ∀ o', strip o' = strip o → o' = o
theorem solid_tup {xs : List V} : Solid (.tup xs) := fun o' h => by
  cases o' with
  | frz ob u => cases u <;> exact nomatch h
  | tup ys => exact h
  | _ => exact nomatch h
theorem solid_lst {xs : List V} : Solid (.lst xs) := fun o' h => by
  cases o' with
  | frz ob u => cases u <;> exact nomatch h
  | lst ys => exact h
  | _ => exact nomatch h
theorem solid_dK {xs : List (Key × V)} : Solid (.dK xs) := fun o' h => by
  cases o' with
  | frz ob u => cases u <;> exact nomatch h
  | dK ys => exact h
  | _ => exact nomatch h
theorem solid_ins {C dx : Addr} {fs : List (Str × V)} : Solid (.ins C dx fs) := fun o' h => by
  cases o' with
  | frz ob u => cases u <;> exact nomatch h
  | ins _ _ _ => exact h
  | _ => exact nomatch h
theorem solid_frzL {ob : Obj} {xs : List V} : Solid (.frz ob (.lst xs)) := fun o' h => by
  cases o' with
  | frz ob u => cases u <;> first | exact h | cases h
  | _ => exact nomatch h
theorem solid_frzT {ob : Obj} {xs : List V} : Solid (.frz ob (.tup xs)) := fun o' h => by
  cases o' with
  | frz ob u => cases u <;> first | exact h | cases h
  | _ => exact nomatch h
theorem Le.solid {H H' : Hp} {a : Addr} {o : HO} (l : Le H H') (s : Solid o) (h : H a = some o) : H' a = some o := by
  obtain ⟨o', h', e⟩ := l a o h
  rw [h', s o' e]
theorem Le.sqL {K : PySem.W.Frag} {H H' : Hp} {a : Addr} {xs : List V} (l : Le H H') (h : SqL K H a xs) : SqL K H' a xs := by
  rcases h with (h | ⟨o, h⟩) | h
  · exact .inl (.inl (l.solid solid_lst h))
  · exact .inl (.inr ⟨o, l.solid solid_frzL h⟩)
  · exact .inr h
theorem Le.sqT {K : PySem.W.Frag} {H H' : Hp} {a : Addr} {xs : List V} (l : Le H H') (h : SqT K H a xs) : SqT K H' a xs := by
  rcases h with (h | ⟨o, h⟩) | h
  · exact .inl (.inl (l.solid solid_tup h))
  · exact .inl (.inr ⟨o, l.solid solid_frzT h⟩)
  · exact .inr h
theorem same_sqT {K : PySem.W.Frag} {H H' : Hp} {a : Addr} {xs : List V} (l : Same H H') (h : SqT K H a xs) : SqT K H' a xs := (Le.of l).sqT h
theorem same_new {H : Hp} {p : Addr} {o : HO} (h : H p = none) : Same H (upd H p o) := fun a u e => by
  rw [upd_ne (ne_of_none e h)]
  exact e
theorem same_upd2 {H H' : Hp} {p : Addr} {o : HO} (s : Same H H') : Same (upd H p o) (upd H' p o) := fun a u e => by
  by_cases h : a = p
  · subst h; rw [upd_same] at e ⊢; exact e
  · rw [upd_ne h] at e ⊢; exact s a u e
/-! ### types: what is true of a value, as the heap grows -/
structure Ty where
  p : V → Hp → Prop
  mo : ∀ {v H H'}, Le H H' → p v H → p v H'
def TsP : List Ty → List V → Hp → Prop
  | [], [], _ => True
  | T :: Ts, v :: vs, H => T.p v H ∧ TsP Ts vs H
  | _, _, _ => False
theorem TsP.mo {H H' : Hp} (l : Le H H') : ∀ {Ts : List Ty} {vs : List V}, TsP Ts vs H → TsP Ts vs H'
  | [], [], _ => trivial
  | _ :: _, _ :: _, h => ⟨Ty.mo _ l h.1, TsP.mo l h.2⟩
  | [], _ :: _, h => h.elim
  | _ :: _, [], h => h.elim
theorem TsP.len {H : Hp} : ∀ {Ts : List Ty} {vs : List V}, TsP Ts vs H → vs.length = Ts.length
  | [], [], _ => rfl
  | _ :: _, _ :: _, h => congrArg Nat.succ (TsP.len h.2)
  | [], _ :: _, h => h.elim
  | _ :: _, [], h => h.elim
theorem TsP.get {H : Hp} : ∀ {Ts : List Ty} {vs : List V} {i : Nat} {T : Ty}, TsP Ts vs H → Ts[i]? = some T → ∃ v, vs[i]? = some v ∧ T.p v H
  | _ :: _, v :: _, 0, T, h, e => by
    cases e
    exact ⟨v, rfl, h.1⟩
  | _ :: Ts, _ :: vs, i + 1, T, h, e => by
    obtain ⟨v, h1, h2⟩ := TsP.get (i := i) h.2 (by simpa using e)
    exact ⟨v, by simpa using h1, h2⟩
  | [], _, _, _, _, e => by simp at e
  | _ :: _, [], _, _, h, _ => h.elim
theorem TsP.get' {H : Hp} : ∀ {Ts : List Ty} {vs : List V} {i : Nat} {v : V}, TsP Ts vs H → vs[i]? = some v → ∃ T, Ts[i]? = some T ∧ T.p v H
  | T :: _, _ :: _, 0, v, h, e => by
    cases e
    exact ⟨T, rfl, h.1⟩
  | _ :: Ts, _ :: vs, i + 1, v, h, e => by
    obtain ⟨v, h1, h2⟩ := TsP.get' (i := i) h.2 (by simpa using e)
    exact ⟨v, by simpa using h1, h2⟩
  | [], [], _, _, _, e => by simp at e
  | [], _ :: _, _, _, h, _ => h.elim
  | _ :: _, [], _, _, _, e => by simp at e
theorem TsP.app {H : Hp} : ∀ {Ts Us : List Ty} {vs us : List V}, TsP Ts vs H → TsP Us us H → TsP (Ts ++ Us) (vs ++ us) H
  | [], _, [], _, _, k => k
  | _ :: _, _, _ :: _, _, h, k => ⟨h.1, TsP.app h.2 k⟩
  | [], _, _ :: _, _, h, _ => h.elim
  | _ :: _, _, [], _, h, _ => h.elim
theorem TsP.drop {H : Hp} : ∀ {Ts : List Ty} {vs : List V} (n : Nat), TsP Ts vs H → TsP (Ts.drop n) (vs.drop n) H
  | [], [], n, _ => by simp [TsP]
  | _ :: _, _ :: _, 0, h => h
  | _ :: _, _ :: _, n + 1, h => TsP.drop n h.2
  | [], _ :: _, _, h => h.elim
  | _ :: _, [], _, h => h.elim
theorem TsP.take {H : Hp} : ∀ {Ts : List Ty} {vs : List V} (n : Nat), TsP Ts vs H → TsP (Ts.take n) (vs.take n) H
  | [], [], n, _ => by simp [TsP]
  | _ :: _, _ :: _, 0, _ => trivial
  | _ :: _, _ :: _, n + 1, h => ⟨h.1, TsP.take n h.2⟩
  | [], _ :: _, _, h => h.elim
  | _ :: _, [], _, h => h.elim
theorem TsP.set {H : Hp} {T : Ty} {v : V} (hv : T.p v H) : ∀ {Ts : List Ty} {vs : List V} (n : Nat), TsP Ts vs H → TsP (Ts.set n T) (vs.set n v) H
  | [], [], n, _ => by simp [TsP]
  | _ :: _, _ :: _, 0, h => ⟨hv, h.2⟩
  | _ :: _, _ :: _, n + 1, h => ⟨h.1, TsP.set hv n h.2⟩
  | [], _ :: _, _, h => h.elim
  | _ :: _, [], _, h => h.elim
theorem TsP.erase {H : Hp} : ∀ {Ts : List Ty} {vs : List V} (n : Nat), TsP Ts vs H → TsP (Ts.eraseIdx n) (vs.eraseIdx n) H
  | [], [], n, _ => by simp [TsP]
  | _ :: _, _ :: _, 0, h => h.2
  | _ :: _, _ :: _, n + 1, h => ⟨h.1, TsP.erase n h.2⟩
  | [], _ :: _, _, h => h.elim
  | _ :: _, [], _, h => h.elim
def tInt (i : Int) : Ty := ⟨fun v _ => v = .int i, fun _ h => h⟩
def tBl (b : Bool) : Ty := ⟨fun v _ => v = .bl b, fun _ h => h⟩
def tNon : Ty := ⟨fun v _ => v = .non, fun _ h => h⟩
def tStr (z : Str) : Ty := ⟨fun v _ => v = .str z, fun _ h => h⟩
def tTy (z : String) : Ty := ⟨fun v _ => v = .ty z, fun _ h => h⟩
def tRef (a : Addr) : Ty := ⟨fun v _ => v = .ref a, fun _ h => h⟩
def tTup (K : PySem.W.Frag) (Ts : List Ty) : Ty := ⟨fun v H => ∃ a xs, v = .ref a ∧ SqT K H a xs ∧ TsP Ts xs H, fun l ⟨a, xs, e, h, t⟩ => ⟨a, xs, e, l.sqT h, t.mo l⟩⟩
/-- a list that stands in the heap by itself -/
def tLst (Ts : List Ty) : Ty := ⟨fun v H => ∃ a xs, v = .ref a ∧ H a = some (.lst xs) ∧ TsP Ts xs H, fun l ⟨a, xs, e, h, t⟩ => ⟨a, xs, e, l.solid solid_lst h, t.mo l⟩⟩
/-- a list, also the script -/
def tSq (K : PySem.W.Frag) (Ts : List Ty) : Ty := ⟨fun v H => ∃ a xs, v = .ref a ∧ SqL K H a xs ∧ TsP Ts xs H, fun l ⟨a, xs, e, h, t⟩ => ⟨a, xs, e, l.sqL h, t.mo l⟩⟩
/-- a key as a tuple that is tracked -/
def tKey (ks : List Key) : Ty := ⟨fun v H => ∃ a, v = .ref a ∧ H a = some (.tup (ks.map kV)), fun l ⟨a, e, h⟩ => ⟨a, e, l.solid solid_tup h⟩⟩
def KvP {κ : Type} : List (κ × Ty) → List (κ × V) → Hp → Prop
  | [], [], _ => True
  | (k, T) :: ks, (k', v) :: vs, H => k = k' ∧ T.p v H ∧ KvP ks vs H
  | _, _, _ => False
theorem KvP.mo {κ : Type} {H H' : Hp} (l : Le H H') : ∀ {ks : List (κ × Ty)} {vs : List (κ × V)}, KvP ks vs H → KvP ks vs H'
  | [], [], _ => trivial
  | (_, _) :: _, (_, _) :: _, h => ⟨h.1, Ty.mo _ l h.2.1, KvP.mo l h.2.2⟩
  | [], _ :: _, h => h.elim
  | _ :: _, [], h => h.elim
theorem KvP.len {κ : Type} {H : Hp} : ∀ {ks : List (κ × Ty)} {vs : List (κ × V)}, KvP ks vs H → vs.length = ks.length
  | [], [], _ => rfl
  | (_, _) :: _, (_, _) :: _, h => congrArg Nat.succ (KvP.len h.2.2)
  | [], _ :: _, h => h.elim
  | _ :: _, [], h => h.elim
/-- a dict with tuple keys (it may be locked), with int and text keys -/
def tDT (ks : List (List Key × Ty)) : Ty := ⟨fun v H => ∃ a o kvs, v = .ref a ∧ H a = some o ∧ strip o = .dT kvs ∧ KvP ks kvs H, fun l ⟨a, o, kvs, e, h, s, t⟩ => by
  obtain ⟨o', h', e'⟩ := l a o h
  exact ⟨a, o', kvs, e, h', e'.trans s, t.mo l⟩⟩
def tDK (ks : List (Key × Ty)) : Ty := ⟨fun v H => ∃ a kvs, v = .ref a ∧ H a = some (.dK kvs) ∧ KvP ks kvs H, fun l ⟨a, kvs, e, h, t⟩ => ⟨a, kvs, e, l.solid solid_dK h, t.mo l⟩⟩
def tIns (C : Addr) (fs : List (Str × Ty)) : Ty := ⟨fun v H => ∃ a dx xs, v = .ref a ∧ H a = some (.ins C dx xs) ∧ KvP fs xs H, fun l ⟨a, dx, xs, e, h, t⟩ => ⟨a, dx, xs, e, l.solid solid_ins h, t.mo l⟩⟩
/-- one more fact, of no value -/
def tWith (P : Prop) (T : Ty) : Ty := ⟨fun v H => P ∧ T.p v H, fun l h => ⟨h.1, T.mo l h.2⟩⟩
def tEx {α : Type} (F : α → Ty) : Ty := ⟨fun v H => ∃ a, (F a).p v H, fun l ⟨a, h⟩ => ⟨a, (F a).mo l h⟩⟩
/-! ### slots -/
abbrev Gm := List (Option Ty)
def GS : Gm → L2.St → Hp → Prop
  | [], [], _ => True
  | some T :: G, s :: σ, H => (∃ v, s = some v ∧ T.p v H) ∧ GS G σ H
  | none :: G, _ :: σ, H => GS G σ H
  | _, _, _ => False
theorem GS.mo {H H' : Hp} (l : Le H H') : ∀ {G : Gm} {σ : L2.St}, GS G σ H → GS G σ H'
  | [], [], _ => trivial
  | some T :: _, _ :: _, ⟨⟨v, e, h⟩, k⟩ => ⟨⟨v, e, T.mo l h⟩, GS.mo l k⟩
  | none :: G, _ :: σ, h => GS.mo (G := G) (σ := σ) l h
  | [], _ :: _, h => h.elim
  | some _ :: _, [], h => h.elim
  | none :: _, [], h => h.elim
theorem GS.get {H : Hp} : ∀ {G : Gm} {σ : L2.St} {i : Nat} {T : Ty}, GS G σ H → G[i]? = some (some T) → ∃ v, σ[i]? = some (some v) ∧ T.p v H
  | some T :: G, s :: σ, 0, T', h, e => by
    obtain ⟨⟨v, rfl, h1⟩, _⟩ := h
    have e : some T = some T' := by simpa using e
    cases e
    exact ⟨v, rfl, h1⟩
  | none :: G, s :: σ, 0, T', h, e => by simp at e
  | some T :: G, s :: σ, i + 1, T', h, e => by
    obtain ⟨v, h1, h2⟩ := GS.get (i := i) h.2 (by simpa using e)
    exact ⟨v, by simpa using h1, h2⟩
  | none :: G, s :: σ, i + 1, T', h, e => by
    obtain ⟨v, h1, h2⟩ := GS.get (G := G) (σ := σ) (i := i) h (by simpa using e)
    exact ⟨v, by simpa using h1, h2⟩
  | [], _, _, _, _, e => by simp at e
  | some _ :: _, [], _, _, h, _ => h.elim
  | none :: _, [], _, _, h, _ => h.elim
theorem GS.set {H : Hp} {T : Ty} {v : V} (hv : T.p v H) : ∀ {G : Gm} {σ : L2.St} (i : Nat), GS G σ H → GS (G.set i (some T)) (σ.set i (some v)) H
  | [], [], i, _ => by simp [GS]
  | some _ :: _, _ :: _, 0, h => ⟨⟨v, rfl, hv⟩, h.2⟩
  | none :: G, _ :: σ, 0, h => ⟨⟨v, rfl, hv⟩, h⟩
  | some _ :: _, _ :: _, i + 1, h => ⟨h.1, GS.set hv i h.2⟩
  | none :: G, _ :: σ, i + 1, h => GS.set (G := G) (σ := σ) hv i h
  | [], _ :: _, _, h => h.elim
  | some _ :: _, [], _, h => h.elim
  | none :: _, [], _, h => h.elim
theorem GS.unset {H : Hp} {s : Option V} : ∀ {G : Gm} {σ : L2.St} (i : Nat), GS G σ H → GS (G.set i none) (σ.set i s) H
  | [], [], i, _ => by simp [GS]
  | some _ :: _, _ :: _, 0, h => h.2
  | none :: G, _ :: σ, 0, h => h
  | some _ :: _, _ :: _, i + 1, h => ⟨h.1, GS.unset i h.2⟩
  | none :: G, _ :: σ, i + 1, h => GS.unset (G := G) (σ := σ) i h
  | [], _ :: _, _, h => h.elim
  | some _ :: _, [], _, h => h.elim
  | none :: _, [], _, h => h.elim
def gwipe (G : Gm) : List Nat → Gm
  | [] => G
  | v :: vs => (gwipe G vs).set v none
theorem GS.wipe {H : Hp} {G : Gm} {σ : L2.St} (h : GS G σ H) : ∀ vs : List Nat, GS (gwipe G vs) (L2.wipe σ vs) H
  | [] => h
  | v :: vs => GS.unset v (GS.wipe h vs)
/-- weaker: what is not asked is forgotten -/
def GLe : Gm → Gm → Prop
  | [], [] => True
  | _ :: G, none :: G' => GLe G G'
  | some T :: G, some T' :: G' => (∀ v H, T.p v H → T'.p v H) ∧ GLe G G'
  | _, _ => False
theorem GS.le {H : Hp} : ∀ {G G' : Gm} {σ : L2.St}, GLe G G' → GS G σ H → GS G' σ H
  | [], [], σ, _, h => h
  | some _ :: G, none :: G', _ :: σ, l, h => GS.le (G := G) (G' := G') (σ := σ) l h.2
  | none :: G, none :: G', _ :: σ, l, h => GS.le (G := G) (G' := G') (σ := σ) l h
  | some T :: G, some T' :: G', s :: σ, l, ⟨⟨v, e, h1⟩, h2⟩ => ⟨⟨v, e, l.1 v H h1⟩, GS.le l.2 h2⟩
  | none :: _, some _ :: _, _, l, _ => l.elim
  | [], _ :: _, _, l, _ => by cases l
  | none :: _, [], _, l, _ => l.elim
  | some _ :: _, [], _, l, _ => l.elim
  | some _ :: _, none :: _, [], _, h => h.elim
  | none :: _, none :: _, [], _, h => h.elim
  | some _ :: _, some _ :: _, [], _, h => h.elim
theorem GLe.refl : ∀ G : Gm, GLe G G
  | [] => trivial
  | none :: G => GLe.refl G
  | some _ :: G => ⟨fun _ _ h => h, GLe.refl G⟩
/-! ### caches, and how a heap grows -/
structure Ch where
  a : Addr
  S : List Key → Ty
  U : List (List Key)
abbrev Wd := List Ch
structure WI (W : Wd) (Hi H : Hp) : Prop where
  same : Same Hi H
  nd : (W.map Ch.a).Nodup
  ch : ∀ c ∈ W, Hi c.a = none ∧ ∃ kvs, H c.a = some (.dT kvs) ∧ (kvs.map (·.1)).Nodup ∧ ∀ kv ∈ kvs, kv.1 ∈ c.U ∧ (c.S kv.1).p kv.2 Hi
structure Gr (W : Wd) (Hi H Hi' H' : Hp) : Prop where
  le : Le Hi Hi'
  wi : WI W Hi' H'
  keep : ∀ a o, H a = some o → (∀ c ∈ W, c.a ≠ a) → H' a = some o
  off : ∀ a o, Hi a = none → H a = some o → (∀ xs, o ≠ .tup xs) → Hi' a = none
  grow : ∀ c ∈ W, ∀ kvs, H c.a = some (.dT kvs) → ∃ kvs', H' c.a = some (.dT kvs') ∧ ∀ k, (valV kvs k).isSome = true → (valV kvs' k).isSome = true
section
variable {W : Wd} {Hi H Hi' H' Hi2 H2 : Hp} {p : Addr} {o : HO}
theorem WI.none (w : WI W Hi H) (h : H p = none) : Hi p = none := by
  cases e : Hi p with
  | none => rfl
  | some u => rw [w.same p u e] at h; cases h
theorem WI.off (w : WI W Hi H) (h : H p = Option.none) : ∀ c ∈ W, c.a ≠ p := fun c hc e => by
  obtain ⟨_, kvs, h1, _⟩ := w.ch c hc
  rw [e, h] at h1; cases h1
theorem Gr.refl (w : WI W Hi H) : Gr W Hi H Hi H := ⟨Le.refl _, w, fun _ _ h _ => h, fun _ _ h _ _ => h, fun _ _ kvs h => ⟨kvs, h, fun _ q => q⟩⟩
theorem Gr.trans (g : Gr W Hi H Hi' H') (g' : Gr W Hi' H' Hi2 H2) : Gr W Hi H Hi2 H2 := by
  refine ⟨g.le.trans g'.le, g'.wi, fun a o h n => g'.keep a o (g.keep a o h n) n, fun a o h n t => ?_, fun c hc kvs h => ?_⟩
  · by_cases hc : ∀ c ∈ W, c.a ≠ a
    · exact g'.off a o (g.off a o h n t) (g.keep a o n hc) t
    · obtain ⟨d, hd, z⟩ : ∃ d ∈ W, d.a = a := by
        apply Classical.byContradiction
        intro q
        exact hc fun d hd z => q ⟨d, hd, z⟩
      obtain ⟨_, kvs, h1, _⟩ := g.wi.ch d hd
      exact g'.off a (.dT kvs) (g.off a o h n t) (z ▸ h1) (fun _ z => nomatch z)
  · obtain ⟨k1, h1, q1⟩ := g.grow c hc kvs h
    obtain ⟨k2, h2, q2⟩ := g'.grow c hc k1 h1
    exact ⟨k2, h2, fun k z => q2 k (q1 k z)⟩
theorem WI.upd (w : WI W Hi H) (h : H p = Option.none) : WI W (upd Hi p o) (upd H p o) := by
  have hn := w.none h
  refine ⟨same_upd2 w.same, w.nd, fun c hc => ?_⟩
  obtain ⟨h1, kvs, h2, h3, h4⟩ := w.ch c hc
  have ne := w.off h c hc
  refine ⟨by rw [upd_ne ne]; exact h1, kvs, by rw [upd_ne ne]; exact h2, h3, fun kv hk => ⟨(h4 kv hk).1, (c.S kv.1).mo (Le.of (same_new hn)) (h4 kv hk).2⟩⟩
theorem Gr.new (w : WI W Hi H) (h : H p = none) : Gr W Hi H (upd Hi p o) (upd H p o) :=
  ⟨Le.of (same_new (w.none h)), w.upd h, fun a u e _ => same_new h a u e, fun a o' e n _ => by
    have : a ≠ p := fun z => by rw [z, h] at n; cases n
    rw [upd_ne this]; exact e, fun c hc kvs e => ⟨kvs, by rw [upd_ne (w.off h c hc)]; exact e, fun _ q => q⟩⟩
/-- an object of one's own is written; is given away -/
theorem WI.put (w : WI W Hi H) (h : Hi p = Option.none) (hc : ∀ c ∈ W, c.a ≠ p) : WI W Hi (L2.upd H p o) :=
  ⟨fun a u e => by rw [upd_ne (ne_of_none e h)]; exact w.same a u e, w.nd, fun c hm => by
    obtain ⟨h1, kvs, h2, h3, h4⟩ := w.ch c hm
    exact ⟨h1, kvs, by rw [upd_ne (hc c hm)]; exact h2, h3, h4⟩⟩
theorem WI.seal (w : WI W Hi H) (h : H p = some o) (hi : Hi p = Option.none) (hc : ∀ c ∈ W, c.a ≠ p) : WI W (L2.upd Hi p o) H :=
  ⟨fun a u e => by
    by_cases z : a = p
    · subst z; rw [upd_same] at e; rw [h]; exact e
    · rw [upd_ne z] at e; exact w.same a u e, w.nd, fun c hm => by
    obtain ⟨h1, kvs, h2, h3, h4⟩ := w.ch c hm
    exact ⟨by rw [upd_ne (hc c hm)]; exact h1, kvs, h2, h3, fun kv hk => ⟨(h4 kv hk).1, (c.S kv.1).mo (Le.of (same_new hi)) (h4 kv hk).2⟩⟩⟩
/-- p is one's own since H -/
theorem Gr.put (g : Gr W Hi H Hi' H') (h : H p = Option.none) (h' : Hi' p = Option.none) (hc : ∀ c ∈ W, c.a ≠ p) : Gr W Hi H Hi' (L2.upd H' p o) :=
  ⟨g.le, g.wi.put h' hc, fun a u e n => by rw [upd_ne (ne_of_none e h)]; exact g.keep a u e n, g.off, fun c hm kvs e => by
    obtain ⟨k1, h1, q1⟩ := g.grow c hm kvs e
    exact ⟨k1, by rw [upd_ne (hc c hm)]; exact h1, q1⟩⟩
theorem Gr.seal (g : Gr W Hi H Hi' H') (h : H p = Option.none) (hp : H' p = some o) (h' : Hi' p = Option.none) (hc : ∀ c ∈ W, c.a ≠ p) : Gr W Hi H (L2.upd Hi' p o) H' :=
  ⟨g.le.trans (Le.of (same_new h')), g.wi.seal hp h' hc, g.keep, fun a o' e n t => by
    have : a ≠ p := fun z => by rw [z, h] at n; cases n
    rw [upd_ne this]; exact g.off a o' e n t, g.grow⟩
/-- a tuple of the heap is told to all -/
theorem Gr.adopt {xs : List V} (w : WI W Hi H) (hp : H p = some (.tup xs)) : ∃ Hi', Gr W Hi H Hi' H ∧ Hi' p = some (.tup xs) := by
  cases e : Hi p with
  | some u =>
    have := w.same p u e
    rw [hp] at this
    cases this
    exact ⟨Hi, Gr.refl w, e⟩
  | none =>
    have hc : ∀ c ∈ W, c.a ≠ p := fun c hc z => by
      obtain ⟨_, kvs, h1, _⟩ := w.ch c hc
      rw [z, hp] at h1; cases h1
    refine ⟨L2.upd Hi p (.tup xs), ⟨Le.of (same_new e), w.seal hp e hc, fun _ _ h _ => h, fun a o' e' n t => ?_, fun _ _ kvs h => ⟨kvs, h, fun _ q => q⟩⟩, upd_same⟩
    have : a ≠ p := fun z => by rw [z, hp] at n; cases n; exact t _ rfl
    rw [upd_ne this]; exact e'
theorem Gr.wi0 (g : Gr W Hi H Hi' H') : (W.map Ch.a).Nodup := g.wi.nd
end
/-! ### the calculus of the layer, by weakest wishes -/
section
variable {X : Cx}
def eW (X : Cx) (e : Expr) : TE := fun σ H Q => ∀ (pins : List (Addr × Obj)) (s : Shared), Inv X pins σ H s → wpAny (model X.prog X.w) X.A (eval e X.env) (EP X pins σ Q) X.xe s
theorem eW_pe {e : Expr} : PE X e (eW X e) := ⟨fun pins s σ H Q I h => h pins s I⟩
theorem eW_of {e : Expr} {t : TE} {σ H Q} (h : PE X e t) (q : t σ H Q) : eW X e σ H Q := fun pins s I => h.run pins s σ H Q I q
theorem eW_mono {e : Expr} {σ H} {Q Q' : VK} (h : eW X e σ H Q) (k : ∀ v H', Q v H' → Q' v H') : eW X e σ H Q' := fun pins s I => thn (h pins s I) fun u s' ⟨v, H', I', r, q⟩ => ⟨v, H', I', r, k v H' q⟩
def tW (X : Cx) (e : Expr) : TT := fun σ H Q => ∀ (pins : List (Addr × Obj)) (s : Shared), Inv X pins σ H s → wpAny (model X.prog X.w) X.A (isTrue e X.env (eval e X.env)) (TP X pins σ Q) X.xe s
theorem tW_pt {e : Expr} : PT X e (tW X e) := ⟨fun pins s σ H Q I h => h pins s I⟩
theorem tW_of {e : Expr} {t : TT} {σ H Q} (h : PT X e t) (q : t σ H Q) : tW X e σ H Q := fun pins s I => h.run pins s σ H Q I q
theorem tW_mono {e : Expr} {σ H} {Q Q' : Bool → Hp → Prop} (h : tW X e σ H Q) (k : ∀ v H', Q v H' → Q' v H') : tW X e σ H Q' := fun pins s I => thn (h pins s I) fun u s' ⟨H', I', q⟩ => ⟨H', I', k u H' q⟩
def wW (X : Cx) (e : Expr) : TT := fun σ H Q => ∀ (whole : Sem Value) (pins : List (Addr × Obj)) (s : Shared), Inv X pins σ H s → wpAny (model X.prog X.w) X.A (isTrue e X.env whole) (TP X pins σ Q) X.xe s
theorem wW_pw {e : Expr} : PW X e (wW X e) := ⟨fun wh pins s σ H Q I h => h wh pins s I⟩
theorem wW_of {e : Expr} {t : TT} {σ H Q} (h : PW X e t) (q : t σ H Q) : wW X e σ H Q := fun wh pins s I => h.run wh pins s σ H Q I q
theorem wW_mono {e : Expr} {σ H} {Q Q' : Bool → Hp → Prop} (h : wW X e σ H Q) (k : ∀ v H', Q v H' → Q' v H') : wW X e σ H Q' := fun wh pins s I => thn (h wh pins s I) fun u s' ⟨H', I', q⟩ => ⟨H', I', k u H' q⟩
def aW (X : Cx) (es : List Expr) : TA := fun σ H Q => ∀ (pos : Pos) (pins : List (Addr × Obj)) (s : Shared), Inv X pins σ H s → wpAny (model X.prog X.w) X.A (spliced (backTo pos (starEach es X.env))) (AP X pins σ Q) X.xe s
theorem aW_pa {es : List Expr} : PA X es (aW X es) := ⟨fun pos pins s σ H Q I h => h pos pins s I⟩
theorem aW_of {es : List Expr} {t : TA} {σ H Q} (h : PA X es t) (q : t σ H Q) : aW X es σ H Q := fun pos pins s I => h.run pos pins s σ H Q I q
theorem aW_mono {es : List Expr} {σ H} {Q Q' : List V → Hp → Prop} (h : aW X es σ H Q) (k : ∀ v H', Q v H' → Q' v H') : aW X es σ H Q' := fun pos pins s I => thn (h pos pins s I) fun u s' ⟨v, H', I', r, q⟩ => ⟨v, H', I', r, k v H' q⟩
def sW (X : Cx) (st : Stmt) : TS := fun D σ H => ∀ (pins : List (Addr × Obj)) (s : Shared), Inv X pins σ H s → wpAny (model X.prog X.w) X.A (exec st X.env) (SP X pins D) X.xe s
theorem sW_ps {st : Stmt} : PS X st (sW X st) := ⟨fun pins s σ H D I h => h pins s I⟩
theorem sW_of {st : Stmt} {t : TS} {D σ H} (h : PS X st t) (q : t D σ H) : sW X st D σ H := fun pins s I => h.run pins s σ H D I q
def bW (X : Cx) (ss : List Stmt) : TS := fun D σ H => ∀ (pins : List (Addr × Obj)) (s : Shared), Inv X pins σ H s → wpAny (model X.prog X.w) X.A (execs ss X.env) (SP X pins D) X.xe s
theorem bW_ps {ss : List Stmt} : PSs X ss (bW X ss) := ⟨fun pins s σ H D I h => h pins s I⟩
theorem bW_of {ss : List Stmt} {t : TS} {D σ H} (h : PSs X ss t) (q : t D σ H) : bW X ss D σ H := fun pins s I => h.run pins s σ H D I q
theorem sp_mono {pins : List (Addr × Obj)} {D D' : Ends} {f : Flow} {s : Shared} (h : SP X pins D f s) (h1 : ∀ σ H, D.nx σ H → D'.nx σ H) (h2 : ∀ v H, D.rt v H → D'.rt v H) (h3 : ∀ σ H, D.bk σ H → D'.bk σ H) (h4 : ∀ σ H, D.ct σ H → D'.ct σ H) : SP X pins D' f s := by
  cases f with
  | next => obtain ⟨σ', H', I, q⟩ := h; exact ⟨σ', H', I, h1 _ _ q⟩
  | brk => obtain ⟨σ', H', I, q⟩ := h; exact ⟨σ', H', I, h3 _ _ q⟩
  | cont => obtain ⟨σ', H', I, q⟩ := h; exact ⟨σ', H', I, h4 _ _ q⟩
  | ret u => obtain ⟨v, σ', H', I, r, q⟩ := h; exact ⟨v, σ', H', I, r, h2 _ _ q⟩
theorem bW_mono {ss : List Stmt} {D D' : Ends} {σ H} (h : bW X ss D σ H) (h1 : ∀ σ H, D.nx σ H → D'.nx σ H) (h2 : ∀ v H, D.rt v H → D'.rt v H) (h3 : ∀ σ H, D.bk σ H → D'.bk σ H) (h4 : ∀ σ H, D.ct σ H → D'.ct σ H) : bW X ss D' σ H := fun pins s I => thn (h pins s I) fun f s' q => sp_mono q h1 h2 h3 h4
def gW (X : Cx) (tg : Expr) : TG := fun v σ H Q => ∀ (pins : List (Addr × Obj)) (s : Shared) (u : Value), Inv X pins σ H s → RelV v u → wpAny (model X.prog X.w) X.A (assign tg X.env u) (fun _ s' => ∃ σ' H', Inv X pins σ' H' s' ∧ Q σ' H') X.xe s
theorem gW_pg {tg : Expr} : PG X tg (gW X tg) := ⟨fun pins s σ H v u Q I r h => h pins s u I r⟩
theorem gW_of {tg : Expr} {t : TG} {v σ H Q} (h : PG X tg t) (q : t v σ H Q) : gW X tg v σ H Q := fun pins s u I r => h.run pins s σ H v u Q I r q
def gsW (X : Cx) (ts : List Expr) : TGs := fun vs σ H Q => ∀ (pins : List (Addr × Obj)) (s : Shared) (us : List Value), Inv X pins σ H s → Vals vs us → wpAny (model X.prog X.w) X.A (assignInOrder ((assignEach ts X.env).map (·.2)) us) (fun _ s' => ∃ σ' H', Inv X pins σ' H' s' ∧ Q σ' H') X.xe s
theorem gsW_pg {ts : List Expr} : PGs X ts (gsW X ts) := ⟨fun pins s σ H vs us Q I r h => h pins s us I r⟩
theorem gsW_of {ts : List Expr} {t : TGs} {vs σ H Q} (h : PGs X ts t) (q : t vs σ H Q) : gsW X ts vs σ H Q := fun pins s us I r => h.run pins s σ H vs us Q I r q
def iW (X : Cx) (tg iter : Expr) : TI := fun σ H R => ∀ (pins : List (Addr × Obj)) (s : Shared), Inv X pins σ H s →
  wpAny (model X.prog X.w) X.A (eval iter X.env) (fun v s1 => wpAny (model X.prog X.w) X.A (pyIter v) (PIE X pins σ tg R) X.xe s1) X.xe s
theorem iW_pi {tg iter : Expr} : PI X tg iter (iW X tg iter) := ⟨fun pins s σ H R I h => h pins s I⟩
theorem iW_of {tg iter : Expr} {t : TI} {σ H R} (h : PI X tg iter t) (q : t σ H R) : iW X tg iter σ H R := fun pins s I => h.run pins s σ H R I q
end
/-! ### the triples -/
structure Bs where
  P : Program
  w : World
  K : PySem.W.Frag
  mg : Str → Option Value
  base : Heap
structure Cst where
  b : Bs
  N : List Str
  k : Nat
  W : Wd
  d : Bool
def Loc' (sc : Scope) (x : Str) : Prop := sc.names.lookup x = some .local ∨ sc.names.lookup x = some .cell
structure CtxOk (c : Cst) (sc : Scope) (X : Cx) : Prop where
  hP : X.prog = c.b.P
  hw : X.w = c.b.w
  hK : X.K = c.b.K
  hm : X.mg = c.b.mg
  hb : X.base = c.b.base
  hN : X.N = c.N
  hd : c.d = true → X.env.scope = sc
  vis : ∀ x, Vis sc x → Vis X.env.scope x
  gl : ∀ x, sc.names.lookup x = some .globalImplicit → X.env.scope.names.lookup x = some .globalImplicit
  sto : ∀ x, Loc' sc x → Loc X.env.scope x ∧ (X.fn x = true ∨ X.env.scope.names.lookup x = some .local)
  loc : ∀ x, sc.names.lookup x = some .local → X.env.scope.names.lookup x = some .local
  nd : c.N.Nodup
  calm : X.calm = true
  room : Room c.k X.A
  xe : X.xe = fun _ _ => False
/-- what a call, an expression leaves: the heap has grown, the value is a T -/
def Res (W : Wd) (Hi H : Hp) (T : Ty) : VK := fun v H' => ∃ Hi', Gr W Hi H Hi' H' ∧ T.p v Hi'
def XE (c : Cst) (sc : Scope) (G : Gm) (e : Expr) (T : Ty) : Prop := ∀ X, CtxOk c sc X → ∀ σ Hi H, WI c.W Hi H → GS G σ Hi → eW X e σ H (Res c.W Hi H T)
def XT (c : Cst) (sc : Scope) (G : Gm) (e : Expr) (b : Bool) : Prop := ∀ X, CtxOk c sc X → ∀ σ Hi H, WI c.W Hi H → GS G σ Hi → tW X e σ H (fun b' H' => b' = b ∧ ∃ Hi', Gr c.W Hi H Hi' H')
def XW (c : Cst) (sc : Scope) (G : Gm) (e : Expr) (b : Bool) : Prop := ∀ X, CtxOk c sc X → ∀ σ Hi H, WI c.W Hi H → GS G σ Hi → wW X e σ H (fun b' H' => b' = b ∧ ∃ Hi', Gr c.W Hi H Hi' H')
def XA (c : Cst) (sc : Scope) (G : Gm) (es : List Expr) (Ts : List Ty) : Prop := ∀ X, CtxOk c sc X → ∀ σ Hi H, WI c.W Hi H → GS G σ Hi → aW X es σ H (fun vs H' => ∃ Hi', Gr c.W Hi H Hi' H' ∧ TsP Ts vs Hi')
section
variable {c : Cst} {sc : Scope} {G : Gm} {X : Cx} {e a b : Expr} {T T1 T2 T3 : Ty} {σ : L2.St} {Hi H : Hp} {pos : Pos}
theorem XE.use {Q : VK} (h : XE c sc G e T) (C : CtxOk c sc X) (w : WI c.W Hi H) (g : GS G σ Hi) (k : ∀ v Hi' H', Gr c.W Hi H Hi' H' → T.p v Hi' → Q v H') : eW X e σ H Q :=
  eW_mono (h X C σ Hi H w g) fun v H' ⟨Hi', g, t⟩ => k v Hi' H' g t
theorem XT.use {bo : Bool} {Q : Bool → Hp → Prop} (h : XT c sc G e bo) (C : CtxOk c sc X) (w : WI c.W Hi H) (g : GS G σ Hi) (k : ∀ Hi' H', Gr c.W Hi H Hi' H' → Q bo H') : tW X e σ H Q :=
  tW_mono (h X C σ Hi H w g) fun v H' ⟨e, Hi', g⟩ => by subst e; exact k Hi' H' g
theorem XW.use {bo : Bool} {Q : Bool → Hp → Prop} (h : XW c sc G e bo) (C : CtxOk c sc X) (w : WI c.W Hi H) (g : GS G σ Hi) (k : ∀ Hi' H', Gr c.W Hi H Hi' H' → Q bo H') : wW X e σ H Q :=
  wW_mono (h X C σ Hi H w g) fun v H' ⟨e, Hi', g⟩ => by subst e; exact k Hi' H' g
theorem XA.use {es : List Expr} {Ts : List Ty} {Q : List V → Hp → Prop} (h : XA c sc G es Ts) (C : CtxOk c sc X) (w : WI c.W Hi H) (g : GS G σ Hi) (k : ∀ vs Hi' H', Gr c.W Hi H Hi' H' → TsP Ts vs Hi' → Q vs H') : aW X es σ H Q :=
  aW_mono (h X C σ Hi H w g) fun v H' ⟨Hi', g, t⟩ => k v Hi' H' g t
theorem XE.to (h : XE c sc G e T) (k : ∀ v H, T.p v H → T1.p v H) : XE c sc G e T1 := fun X C σ Hi H w g => h.use C w g fun v Hi' H' r t => ⟨Hi', r, k v Hi' t⟩
theorem XE.eq (h : XE c sc G e T) (k : T = T1) : XE c sc G e T1 := k ▸ h
theorem XT.eq {b1 b2 : Bool} (h : XT c sc G e b1) (k : b1 = b2) : XT c sc G e b2 := k ▸ h
theorem XE.le {G' : Gm} (h : XE c sc G' e T) (k : GLe G G') : XE c sc G e T := fun X C σ Hi H w g => h X C σ Hi H w (g.le k)
/-! ### names, constants -/
theorem xe_var (i : Nat) {x : Str} (hN : c.N[i]? = some x := by rfl) (hG : G[i]? = some (some T) := by rfl) (hv : Vis sc x := by first | exact Or.inl rfl | exact Or.inr (Or.inl rfl) | exact Or.inr (Or.inr rfl))
    (hd : (x == ("__debug__" : Str)) = false := by decide +kernel) (hcd : (x == ("__classdict__" : Str)) = false := by decide +kernel) : XE c sc G (.Name x pos) T := fun X C σ Hi H w g => by
  obtain ⟨v, hs, ht⟩ := g.get hG
  exact eW_of (pe_var (i := i) (by rw [C.hN]; exact hN) (C.vis x hv) hd hcd) ⟨v, hs, Hi, Gr.refl w, ht⟩
theorem xe_c {v : V} (h : ∀ X, PE X e (tC v)) (t : ∀ H, T.p v H) : XE c sc G e T := fun X C σ Hi H w g => eW_of (h X) ⟨Hi, Gr.refl w, t Hi⟩
theorem xe_int {i j} : XE c sc G (.Constant (.int i) j pos) (tInt i) := xe_c (fun _ => pe_int) fun _ => rfl
theorem xe_bl {i j} : XE c sc G (.Constant (.bool i) j pos) (tBl i) := xe_c (fun _ => pe_bl) fun _ => rfl
theorem xe_non {j} : XE c sc G (.Constant .none j pos) tNon := xe_c (fun _ => pe_non) fun _ => rfl
theorem xe_str {z j} : XE c sc G (.Constant (.str z) j pos) (tStr z) := xe_c (fun _ => pe_str) fun _ => rfl
/-- a module's constant -/
theorem xe_glob {x : Str} {v : V} {u : Value} (hm : c.b.mg x = some u) (r : RelV v u) (t : ∀ H, T.p v H) (hg : sc.names.lookup x = some .globalImplicit := by rfl) (hd : (x == ("__debug__" : Str)) = false := by decide +kernel) : XE c sc G (.Name x pos) T := fun X C σ Hi H w g =>
  eW_of (pe_glob (C.gl x hg) (by rw [C.hm]; exact hm) r hd) ⟨Hi, Gr.refl w, t Hi⟩
theorem xe_bltn {x : Str} {v : V} {u : Value} (hm : c.b.mg x = none) (hv : bootBuiltins x = some u) (r : RelV v u) (t : ∀ H, T.p v H) (hg : sc.names.lookup x = some .globalImplicit := by rfl) (hn : x ≠ "__name__" := by decide +kernel) (hd : (x == ("__debug__" : Str)) = false := by decide +kernel) : XE c sc G (.Name x pos) T := fun X C σ Hi H w g =>
  eW_of (pe_bltn (C.gl x hg) (by rw [C.hm]; exact hm) hv r hn hd) ⟨Hi, Gr.refl w, t Hi⟩
/-! ### operators, by what their operands are -/
/-- a rule of two values -/
def R2k (W : Wd) (r : R2) (T1 T2 T : Ty) : Prop := ∀ x y Hi H, WI W Hi H → T1.p x Hi → T2.p y Hi → ∀ Q : VK, (∀ v Hi' H', Gr W Hi H Hi' H' → T.p v Hi' → Q v H') → r x y H Q
def OpK (c : Cst) (op : Operator) (T1 T2 T : Ty) : Prop := ∀ sc X, CtxOk c sc X → ∃ r, OpR X (binaryOp op) r ∧ R2k c.W r T1 T2 T
def CmK (c : Cst) (op : CmpOp) (T1 T2 T : Ty) : Prop := ∀ sc X, CtxOk c sc X → ∃ r, OpR X (compareOp op) r ∧ R2k c.W r T1 T2 T
def IxK (c : Cst) (T1 T2 T : Ty) : Prop := ∀ sc X, CtxOk c sc X → ∃ r, IxR X r ∧ R2k c.W r T1 T2 T
theorem tOp_use {r : R2} (C : CtxOk c sc X) (ha : XE c sc G a T1) (hb : XE c sc G b T2) (hr : R2k c.W r T1 T2 T) (w : WI c.W Hi H) (g : GS G σ Hi) {Q : VK} (k : ∀ v Hi' H', Gr c.W Hi H Hi' H' → T.p v Hi' → Q v H') : tOp r (eW X a) (eW X b) σ H Q :=
  ha.use C w g fun x Hi1 H1 g1 t1 => hb.use C g1.wi (g.mo g1.le) fun y Hi2 H2 g2 t2 => hr x y Hi2 H2 g2.wi (T1.mo g2.le t1) t2 Q fun v Hi3 H3 g3 t3 => k v Hi3 H3 ((g1.trans g2).trans g3) t3
theorem xe_bin {op : Operator} (ha : XE c sc G a T1) (hb : XE c sc G b T2) (ho : OpK c op T1 T2 T) : XE c sc G (.BinOp a op b pos) T := fun X C σ Hi H w g => by
  obtain ⟨r, h1, h2⟩ := ho sc X C
  exact eW_of (pe_op h1 eW_pe eW_pe) (tOp_use C ha hb h2 w g fun v Hi' H' g t => ⟨Hi', g, t⟩)
theorem xe_cmp {op : CmpOp} (ha : XE c sc G a T1) (hb : XE c sc G b T2) (ho : CmK c op T1 T2 T) (hm : behindInMarks op b = false := by first | exact nomark _ | rfl) : XE c sc G (.Compare a [op] [b] pos) T := fun X C σ Hi H w g => by
  obtain ⟨r, h1, h2⟩ := ho sc X C
  exact eW_of (pe_cmpR h1 eW_pe eW_pe hm) (tOp_use C ha hb h2 w g fun v Hi' H' g t => ⟨Hi', g, t⟩)
theorem xt_cmp {op : CmpOp} {bo : Bool} (ha : XE c sc G a T1) (hb : XE c sc G b T2) (ho : CmK c op T1 T2 (tBl bo)) (hm : behindInMarks op b = false := by first | exact nomark _ | rfl) : XT c sc G (.Compare a [op] [b] pos) bo := fun X C σ Hi H w g => by
  obtain ⟨r, h1, h2⟩ := ho sc X C
  exact tW_of (pt_cmpR h1 eW_pe eW_pe hm) (tOp_use C ha hb h2 w g fun v Hi' H' g t => ⟨bo, t, rfl, Hi', g⟩)
theorem xe_ix (ha : XE c sc G a T1) (hb : XE c sc G b T2) (ho : IxK c T1 T2 T) (hs : PlainIx b := by intro _ _; rfl) : XE c sc G (.Subscript a b pos) T := fun X C σ Hi H w g => by
  obtain ⟨r, h1, h2⟩ := ho sc X C
  exact eW_of (pe_ix h1 eW_pe eW_pe hs) (tOp_use C ha hb h2 w g fun v Hi' H' g t => ⟨Hi', g, t⟩)
/-- the chained comparison of ints -/
theorem xt_chain {op op' : CmpOp} {e' : Expr} {b1 b2 : Bool} (ha : XE c sc G a T1) (hb : XE c sc G b T2) (hc : XE c sc G e' T3) (ho : CmK c op T1 T2 (tBl b1)) (ho' : CmK c op' T2 T3 (tBl b2))
    (hm : lastMarks [op, op'] [b, e'] = false := by with_unfolding_all rfl) : XT c sc G (.Compare a [op, op'] [b, e'] pos) (b1 && b2) := fun X C σ Hi H w g => by
  obtain ⟨r, p1, q1⟩ := ho sc X C
  obtain ⟨r', p2, q2⟩ := ho' sc X C
  refine tW_of (pt_chain p1 p2 eW_pe eW_pe eW_pe hm) ?_
  refine ha.use C w g fun x Hi1 H1 g1 t1 => hb.use C g1.wi (g.mo g1.le) fun y Hi2 H2 g2 t2 => ?_
  refine q1 x y Hi2 H2 g2.wi (T1.mo g2.le t1) t2 _ fun v Hi3 H3 g3 t3 => ⟨b1, t3, ?_⟩
  have g123 := (g1.trans g2).trans g3
  cases b1 with
  | false =>
    refine ⟨false, rfl, rfl, Hi3, g123⟩
  | true =>
    refine hc.use C g3.wi (g.mo g123.le) fun z Hi4 H4 g4 t4 => ?_
    refine q2 y z Hi4 H4 g4.wi (T2.mo (g3.le.trans g4.le) t2) t4 _ fun v Hi5 H5 g5 t5 => ?_
    exact ⟨b2, t5, by rfl, Hi5, (g123.trans g4).trans g5⟩
end
end Lg

set_option maxHeartbeats 4000000
namespace Lg
open PySem PySem.Spec PyProof.Rows L2
section
variable {c : Cst} {sc : Scope} {G : Gm} {X : Cx} {e a b : Expr} {T T1 T2 T3 : Ty} {σ : L2.St} {Hi H : Hp} {pos : Pos} {es : List Expr} {Ts : List Ty}
theorem CtxOk.hu (C : CtxOk c sc X) : X.A.units + 1 < cLine := hu_of C.room
theorem CtxOk.hu64 (C : CtxOk c sc X) : X.A.units + 64 < cLine := C.room.units
theorem CtxOk.glo {x : Str} (C : CtxOk c sc X) (h : sc.names.lookup x = some .globalImplicit) : Gl X x := C.gl x h
/-! ### truth -/
theorem xe_and {r : List Expr} {p q : Bool} (ha : XE c sc G a (tBl p)) (hb : p = true → XE c sc G (.BoolOp .And (b :: r) pos) (tBl q)) : XE c sc G (.BoolOp .And (a :: b :: r) pos) (tBl (p && q)) := fun X C σ Hi H w g => by
  refine eW_of (pe_and eW_pe eW_pe) (ha.use C w g fun x Hi1 H1 g1 t1 => ⟨p, t1, ?_⟩)
  cases p with
  | false => exact ⟨Hi1, g1, rfl⟩
  | true => exact (hb rfl).use C g1.wi (g.mo g1.le) fun y Hi2 H2 g2 t2 => ⟨Hi2, g1.trans g2, t2⟩
theorem xe_or {r : List Expr} {p q : Bool} (ha : XE c sc G a (tBl p)) (hb : p = false → XE c sc G (.BoolOp .Or (b :: r) pos) (tBl q)) : XE c sc G (.BoolOp .Or (a :: b :: r) pos) (tBl (p || q)) := fun X C σ Hi H w g => by
  refine eW_of (pe_or eW_pe eW_pe) (ha.use C w g fun x Hi1 H1 g1 t1 => ⟨p, t1, ?_⟩)
  cases p with
  | true => exact ⟨Hi1, g1, rfl⟩
  | false => exact (hb rfl).use C g1.wi (g.mo g1.le) fun y Hi2 H2 g2 t2 => ⟨Hi2, g1.trans g2, t2⟩
theorem xe_one {op} (ha : XE c sc G a T) : XE c sc G (.BoolOp op [a] pos) T := fun X C σ Hi H w g => eW_of (pe_one eW_pe) (ha X C σ Hi H w g)
theorem xe_not {p : Bool} (ha : XE c sc G a (tBl p)) : XE c sc G (.UnaryOp .Not a pos) (tBl (!p)) := fun X C σ Hi H w g =>
  eW_of (pe_not eW_pe) (ha.use C w g fun x Hi1 H1 g1 t1 => ⟨p, t1, Hi1, g1, rfl⟩)
theorem xe_neg {i : Int} (ha : XE c sc G a (tInt i)) : XE c sc G (.UnaryOp .USub a pos) (tInt (-i)) := fun X C σ Hi H w g =>
  eW_of (pe_un un_neg eW_pe) (ha.use C w g fun x Hi1 H1 g1 t1 => ⟨i, t1, Hi1, g1, rfl⟩)
theorem xe_ifx {p : Bool} {t : Expr} (ht : XT c sc G t p) (ha : p = true → XE c sc G a T) (hb : p = false → XE c sc G b T) : XE c sc G (.IfExp t a b pos) T := fun X C σ Hi H w g => by
  refine eW_of (pe_ifExp tW_pt eW_pe eW_pe) (ht.use C w g fun Hi1 H1 g1 => ?_)
  cases p with
  | true => exact (ha rfl).use C g1.wi (g.mo g1.le) fun y Hi2 H2 g2 t2 => ⟨Hi2, g1.trans g2, t2⟩
  | false => exact (hb rfl).use C g1.wi (g.mo g1.le) fun y Hi2 H2 g2 t2 => ⟨Hi2, g1.trans g2, t2⟩
theorem xt_val {p : Bool} (ha : XE c sc G e (tBl p)) (he : ∀ env whole, isTrue e env whole = (do let v ← whole; standAt e.pos; holding [v] (truthy v)) := by intro _ _; rfl) : XT c sc G e p := fun X C σ Hi H w g =>
  tW_of (pt_val eW_pe fun wh => he X.env wh) (ha.use C w g fun x Hi1 H1 g1 t1 => ⟨p, t1, rfl, Hi1, g1⟩)
theorem xt_not {p : Bool} (ha : XT c sc G a p) : XT c sc G (.UnaryOp .Not a pos) (!p) := fun X C σ Hi H w g =>
  tW_of (pt_not tW_pt) (ha.use C w g fun Hi1 H1 g1 => ⟨rfl, Hi1, g1⟩)
theorem xt_w {p : Bool} (h : XW c sc G e p) : XT c sc G e p := fun X C σ Hi H w g => tW_of (wW_pw.pt) (h X C σ Hi H w g)
theorem xw_and1 {p : Bool} (h : XT c sc G a p) : XW c sc G (.BoolOp .And [a] pos) p := fun X C σ Hi H w g => wW_of (pw_and1 tW_pt) (h X C σ Hi H w g)
theorem xw_or1 {p : Bool} (h : XT c sc G a p) : XW c sc G (.BoolOp .Or [a] pos) p := fun X C σ Hi H w g => wW_of (pw_or1 tW_pt) (h X C σ Hi H w g)
theorem xw_and {r : List Expr} {p q : Bool} (ha : XT c sc G a p) (hb : p = true → XW c sc G (.BoolOp .And (b :: r) pos) q) : XW c sc G (.BoolOp .And (a :: b :: r) pos) (p && q) := fun X C σ Hi H w g => by
  refine wW_of (pw_and tW_pt wW_pw) (ha.use C w g fun Hi1 H1 g1 => ?_)
  cases p with
  | false => exact ⟨rfl, Hi1, g1⟩
  | true => exact (hb rfl).use C g1.wi (g.mo g1.le) fun Hi2 H2 g2 => ⟨rfl, Hi2, g1.trans g2⟩
theorem xw_or {r : List Expr} {p q : Bool} (ha : XT c sc G a p) (hb : p = false → XW c sc G (.BoolOp .Or (b :: r) pos) q) : XW c sc G (.BoolOp .Or (a :: b :: r) pos) (p || q) := fun X C σ Hi H w g => by
  refine wW_of (pw_or tW_pt wW_pw) (ha.use C w g fun Hi1 H1 g1 => ?_)
  cases p with
  | true => exact ⟨rfl, Hi1, g1⟩
  | false => exact (hb rfl).use C g1.wi (g.mo g1.le) fun Hi2 H2 g2 => ⟨rfl, Hi2, g1.trans g2⟩
theorem xt_isN {p : Bool} {j pos'} (ha : XE c sc G a T) (hd : ∀ v H, T.p v H → decide (v = V.non) = p) : XT c sc G (.Compare a [.Is] [.Constant .none j pos'] pos) p := fun X C σ Hi H w g =>
  tW_of (pt_cmp (pc_isN eW_pe) rfl) (ha.use C w g fun x Hi1 H1 g1 t1 => ⟨p, by rw [hd x Hi1 t1], rfl, Hi1, g1⟩)
theorem xt_notN {p : Bool} {j pos'} (ha : XE c sc G a T) (hd : ∀ v H, T.p v H → decide (v = V.non) = p) : XT c sc G (.Compare a [.IsNot] [.Constant .none j pos'] pos) (!p) := fun X C σ Hi H w g =>
  tW_of (pt_cmp (pc_notN eW_pe) rfl) (ha.use C w g fun x Hi1 H1 g1 t1 => ⟨!p, by rw [hd x Hi1 t1], rfl, Hi1, g1⟩)
theorem xe_chain {op op' : CmpOp} {e' : Expr} {b1 b2 : Bool} (ha : XE c sc G a T1) (hb : XE c sc G b T2) (hc : XE c sc G e' T3) (ho : CmK c op T1 T2 (tBl b1)) (ho' : CmK c op' T2 T3 (tBl b2))
    (hm : lastMarks [op, op'] [b, e'] = false := by with_unfolding_all rfl) : XE c sc G (.Compare a [op, op'] [b, e'] pos) (tBl (b1 && b2)) := fun X C σ Hi H w g => by
  obtain ⟨r, p1, q1⟩ := ho sc X C
  obtain ⟨r', p2, q2⟩ := ho' sc X C
  refine eW_of (pe_chain p1 p2 eW_pe eW_pe eW_pe hm) ?_
  refine ha.use C w g fun x Hi1 H1 g1 t1 => hb.use C g1.wi (g.mo g1.le) fun y Hi2 H2 g2 t2 => ?_
  refine q1 x y Hi2 H2 g2.wi (T1.mo g2.le t1) t2 _ fun v Hi3 H3 g3 t3 => ⟨b1, t3, ?_⟩
  have g123 := (g1.trans g2).trans g3
  cases b1 with
  | false => exact ⟨Hi3, g123, rfl⟩
  | true =>
    refine hc.use C g3.wi (g.mo g123.le) fun z Hi4 H4 g4 t4 => ?_
    refine q2 y z Hi4 H4 g4.wi (T2.mo (g3.le.trans g4.le) t2) t4 _ fun v Hi5 H5 g5 t5 => ?_
    exact ⟨Hi5, (g123.trans g4).trans g5, t5⟩
/-! ### arguments, displays, calls -/
theorem xa_nil : XA c sc G [] [] := fun X C σ Hi H w g => aW_of pa_nil ⟨Hi, Gr.refl w, trivial⟩
theorem xa_cons (ha : XE c sc G e T) (hr : XA c sc G es Ts) (hs : ∀ env, starEach (e :: es) env = (false, eval e env) :: starEach es env := by intro _; rfl) : XA c sc G (e :: es) (T :: Ts) := fun X C σ Hi H w g =>
  aW_of (pa_cons eW_pe aW_pa (hs _)) (ha.use C w g fun v Hi1 H1 g1 t1 => hr.use C g1.wi (g.mo g1.le) fun vs Hi2 H2 g2 t2 => ⟨Hi2, g1.trans g2, T.mo g2.le t1, t2⟩)
theorem size_small {n : Nat} (h : n ≤ 100000) : n ≤ sizeLine := Nat.le_trans h (by decide)
theorem xe_tupD {x1} (ha : XA c sc G es Ts) (hT : ∀ vs a Hi, TsP Ts vs Hi → Hi a = some (.tup vs) → T.p (.ref a) Hi) (hl : Ts.length ≤ 100000 := by decide) : XE c sc G (.Tuple es x1 pos) T := fun X C σ Hi H w g =>
  eW_of (pe_tup aW_pa) (ha.use C w g fun vs Hi1 H1 g1 t1 => ⟨by rw [t1.len]; exact size_small hl, fun p hp => ⟨_, g1.trans (Gr.new g1.wi hp), hT vs p _ (t1.mo (Gr.new (o := .tup vs) g1.wi hp).le) upd_same⟩⟩)
theorem xe_tup {x1} (ha : XA c sc G es Ts) (hl : Ts.length ≤ 100000 := by decide) : XE c sc G (.Tuple es x1 pos) (tTup c.b.K Ts) := xe_tupD ha (fun vs a Hi t h => ⟨a, vs, rfl, SqT.of h, t⟩) hl
theorem ints_of_TsP {H : Hp} : ∀ {is : List Int} {vs : List V}, TsP (is.map tInt) vs H → vs = is.map V.int
  | [], [], _ => rfl
  | _ :: _, _ :: _, ⟨h1, h2⟩ => by
    rw [List.map_cons, ← ints_of_TsP h2]
    exact congrArg (· :: _) h1
  | [], _ :: _, h => h.elim
  | _ :: _, [], h => h.elim
theorem TsP_of_ints {H : Hp} : ∀ is : List Int, TsP (is.map tInt) (is.map V.int) H
  | [] => trivial
  | i :: is => ⟨rfl, TsP_of_ints is⟩
theorem bls_of_TsP {H : Hp} : ∀ {is : List Bool} {vs : List V}, TsP (is.map tBl) vs H → vs = is.map V.bl
  | [], [], _ => rfl
  | _ :: _, _ :: _, ⟨h1, h2⟩ => by
    rw [List.map_cons, ← bls_of_TsP h2]
    exact congrArg (· :: _) h1
  | [], _ :: _, h => h.elim
  | _ :: _, [], h => h.elim
/-- a key of ints -/
def tKI (is : List Int) : Ty := tKey (is.map Sum.inl)
theorem kv_ints (is : List Int) : (is.map Sum.inl : List Key).map kV = is.map V.int := by
  rw [List.map_map]; rfl
theorem xe_key {x1} (is : List Int) (ha : XA c sc G es (is.map tInt)) (hl : is.length ≤ 100000 := by decide) : XE c sc G (.Tuple es x1 pos) (tKI is) :=
  xe_tupD ha (fun vs a Hi t h => ⟨a, rfl, by rw [kv_ints, ← ints_of_TsP t]; exact h⟩) (by rw [List.length_map]; exact hl)
theorem tKI_tup {K : PySem.W.Frag} {is : List Int} {v : V} {H : Hp} (h : (tKI is).p v H) : (tTup K (is.map tInt)).p v H := by
  obtain ⟨a, rfl, h⟩ := h
  rw [kv_ints] at h
  exact ⟨a, _, rfl, SqT.of h, TsP_of_ints is⟩
theorem xe_lst (ha : XA c sc G es Ts) (hl : Ts.length ≤ 100000 := by decide) : XE c sc G (.List es pos) (tLst Ts) := fun X C σ Hi H w g =>
  eW_of (pe_lst aW_pa) (ha.use C w g fun vs Hi1 H1 g1 t1 => ⟨by rw [t1.len]; exact size_small hl, fun p hp => ⟨_, g1.trans (Gr.new g1.wi hp), p, vs, rfl, upd_same, t1.mo (Gr.new (o := .lst vs) g1.wi hp).le⟩⟩)
/-- what a def promises: sp of the arguments' types gives the result's -/
abbrev FS := Wd → List Ty → Ty → Prop
def spOf (n : Nat) (sp : FS) : Sp := fun vs H Q _ => ∃ W Hi Ts T, sp W Ts T ∧ Ts.length = n ∧ WI W Hi H ∧ TsP Ts vs Hi ∧ ∀ v H', Res W Hi H T v H' → Q v H'
structure FnAt (b : Bs) (x : Str) (n : Nat) (sp : Sp) (k : Nat) : Prop where
  ex : ∃ f fd ps, FnOk b.P b.w b.K b.mg b.base CX0 k f fd ps sp ∧ b.mg x = some (.ref f) ∧ PySem.W.keepIn b.K (.ref f) = true ∧ Binds b.K fd ps []
theorem pe_fn {x : Str} {n k : Nat} {sp : Sp} {t : TA} {p : Pos} (F : FnAt c.b x n sp k) (C : CtxOk c sc X) (hk : k ≤ c.k) (ha : PA X (e :: es) t) (hg : sc.names.lookup x = some .globalImplicit)
    (hdb : (x == ("__debug__" : Str)) = false) (he : ∀ env, starEach (e :: es) env = (false, eval e env) :: starEach es env) (hpl : ∀ env, (backTo pos (starEach es env)).any (·.1) = false) : PE X (.Call (.Name x p) (e :: es) [] pos) (tCall sp [] E0 t) := by
  obtain ⟨f, fd, ps, F, hm, hkp, hb⟩ := F.ex
  have F' : FnOk X.prog X.w X.K X.mg X.base CX0 k f fd ps sp := by rw [C.hP, C.hw, C.hK, C.hm, C.hb]; exact F
  exact pe_call F' (C.room.mono hk) (C.glo hg) (by rw [C.hm]; exact hm) (by rw [C.hK]; exact hkp) (by rw [C.hK]; exact hb) .nil pass0 ha hdb (he _) (hpl _)
theorem xe_call {x : Str} {n k : Nat} {sp : FS} {p : Pos} (F : FnAt c.b x n (spOf n sp) k) (ha : XA c sc G (e :: es) Ts) (hs : sp c.W Ts T) (hk : k ≤ c.k := by exact Nat.le_of_ble_eq_true rfl) (hn : Ts.length = n := by rfl) (hg : sc.names.lookup x = some .globalImplicit := by rfl)
    (hdb : (x == ("__debug__" : Str)) = false := by decide +kernel) (he : ∀ env, starEach (e :: es) env = (false, eval e env) :: starEach es env := by intro _; rfl) (hpl : ∀ env, (backTo pos (starEach es env)).any (·.1) = false := by intro _; rfl) :
    XE c sc G (.Call (.Name x p) (e :: es) [] pos) T := fun X C σ Hi H w g =>
  eW_of (pe_fn F C hk aW_pa hg hdb he hpl) (ha.use C w g fun vs Hi1 H1 g1 t1 => by
    rw [List.append_nil]
    exact ⟨c.W, Hi1, Ts, T, hs, hn, g1.wi, t1, fun v H' ⟨Hi2, g2, t2⟩ => ⟨Hi2, g1.trans g2, t2⟩⟩)
/-- a built-in by its value -/
def RcK (W : Wd) (r : List V → Hp → VK → Prop) (Ts : List Ty) (T : Ty) : Prop := ∀ vs Hi H, WI W Hi H → TsP Ts vs Hi → ∀ Q : VK, (∀ v Hi' H', Gr W Hi H Hi' H' → T.p v Hi' → Q v H') → r vs H Q
def CbK (c : Cst) (f : Value) (Ts : List Ty) (T : Ty) : Prop := ∀ sc X, CtxOk c sc X → ∃ r, CallR X f r ∧ RcK c.W r Ts T
theorem xe_blt {x : Str} {id : String} {p : Pos} (hm : c.b.mg x = none) (ha : XA c sc G (e :: es) Ts) (hr : CbK c (.builtin id) Ts T) (hv : bootBuiltins x = some (.builtin id) := by decide +kernel) (hg : sc.names.lookup x = some .globalImplicit := by rfl)
    (hn : x ≠ "__name__" := by decide +kernel) (hdb : (x == ("__debug__" : Str)) = false := by decide +kernel) (he : ∀ env, starEach (e :: es) env = (false, eval e env) :: starEach es env := by intro _; rfl)
    (hpl : ∀ env, (backTo pos (starEach es env)).any (·.1) = false := by intro _; rfl) : XE c sc G (.Call (.Name x p) (e :: es) [] pos) T := fun X C σ Hi H w g => by
  obtain ⟨r, h1, h2⟩ := hr sc X C
  exact eW_of (pe_callB h1 (C.glo hg) (by rw [C.hm]; exact hm) hv aW_pa hn hdb (he _) (hpl _)) (ha.use C w g fun vs Hi1 H1 g1 t1 => h2 vs Hi1 H1 g1.wi t1 _ fun v Hi2 H2 g2 t2 => ⟨Hi2, g1.trans g2, t2⟩)
theorem xe_bty {x : Str} {id : String} {p : Pos} (hm : c.b.mg x = none) (ha : XA c sc G (e :: es) Ts) (hr : CbK c (.type id) Ts T) (hv : bootBuiltins x = some (.type id) := by decide +kernel) (hg : sc.names.lookup x = some .globalImplicit := by rfl)
    (hn : x ≠ "__name__" := by decide +kernel) (hdb : (x == ("__debug__" : Str)) = false := by decide +kernel) (he : ∀ env, starEach (e :: es) env = (false, eval e env) :: starEach es env := by intro _; rfl)
    (hpl : ∀ env, (backTo pos (starEach es env)).any (·.1) = false := by intro _; rfl) : XE c sc G (.Call (.Name x p) (e :: es) [] pos) T := fun X C σ Hi H w g => by
  obtain ⟨r, h1, h2⟩ := hr sc X C
  exact eW_of (pe_callTy h1 (C.glo hg) (by rw [C.hm]; exact hm) hv aW_pa hn hdb (he _) (hpl _)) (ha.use C w g fun vs Hi1 H1 g1 t1 => h2 vs Hi1 H1 g1.wi t1 _ fun v Hi2 H2 g2 t2 => ⟨Hi2, g1.trans g2, t2⟩)
end
section
variable {c : Cst} {T T1 T2 : Ty} {Ts Us : List Ty} {i j : Int}
theorem tsp1 {v : List V} {H : Hp} (h : TsP [T] v H) : ∃ x, v = [x] ∧ T.p x H := by
  cases v with
  | nil => exact h.elim
  | cons x r => cases r with
    | nil => exact ⟨x, rfl, h.1⟩
    | cons _ _ => exact h.2.elim
theorem tsp2 {v : List V} {H : Hp} (h : TsP [T1, T2] v H) : ∃ x y, v = [x, y] ∧ T1.p x H ∧ T2.p y H := by
  cases v with
  | nil => exact h.elim
  | cons x r =>
    obtain ⟨y, rfl, hy⟩ := tsp1 (v := r) h.2
    exact ⟨x, y, rfl, h.1, hy⟩
theorem rc_of {W : Wd} {r : List V → Hp → VK → Prop} (h : ∀ vs Hi H, WI W Hi H → TsP Ts vs Hi → ∀ Q : VK, (∀ v, T.p v Hi → Q v H) → r vs H Q) : RcK W r Ts T :=
  fun vs Hi H w t Q k => h vs Hi H w t Q fun v tv => k v Hi H (Gr.refl w) tv
theorem r2_of {W : Wd} {r : R2} (h : ∀ x y Hi H, WI W Hi H → T1.p x Hi → T2.p y Hi → ∀ Q : VK, (∀ v, T.p v Hi → Q v H) → r x y H Q) : R2k W r T1 T2 T :=
  fun x y Hi H w t1 t2 Q k => h x y Hi H w t1 t2 Q fun v tv => k v Hi H (Gr.refl w) tv
/-! #### ints -/
theorem ok_add : OpK c .Add (tInt i) (tInt j) (tInt (i + j)) := fun _ X _ => ⟨_, op_add, r2_of fun x y Hi H w h1 h2 Q k => ⟨i, j, h1, h2, k _ rfl⟩⟩
theorem ok_sub : OpK c .Sub (tInt i) (tInt j) (tInt (i - j)) := fun _ X _ => ⟨_, op_sub, r2_of fun x y Hi H w h1 h2 Q k => ⟨i, j, h1, h2, k _ rfl⟩⟩
theorem ok_mul (hc : CMulW i j) : OpK c .Mult (tInt i) (tInt j) (tInt (i * j)) := fun _ X _ => ⟨_, op_mulW, r2_of fun x y Hi H w h1 h2 Q k => ⟨i, j, h1, h2, hc, k _ rfl⟩⟩
theorem ok_div (hc : CDivW i j) : OpK c .FloorDiv (tInt i) (tInt j) (tInt (i / j)) := fun _ X _ => ⟨_, op_fdivW, r2_of fun x y Hi H w h1 h2 Q k => ⟨i, j, h1, h2, hc, k _ rfl⟩⟩
theorem ok_mod (hc : 0 < j) : OpK c .Mod (tInt i) (tInt j) (tInt (i % j)) := fun _ X _ => ⟨_, op_mod, r2_of fun x y Hi H w h1 h2 Q k => ⟨i, j, h1, h2, hc, k _ rfl⟩⟩
theorem ok_pow (hc : CPow i j) : OpK c .Pow (tInt i) (tInt j) (tInt (i ^ j.toNat)) := fun _ X _ => ⟨_, op_pow, r2_of fun x y Hi H w h1 h2 Q k => ⟨i, j, h1, h2, hc, k _ rfl⟩⟩
theorem ok_shl (hc : CPow i j) : OpK c .LShift (tInt i) (tInt j) (tInt (i * 2 ^ j.toNat)) := fun _ X _ => ⟨_, op_shl, r2_of fun x y Hi H w h1 h2 Q k => ⟨i, j, h1, h2, hc, k _ rfl⟩⟩
theorem ok_shr (hc : 0 ≤ j) : OpK c .RShift (tInt i) (tInt j) (tInt (i / 2 ^ j.toNat)) := fun _ X _ => ⟨_, op_shr, r2_of fun x y Hi H w h1 h2 Q k => ⟨i, j, h1, h2, hc, k _ rfl⟩⟩
theorem cm_lt : CmK c .Lt (tInt i) (tInt j) (tBl (decide (i < j))) := fun _ X _ => ⟨_, op_lt, r2_of fun x y Hi H w h1 h2 Q k => ⟨i, j, h1, h2, k _ rfl⟩⟩
theorem cm_le : CmK c .LtE (tInt i) (tInt j) (tBl (decide (i ≤ j))) := fun _ X _ => ⟨_, op_le, r2_of fun x y Hi H w h1 h2 Q k => ⟨i, j, h1, h2, k _ rfl⟩⟩
theorem cm_gt : CmK c .Gt (tInt i) (tInt j) (tBl (decide (j < i))) := fun _ X _ => ⟨_, op_gt, r2_of fun x y Hi H w h1 h2 Q k => ⟨i, j, h1, h2, k _ rfl⟩⟩
theorem cm_ge : CmK c .GtE (tInt i) (tInt j) (tBl (decide (j ≤ i))) := fun _ X _ => ⟨_, op_ge, r2_of fun x y Hi H w h1 h2 Q k => ⟨i, j, h1, h2, k _ rfl⟩⟩
theorem cm_eq : CmK c .Eq (tInt i) (tInt j) (tBl (decide (i = j))) := fun _ X _ => ⟨_, op_eq, r2_of fun x y Hi H w h1 h2 Q k => by
  subst h1; subst h2
  refine ⟨rfl, k _ ?_⟩
  show V.bl _ = V.bl _
  congr 1
  exact decide_eq_decide.mpr ⟨fun z => V.int.inj z, fun z => congrArg V.int z⟩⟩
theorem cm_ne : CmK c .NotEq (tInt i) (tInt j) (tBl (!decide (i = j))) := fun _ X _ => ⟨_, op_ne, r2_of fun x y Hi H w h1 h2 Q k => by
  subst h1; subst h2
  refine ⟨rfl, k _ ?_⟩
  show V.bl _ = V.bl _
  congr 2
  exact decide_eq_decide.mpr ⟨fun z => V.int.inj z, fun z => congrArg V.int z⟩⟩
/-! #### lists and tuples -/
def SqK (K : PySem.W.Frag) (T : Ty) (Ts : List Ty) : Prop := ∀ v Hi, T.p v Hi → ∃ a xs, v = .ref a ∧ (SqL K Hi a xs ∨ SqT K Hi a xs) ∧ TsP Ts xs Hi
theorem sq_lst {K : PySem.W.Frag} : SqK K (tLst Ts) Ts := fun v Hi ⟨a, xs, e, h, t⟩ => ⟨a, xs, e, .inl (SqL.of h), t⟩
theorem sq_sq {K : PySem.W.Frag} : SqK K (tSq K Ts) Ts := fun v Hi ⟨a, xs, e, h, t⟩ => ⟨a, xs, e, .inl h, t⟩
theorem sq_tup {K : PySem.W.Frag} : SqK K (tTup K Ts) Ts := fun v Hi ⟨a, xs, e, h, t⟩ => ⟨a, xs, e, .inr h, t⟩
theorem sq_key {K : PySem.W.Frag} {is : List Int} : SqK K (tKI is) (is.map tInt) := fun v Hi h => by
  obtain ⟨a, xs, e, h, t⟩ := tKI_tup (K := K) h
  exact ⟨a, xs, e, .inr h, t⟩
theorem sqlt_same {K : PySem.W.Frag} {Hi H : Hp} {a : Addr} {xs : List V} (s : Same Hi H) (h : SqL K Hi a xs ∨ SqT K Hi a xs) : SqL K H a xs ∨ SqT K H a xs := h.imp (Le.of s).sqL (Le.of s).sqT
/-- an item -/
theorem atI_of {α : Type} {xs : List α} {i : Int} {n : Nat} {x : α} (hn : (n : Int) = i) (h : xs[n]? = some x) : atI xs i = some x := hn ▸ atI_nat h
theorem ix_at {n : Nat} (hS : SqK c.b.K T1 Ts) (hn : (n : Int) = i) (h : Ts[n]? = some T) : IxK c T1 (tInt i) T := fun _ X C => ⟨_, ix_seq, fun x y Hi H w t1 t2 Q k => by
  obtain ⟨a, xs, rfl, hs, ts⟩ := (show SqK X.K _ _ from C.hK ▸ hS) x Hi t1
  obtain ⟨v, hv, tv⟩ := ts.get h
  cases (show y = .int i from t2)
  rcases sqlt_same w.same hs with q | q
  · exact .inl ⟨a, xs, i, v, rfl, rfl, q, atI_of hn hv, k v Hi H (Gr.refl w) tv⟩
  · exact .inr (.inl ⟨a, xs, i, v, rfl, rfl, q, atI_of hn hv, k v Hi H (Gr.refl w) tv⟩)⟩
/-- the last item -/
theorem ix_last (hS : SqK c.b.K T1 (Us ++ [T])) : IxK c T1 (tInt (-1)) T := fun _ X C => ⟨_, ix_seq, fun x y Hi H w t1 t2 Q k => by
  obtain ⟨a, xs, rfl, hs, ts⟩ := (show SqK X.K _ _ from C.hK ▸ hS) x Hi t1
  obtain ⟨v, hv, tv⟩ := ts.get (i := Us.length) (T := T) (by simp)
  have hl : xs.length = Us.length + 1 := by rw [ts.len]; simp
  cases (show y = .int (-1) from t2)
  have ha : atI xs (-1) = some v := by
    unfold atI ixN
    rw [if_neg (by decide), if_pos (by omega), hl]
    show xs[((-1 : Int) + ((Us.length + 1 : Nat) : Int)).toNat]? = some v
    have : ((-1 : Int) + ((Us.length + 1 : Nat) : Int)).toNat = Us.length := by omega
    rw [this]; exact hv
  rcases sqlt_same w.same hs with q | q
  · exact .inl ⟨a, xs, -1, v, rfl, rfl, q, ha, k v Hi H (Gr.refl w) tv⟩
  · exact .inr (.inl ⟨a, xs, -1, v, rfl, rfl, q, ha, k v Hi H (Gr.refl w) tv⟩)⟩
theorem cb_len (hS : SqK c.b.K T Ts) : CbK c (.builtin "len") [T] (tInt Ts.length) := fun _ X C => ⟨_, call_len_seq, rc_of fun vs Hi H w t Q k => by
  obtain ⟨x, rfl, tx⟩ := tsp1 t
  obtain ⟨a, xs, rfl, hs, ts⟩ := (show SqK X.K _ _ from C.hK ▸ hS) x Hi tx
  exact ⟨a, xs, rfl, sqlt_same w.same hs, k _ (by show V.int _ = V.int _; rw [ts.len])⟩⟩
theorem cb_list (hS : SqK c.b.K T Ts) : CbK c (.type "list") [T] (tLst Ts) := fun _ X C => ⟨_, call_list_of, fun vs Hi H w t Q k => by
  obtain ⟨x, rfl, tx⟩ := tsp1 t
  obtain ⟨a, xs, rfl, hs, ts⟩ := (show SqK X.K _ _ from C.hK ▸ hS) x Hi tx
  exact ⟨a, xs, rfl, sqlt_same w.same hs, fun l hl => k _ _ _ (Gr.new w hl) ⟨l, xs, rfl, upd_same, ts.mo (Gr.new (o := .lst xs) w hl).le⟩⟩⟩
theorem cb_tuple (hS : SqK c.b.K T Ts) : CbK c (.type "tuple") [T] (tTup c.b.K Ts) := fun _ X C => ⟨_, call_tuple_of, fun vs Hi H w t Q k => by
  obtain ⟨x, rfl, tx⟩ := tsp1 t
  obtain ⟨a, xs, rfl, hs, ts⟩ := (show SqK X.K _ _ from C.hK ▸ hS) x Hi tx
  refine ⟨a, xs, rfl, ?_⟩
  rcases hs with q | q
  · exact .inl ⟨(Le.of w.same).sqL q, fun l hl => k _ _ _ (Gr.new w hl) ⟨l, xs, rfl, SqT.of upd_same, ts.mo (Gr.new (o := .tup xs) w hl).le⟩⟩
  · exact .inr ⟨(Le.of w.same).sqT q, k _ Hi H (Gr.refl w) ⟨a, xs, rfl, C.hK ▸ q, ts⟩⟩⟩
theorem cb_abs : CbK c (.builtin "abs") [tInt i] (tInt i.natAbs) := fun _ X C => ⟨_, call_abs, rc_of fun vs Hi H w t Q k => by
  obtain ⟨x, rfl, tx⟩ := tsp1 t
  cases (show x = .int i from tx)
  refine ⟨i, rfl, k _ ?_⟩
  show V.int _ = V.int _
  congr 1
  split <;> omega⟩
theorem cb_int : CbK c (.type "int") [tInt i] (tInt i) := fun _ X C => ⟨_, call_int1, rc_of fun vs Hi H w t Q k => by
  obtain ⟨x, rfl, tx⟩ := tsp1 t
  cases (show x = .int i from tx)
  exact .inl ⟨i, rfl, k _ rfl⟩⟩
theorem cb_intb {p : Bool} : CbK c (.type "int") [tBl p] (tInt (if p then 1 else 0)) := fun _ X C => ⟨_, call_int1, rc_of fun vs Hi H w t Q k => by
  obtain ⟨x, rfl, tx⟩ := tsp1 t
  cases (show x = .bl p from tx)
  exact .inr ⟨p, rfl, k _ rfl⟩⟩
theorem cb_min : CbK c (.builtin "min") [tInt i, tInt j] (tInt (if j < i then j else i)) := fun _ X C => ⟨_, call_min2 C.calm, rc_of fun vs Hi H w t Q k => by
  obtain ⟨x, y, rfl, tx, ty⟩ := tsp2 t
  cases (show x = .int i from tx)
  cases (show y = .int j from ty)
  exact ⟨i, j, rfl, k _ rfl⟩⟩
theorem cb_max : CbK c (.builtin "max") [tInt i, tInt j] (tInt (if j > i then j else i)) := fun _ X C => ⟨_, call_max2 C.calm, rc_of fun vs Hi H w t Q k => by
  obtain ⟨x, y, rfl, tx, ty⟩ := tsp2 t
  cases (show x = .int i from tx)
  cases (show y = .int j from ty)
  exact ⟨i, j, rfl, k _ rfl⟩⟩
theorem sqL_of {K : PySem.W.Frag} {H : Hp} {a : Addr} {xs : List V} (h : H a = some (.lst xs)) : SqL K H a xs := .inl (.inl h)
theorem cb_sum {is : List Int} : CbK c (.builtin "sum") [tLst (is.map tInt)] (tInt is.sum) := fun _ X C => ⟨_, cr_sum C.calm, rc_of fun vs Hi H w t Q k => by
  obtain ⟨x, rfl, a, xs, rfl, h, ts⟩ := tsp1 t
  exact ⟨a, is, rfl, by rw [← ints_of_TsP ts]; exact sqL_of (w.same _ _ h), k _ rfl⟩⟩
theorem cb_any {is : List Bool} : CbK c (.builtin "any") [tLst (is.map tBl)] (tBl (is.any id)) := fun _ X C => ⟨_, cr_any C.calm, rc_of fun vs Hi H w t Q k => by
  obtain ⟨x, rfl, a, xs, rfl, h, ts⟩ := tsp1 t
  exact ⟨a, is, rfl, by rw [← bls_of_TsP ts]; exact sqL_of (w.same _ _ h), k _ rfl⟩⟩
theorem cb_all {is : List Bool} : CbK c (.builtin "all") [tLst (is.map tBl)] (tBl (is.all id)) := fun _ X C => ⟨_, cr_all C.calm, rc_of fun vs Hi H w t Q k => by
  obtain ⟨x, rfl, a, xs, rfl, h, ts⟩ := tsp1 t
  exact ⟨a, is, rfl, by rw [← bls_of_TsP ts]; exact sqL_of (w.same _ _ h), k _ rfl⟩⟩
/-! #### isinstance -/
def TyK (K : PySem.W.Frag) (T : Ty) (z : String) : Prop := ∀ v Hi, T.p v Hi → TyX K Hi v (.type z)
theorem tyx_same {K : PySem.W.Frag} {Hi H : Hp} {v t : _} (s : Same Hi H) (h : TyX K Hi v t) : TyX K H v t := by
  cases h with
  | base h => cases h with
    | non => exact .base .non
    | bl x => exact .base (.bl x)
    | int i => exact .base (.int i)
    | str x => exact .base (.str x)
    | flt x => exact .base (.flt x)
    | lst e => exact .base (.lst (s _ _ e))
    | frz e => exact .base (.frz (s _ _ e))
    | tup e => exact .base (.tup (s _ _ e))
    | dK e => exact .base (.dK (s _ _ e))
    | dT e => exact .base (.dT (s _ _ e))
    | ins e cl ha hn htk hm => exact .base (.ins (s _ _ e) cl ha hn htk hm)
  | byt b => exact .byt b
  | set e => exact .set (s _ _ e)
  | kList e c => exact .kList e c
  | kTuple e c => exact .kTuple e c
  | kDict e c => exact .kDict e c
  | fTuple e => exact .fTuple (s _ _ e)
  | fDict e => exact .fDict (s _ _ e)
theorem ty_int {K : PySem.W.Frag} : TyK K (tInt i) "int" := fun v Hi h => by cases (show v = .int i from h); exact .base (.int i)
theorem ty_lst {K : PySem.W.Frag} : TyK K (tLst Ts) "list" := fun v Hi ⟨a, xs, e, h, t⟩ => by subst e; exact .base (.lst h)
theorem ty_tup {K : PySem.W.Frag} : TyK K (tTup K Ts) "tuple" := fun v Hi ⟨a, xs, e, h, t⟩ => by
  subst e
  rcases h with (h | ⟨o, h⟩) | ⟨o, its, n, h1, h2, _⟩
  · exact .base (.tup h)
  · exact .fTuple h
  · exact .kTuple h1 h2
theorem cb_isi {z y : String} {p : Bool} (hT : ∀ K, TyK K T z) (hk : kitB z y = some p := by decide +kernel) : CbK c (.builtin "isinstance") [T, tTy y] (tBl p) := fun _ X C => ⟨_, call_isi, rc_of fun vs Hi H w t Q k => by
  obtain ⟨x, u, rfl, tx, tu⟩ := tsp2 t
  cases (show u = .ty y from tu)
  exact ⟨x, .ty y, .type z, .type y, p, rfl, .ty y, tyx_same w.same (hT X.K x Hi tx), kit_ty hk, k _ rfl⟩⟩
theorem cb_isiK {z y : String} {p : Bool} (hT : TyK c.b.K T z) (hk : kitB z y = some p := by decide +kernel) : CbK c (.builtin "isinstance") [T, tTy y] (tBl p) := fun _ X C => ⟨_, call_isi, rc_of fun vs Hi H w t Q k => by
  obtain ⟨x, u, rfl, tx, tu⟩ := tsp2 t
  cases (show u = .ty y from tu)
  exact ⟨x, .ty y, .type z, .type y, p, rfl, .ty y, tyx_same w.same (C.hK ▸ hT x Hi tx), kit_ty hk, k _ rfl⟩⟩
/-! #### in, not in -/
theorem inV_ints (i : Int) : ∀ is : List Int, inV (.int i) (is.map V.int) = decide (i ∈ is)
  | [] => by simp [inV]
  | j :: is => by
    have ih := inV_ints i is
    unfold inV at ih ⊢
    rw [List.map_cons, List.any_cons, ih]
    simp only [eqV, List.mem_cons]
    by_cases h : i = j
    · subst h; simp
    · have : ¬ j = i := fun z => h z.symm
      simp [h, this]
theorem flat_ints : ∀ is : List Int, (is.map V.int).all flatV = true
  | [] => rfl
  | _ :: is => by rw [List.map_cons, List.all_cons, flat_ints is]; rfl
theorem cm_in {is : List Int} (hS : SqK c.b.K T (is.map tInt)) : CmK c .In (tInt i) T (tBl (decide (i ∈ is))) := fun _ X C => ⟨_, op_in_seq, r2_of fun x y Hi H w h1 h2 Q k => by
  cases (show x = .int i from h1)
  obtain ⟨a, xs, rfl, hs, ts⟩ := (show SqK X.K _ _ from C.hK ▸ hS) y Hi h2
  have e := ints_of_TsP ts
  subst e
  exact ⟨a, _, rfl, sqlt_same w.same hs, rfl, flat_ints is, k _ (by show V.bl _ = V.bl _; rw [if_neg Bool.false_ne_true, inV_ints])⟩⟩
theorem cm_notIn {is : List Int} (hS : SqK c.b.K T (is.map tInt)) : CmK c .NotIn (tInt i) T (tBl (!decide (i ∈ is))) := fun _ X C => ⟨_, op_notIn_seq, r2_of fun x y Hi H w h1 h2 Q k => by
  cases (show x = .int i from h1)
  obtain ⟨a, xs, rfl, hs, ts⟩ := (show SqK X.K _ _ from C.hK ▸ hS) y Hi h2
  have e := ints_of_TsP ts
  subst e
  exact ⟨a, _, rfl, sqlt_same w.same hs, rfl, flat_ints is, k _ (by show V.bl _ = V.bl _; rw [if_pos rfl, inV_ints])⟩⟩
/-! #### + of tuples and lists -/
theorem ok_catT (hT : Ts ≠ []) (hl : Ts.length + Us.length ≤ 100000) : OpK c .Add (tTup c.b.K Ts) (tTup c.b.K Us) (tTup c.b.K (Ts ++ Us)) := fun _ X C => ⟨_, op_catT, fun x y Hi H w ⟨a, xs, e1, h1, t1⟩ ⟨b, ys, e2, h2, t2⟩ Q k => by
  subst e1; subst e2
  refine ⟨a, b, xs, ys, rfl, rfl, C.hK ▸ (Le.of w.same).sqT h1, C.hK ▸ (Le.of w.same).sqT h2, fun z => ?_, by rw [t1.len, t2.len]; exact size_small hl, fun z => ?_, fun z p hp => ?_⟩
  · have := t1.len
    rw [z] at this
    exact hT (List.length_eq_zero_iff.mp this.symm)
  · have := t2.len
    rw [z] at this
    have e : Us = [] := List.length_eq_zero_iff.mp this.symm
    refine k _ Hi H (Gr.refl w) ⟨a, xs, rfl, h1, ?_⟩
    rw [e, List.append_nil]
    exact t1
  · have l := (Gr.new (o := .tup (xs ++ ys)) w hp).le
    exact k _ _ _ (Gr.new w hp) ⟨p, _, rfl, SqT.of upd_same, (t1.mo l).app (t2.mo l)⟩⟩
theorem ok_catL (hl : Ts.length + Us.length ≤ 100000) : OpK c .Add (tLst Ts) (tLst Us) (tLst (Ts ++ Us)) := fun _ X C => ⟨_, op_cat, fun x y Hi H w ⟨a, xs, e1, h1, t1⟩ ⟨b, ys, e2, h2, t2⟩ Q k => by
  subst e1; subst e2
  refine ⟨a, b, xs, ys, rfl, rfl, w.same _ _ h1, w.same _ _ h2, by rw [t1.len, t2.len]; exact size_small hl, fun p hp => ?_⟩
  have l := (Gr.new (o := .lst (xs ++ ys)) w hp).le
  exact k _ _ _ (Gr.new w hp) ⟨p, _, rfl, upd_same, (t1.mo l).app (t2.mo l)⟩⟩
/-! #### == of data -/
def DatK (K : PySem.W.Frag) (T : Ty) (d : PyData) : Prop := ∀ v Hi, T.p v Hi → Dp K Hi v d
theorem dat_int {K : PySem.W.Frag} : DatK K (tInt i) (.int i) := fun v Hi h => by cases (show v = .int i from h); exact .int i
def DatAll (K : PySem.W.Frag) : List Ty → List PyData → Prop
  | [], [] => True
  | T :: Ts, d :: ds => DatK K T d ∧ DatAll K Ts ds
  | _, _ => False
theorem datAll {K : PySem.W.Frag} : ∀ {Ts : List Ty} {ds : List PyData} {vs : List V} {Hi : Hp}, DatAll K Ts ds → TsP Ts vs Hi → DpAll K Hi vs ds
  | [], [], [], _, _, _ => .nil
  | T :: Ts, d :: ds, v :: vs, Hi, h, t => .cons (h.1 v Hi t.1) (datAll h.2 t.2)
  | [], _ :: _, _, _, h, _ => h.elim
  | _ :: _, [], _, _, h, _ => h.elim
  | [], [], _ :: _, _, _, t => t.elim
  | _ :: _, _ :: _, [], _, _, t => t.elim
theorem dat_tup {K : PySem.W.Frag} {ds : List PyData} (h : DatAll K Ts ds) : DatK K (tTup K Ts) (.tuple ds) := fun v Hi ⟨a, xs, e, q, t⟩ => by subst e; exact .tup q (datAll h t)
theorem dat_lst {K : PySem.W.Frag} {ds : List PyData} (h : DatAll K Ts ds) : DatK K (tLst Ts) (.list ds) := fun v Hi ⟨a, xs, e, q, t⟩ => by subst e; exact .lst (SqL.of q) (datAll h t)
theorem datAll_map {K : PySem.W.Frag} {α : Type} {f : α → Ty} {g : α → PyData} (h : ∀ a, DatK K (f a) (g a)) : ∀ xs : List α, DatAll K (xs.map f) (xs.map g)
  | [] => trivial
  | a :: xs => ⟨h a, datAll_map h xs⟩
mutual
theorem dp_same {K : PySem.W.Frag} {Hi H : Hp} (s : Same Hi H) : ∀ (d : PyData) (v : V), Dp K Hi v d → Dp K H v d
  | .none, _, h => by cases h; exact .non
  | .bool b, _, h => by cases h; exact .bl b
  | .int i, _, h => by cases h; exact .int i
  | .str x, _, h => by cases h; exact .str x
  | .list ds, _, h => by
    cases h with
    | lst q t => exact .lst ((Le.of s).sqL q) (dpAll_same s ds _ t)
  | .tuple ds, _, h => by
    cases h with
    | tup q t => exact .tup ((Le.of s).sqT q) (dpAll_same s ds _ t)
  | .dict _, _, h => by cases h
theorem dpAll_same {K : PySem.W.Frag} {Hi H : Hp} (s : Same Hi H) : ∀ (ds : List PyData) (vs : List V), DpAll K Hi vs ds → DpAll K H vs ds
  | [], _, h => by cases h; exact .nil
  | d :: ds, _, h => by
    cases h with
    | cons h1 h2 => exact .cons (dp_same s d _ h1) (dpAll_same s ds _ h2)
end
theorem cm_eqD {d d' : PyData} (h1 : DatK c.b.K T1 d) (h2 : DatK c.b.K T2 d') (s1 : SeqAt.shaped d = true) (s2 : SeqAt.shaped d' = true) : CmK c .Eq T1 T2 (tBl (PyData.eqv d d')) := fun _ X C => ⟨_, op_eqD C.hu64, r2_of fun x y Hi H w t1 t2 Q k =>
  ⟨d, d', C.hK ▸ dp_same w.same d x (h1 x Hi t1), C.hK ▸ dp_same w.same d' y (h2 y Hi t2), s1, s2, k _ rfl⟩⟩
theorem cm_neD {d d' : PyData} (h1 : DatK c.b.K T1 d) (h2 : DatK c.b.K T2 d') (s1 : SeqAt.shaped d = true) (s2 : SeqAt.shaped d' = true) : CmK c .NotEq T1 T2 (tBl (!PyData.eqv d d')) := fun _ X C => ⟨_, op_neD C.hu64, r2_of fun x y Hi H w t1 t2 Q k =>
  ⟨d, d', C.hK ▸ dp_same w.same d x (h1 x Hi t1), C.hK ▸ dp_same w.same d' y (h2 y Hi t2), s1, s2, k _ rfl⟩⟩
end
end Lg

set_option maxHeartbeats 4000000
namespace Lg
open PySem PySem.Spec PyProof.Rows L2
/-! ### slices, attributes, methods, dicts -/
theorem cutV_drop (xs : List V) (k : Nat) : cutV xs (some (k : Int)) none = xs.drop k := by
  unfold cutV
  rw [HT.sIx_nat, HT.sIx_none, List.take_of_length_le (by rw [List.length_drop]; omega)]
  by_cases h : k ≤ xs.length
  · rw [Nat.min_eq_left h]
  · rw [Nat.min_eq_right (by omega), List.drop_eq_nil_of_le (Nat.le_refl _), List.drop_eq_nil_of_le (by omega)]
theorem cutV_take (xs : List V) (k : Nat) : cutV xs none (some (k : Int)) = xs.take k := by
  unfold cutV
  rw [HT.sIx_nat, HT.sIx_none, Nat.sub_zero, List.drop_zero]
  by_cases h : k ≤ xs.length
  · rw [Nat.min_eq_left h]
  · rw [Nat.min_eq_right (by omega), List.take_of_length_le (Nat.le_refl _), List.take_of_length_le (by omega)]
section
variable {c : Cst} {sc : Scope} {G : Gm} {X : Cx} {e a b : Expr} {T T1 T2 T3 : Ty} {σ : L2.St} {Hi H : Hp} {pos : Pos} {es : List Expr} {Ts Us : List Ty}
def LsK (K : PySem.W.Frag) (T : Ty) (Ts : List Ty) : Prop := ∀ v Hi, T.p v Hi → ∃ a xs, v = .ref a ∧ SqL K Hi a xs ∧ TsP Ts xs Hi
theorem ls_lst {K : PySem.W.Frag} : LsK K (tLst Ts) Ts := fun v Hi ⟨a, xs, e, h, t⟩ => ⟨a, xs, e, SqL.of h, t⟩
theorem ls_sq {K : PySem.W.Frag} : LsK K (tSq K Ts) Ts := fun v Hi ⟨a, xs, e, h, t⟩ => ⟨a, xs, e, h, t⟩
def TpK (K : PySem.W.Frag) (T : Ty) (Ts : List Ty) : Prop := ∀ v Hi, T.p v Hi → ∃ a xs, v = .ref a ∧ SqT K Hi a xs ∧ TsP Ts xs Hi
theorem tp_tup {K : PySem.W.Frag} : TpK K (tTup K Ts) Ts := fun v Hi ⟨a, xs, e, h, t⟩ => ⟨a, xs, e, h, t⟩
theorem tp_key {K : PySem.W.Frag} {is : List Int} : TpK K (tKI is) (is.map tInt) := fun v Hi h => tKI_tup (K := K) h
theorem xe_dropL {p2 : Pos} {n : Nat} {i : Int} (hS : LsK c.b.K T Ts) (ha : XE c sc G a T) (hb : XE c sc G b (tInt i)) (hn : (n : Int) = i) : XE c sc G (.Subscript a (.Slice (some b) none none p2) pos) (tLst (Ts.drop n)) := fun X C σ Hi H w g => by
  refine eW_of (pe_slice sl_list eW_pe (po_some eW_pe) po_none) ?_
  refine ha.use C w g fun x Hi1 H1 g1 t1 => hb.use C g1.wi (g.mo g1.le) fun y Hi2 H2 g2 t2 => ⟨i, t2, ?_⟩
  obtain ⟨a, xs, e, h, ts⟩ := hS x Hi2 (T.mo g2.le t1)
  refine ⟨a, xs, e, C.hK ▸ (Le.of g2.wi.same).sqL h, fun p hp => ?_⟩
  rw [← hn, cutV_drop]
  have g3 := Gr.new (o := .lst (xs.drop n)) g2.wi hp
  exact ⟨_, (g1.trans g2).trans g3, p, _, rfl, upd_same, (ts.drop n).mo g3.le⟩
theorem xe_takeL {p2 : Pos} {n : Nat} {i : Int} (hS : LsK c.b.K T Ts) (ha : XE c sc G a T) (hb : XE c sc G b (tInt i)) (hn : (n : Int) = i) : XE c sc G (.Subscript a (.Slice none (some b) none p2) pos) (tLst (Ts.take n)) := fun X C σ Hi H w g => by
  refine eW_of (pe_slice sl_list eW_pe po_none (po_some eW_pe)) ?_
  refine ha.use C w g fun x Hi1 H1 g1 t1 => hb.use C g1.wi (g.mo g1.le) fun y Hi2 H2 g2 t2 => ⟨i, t2, ?_⟩
  obtain ⟨a, xs, e, h, ts⟩ := hS x Hi2 (T.mo g2.le t1)
  refine ⟨a, xs, e, C.hK ▸ (Le.of g2.wi.same).sqL h, fun p hp => ?_⟩
  rw [← hn, cutV_take]
  have g3 := Gr.new (o := .lst (xs.take n)) g2.wi hp
  exact ⟨_, (g1.trans g2).trans g3, p, _, rfl, upd_same, (ts.take n).mo g3.le⟩
theorem xe_dropT {p2 : Pos} {n : Nat} {i : Int} (hS : TpK c.b.K T Ts) (ha : XE c sc G a T) (hb : XE c sc G b (tInt i)) (hn : (n : Int) = i) (h0 : 0 < n) (h1 : 0 < Ts.length) : XE c sc G (.Subscript a (.Slice (some b) none none p2) pos) (tTup c.b.K (Ts.drop n)) := fun X C σ Hi H w g => by
  refine eW_of (pe_slice sl_tup eW_pe (po_some eW_pe) po_none) ?_
  refine ha.use C w g fun x Hi1 H1 g1 t1 => hb.use C g1.wi (g.mo g1.le) fun y Hi2 H2 g2 t2 => ⟨i, t2, ?_⟩
  obtain ⟨a, xs, e, h, ts⟩ := hS x Hi2 (T.mo g2.le t1)
  refine ⟨a, xs, e, C.hK ▸ (Le.of g2.wi.same).sqT h, fun ⟨z, _⟩ => ?_, fun p hp => ?_⟩
  · rw [← hn, HT.sIx_nat, ts.len] at z
    omega
  · rw [← hn, cutV_drop]
    have g3 := Gr.new (o := .tup (xs.drop n)) g2.wi hp
    exact ⟨_, (g1.trans g2).trans g3, p, _, rfl, SqT.of upd_same, (ts.drop n).mo g3.le⟩
theorem xe_takeT {p2 : Pos} {n : Nat} {i : Int} (hS : TpK c.b.K T Ts) (ha : XE c sc G a T) (hb : XE c sc G b (tInt i)) (hn : (n : Int) = i) (h1 : n < Ts.length) : XE c sc G (.Subscript a (.Slice none (some b) none p2) pos) (tTup c.b.K (Ts.take n)) := fun X C σ Hi H w g => by
  refine eW_of (pe_slice sl_tup eW_pe po_none (po_some eW_pe)) ?_
  refine ha.use C w g fun x Hi1 H1 g1 t1 => hb.use C g1.wi (g.mo g1.le) fun y Hi2 H2 g2 t2 => ⟨i, t2, ?_⟩
  obtain ⟨a, xs, e, h, ts⟩ := hS x Hi2 (T.mo g2.le t1)
  refine ⟨a, xs, e, C.hK ▸ (Le.of g2.wi.same).sqT h, fun ⟨_, z⟩ => ?_, fun p hp => ?_⟩
  · rw [← hn, HT.sIx_nat, ts.len] at z
    omega
  · rw [← hn, cutV_take]
    have g3 := Gr.new (o := .tup (xs.take n)) g2.wi hp
    exact ⟨_, (g1.trans g2).trans g3, p, _, rfl, SqT.of upd_same, (ts.take n).mo g3.le⟩
/-- an attribute -/
def FldK (K : PySem.W.Frag) (T0 : Ty) (f : Str) (T : Ty) : Prop := ∀ v Hi, T0.p v Hi → ∃ a C dx fs x, v = .ref a ∧ Hi a = some (.ins C dx fs) ∧ Cls K C ∧ NoAttr K C f ∧ fs.lookup f = some x ∧ T.p x Hi
theorem xe_attr {f : Str} (hF : FldK c.b.K T1 f T) (ha : XE c sc G a T1) (hb : ∀ env, attributeBase a f env (eval a env) = eval a env := by intro _; rfl) : XE c sc G (.Attribute a f pos) T := fun X C σ Hi H w g =>
  eW_of (pe_fld eW_pe (hb _)) (ha.use C w g fun x Hi1 H1 g1 t1 => by
    obtain ⟨a, D, dx, fs, y, e, h, hc, hn, hl, ty⟩ := hF x Hi1 t1
    exact ⟨a, D, dx, fs, y, e, g1.wi.same _ _ h, C.hK ▸ hc, C.hK ▸ hn, hl, Hi1, g1, ty⟩)
/-- a method of an own class -/
structure MeAt (b : Bs) (C : Addr) (m : Str) (n : Nat) (sp : Sp) (k : Nat) : Prop where
  ex : ∃ f fd ps, FnOk b.P b.w b.K b.mg b.base CX0 k f fd ps sp ∧ Cls b.K C ∧ Meth b.K C m f ∧ Binds b.K fd ps []
def InK (C : Addr) (T0 : Ty) (m : Str) : Prop := ∀ v Hi, T0.p v Hi → ∃ a dx fs, v = .ref a ∧ Hi a = some (.ins C dx fs) ∧ fs.lookup m = none
theorem xe_meth {m : Str} {n k : Nat} {sp : FS} {apos : Pos} {D : Addr} {plf : Env → Sem Bool} (F : MeAt c.b D m n (spOf n sp) k) (hI : InK D T1 m) (ho : XE c sc G a T1) (ha : XA c sc G (e :: es) Ts) (hs : sp c.W (T1 :: Ts) T) (hk : k ≤ c.k := by exact Nat.le_of_ble_eq_true rfl) (hn : Ts.length + 1 = n := by rfl)
    (hst : ∀ env, starEach (e :: es) env = (false, eval e env) :: starEach es env := by intro _; rfl) (hpl : ∀ env, (backTo pos (starEach es env)).any (·.1) = false := by intro _; rfl)
    (ht : ∀ env, eval (.Call (.Attribute a m apos) (e :: es) [] pos) env = (do
      let ov ← eval a env
      standAt apos.atName
      let (f, first) ← holding [ov] (getMethod ov m (plf env))
      callWith pos f first (backTo pos (starEach (e :: es) env)) (backToKw pos (keywordEach [] env))) := by intro _; rfl) : XE c sc G (.Call (.Attribute a m apos) (e :: es) [] pos) T := fun X C σ Hi H w g => by
  obtain ⟨f, fd, ps, F, hc, hm, hb⟩ := F.ex
  have F' : FnOk X.prog X.w X.K X.mg X.base CX0 k f fd ps (spOf n sp) := by rw [C.hP, C.hw, C.hK, C.hm, C.hb]; exact F
  refine eW_of (pe_meth (E := E0) (pl := plf X.env) eW_pe (C.hK ▸ hc) (C.hK ▸ hm) F' (C.room.mono hk) (C.hK ▸ hb) .nil pass0 aW_pa (hst _) (hpl _) (ht _)) ?_
  refine ho.use C w g fun x Hi1 H1 g1 t1 => ?_
  obtain ⟨o, dx, fs, e1, e2, e3⟩ := hI x Hi1 t1
  refine ⟨o, dx, fs, e1, g1.wi.same _ _ e2, e3, ha.use C g1.wi (g.mo g1.le) fun vs Hi2 H2 g2 t2 => ?_⟩
  rw [List.append_nil]
  exact ⟨c.W, Hi2, T1 :: Ts, T, hs, hn, g2.wi, ⟨T1.mo g2.le t1, t2⟩, fun v H' ⟨Hi3, g3, t3⟩ => ⟨Hi3, (g1.trans g2).trans g3, t3⟩⟩
theorem xe_meth0 {m : Str} {n k : Nat} {sp : FS} {apos : Pos} {D : Addr} {plf : Env → Sem Bool} (F : MeAt c.b D m n (spOf n sp) k) (hI : InK D T1 m) (ho : XE c sc G a T1) (hs : sp c.W [T1] T) (hk : k ≤ c.k := by exact Nat.le_of_ble_eq_true rfl) (hn : 1 = n := by rfl)
    (ht : ∀ env, eval (.Call (.Attribute a m apos) [] [] pos) env = (do
      let ov ← eval a env
      standAt apos.atName
      let (f, first) ← holding [ov] (getMethod ov m (plf env))
      callWith pos f first (backTo pos (starEach [] env)) (backToKw pos (keywordEach [] env))) := by intro _; rfl) : XE c sc G (.Call (.Attribute a m apos) [] [] pos) T := fun X C σ Hi H w g => by
  obtain ⟨f, fd, ps, F, hc, hm, hb⟩ := F.ex
  have F' : FnOk X.prog X.w X.K X.mg X.base CX0 k f fd ps (spOf n sp) := by rw [C.hP, C.hw, C.hK, C.hm, C.hb]; exact F
  refine eW_of (pe_meth0 (E := E0) (pl := plf X.env) eW_pe (C.hK ▸ hc) (C.hK ▸ hm) F' (C.room.mono hk) (C.hK ▸ hb) .nil pass0 (ht _)) ?_
  refine ho.use C w g fun x Hi1 H1 g1 t1 => ?_
  obtain ⟨o, dx, fs, e1, e2, e3⟩ := hI x Hi1 t1
  refine ⟨o, dx, fs, e1, g1.wi.same _ _ e2, e3, ?_⟩
  show spOf n sp (x :: ([] ++ [])) H1 (Res c.W Hi H T) E0
  exact ⟨c.W, Hi1, [T1], T, hs, hn, g1.wi, ⟨t1, trivial⟩, fun v H' ⟨Hi3, g3, t3⟩ => ⟨Hi3, g1.trans g3, t3⟩⟩
/-- a dict is read -/
def DgK (T1 T2 T : Ty) : Prop := ∀ x y Hi H, Same Hi H → T1.p x Hi → T2.p y Hi → ∃ a v, x = .ref a ∧ DGet H a y (some v) ∧ T.p v Hi
theorem xe_dget (hD : DgK T1 T2 T) (ha : XE c sc G a T1) (hb : XE c sc G b T2) (hs : NoSl b := by intro _ _; rfl) : XE c sc G (.Subscript a b pos) T := fun X C σ Hi H w g => by
  refine eW_of (pe_dget C.hu eW_pe eW_pe hs) ?_
  refine ha.use C w g fun x Hi1 H1 g1 t1 => hb.use C g1.wi (g.mo g1.le) fun y Hi2 H2 g2 t2 => ?_
  obtain ⟨o, v, e1, e2, e3⟩ := hD x y Hi2 H2 g2.wi.same (T1.mo g2.le t1) t2
  exact ⟨o, v, e1, e2, Hi2, g1.trans g2, e3⟩
theorem kvp_val {κ : Type} [DecidableEq κ] {H : Hp} {k : κ} : ∀ {ks : List (κ × Ty)} {vs : List (κ × V)} {i : Nat}, KvP ks vs H → ks[i]? = some (k, T) → (ks.map (·.1)).Nodup → ∃ v, valV vs k = some v ∧ T.p v H
  | (k0, T0) :: ks, (k1, v1) :: vs, 0, ⟨h1, h2, h3⟩, e, nd => by
    have e : (k0, T0) = (k, T) := by simpa using e
    cases e
    exact ⟨v1, valV_pos (p := (k1, v1)) h1.symm, h2⟩
  | (k0, T0) :: ks, (k1, v1) :: vs, i + 1, ⟨h1, h2, h3⟩, e, nd => by
    have nd' : k0 ∉ ks.map (·.1) ∧ (ks.map (·.1)).Nodup := by simpa using nd
    obtain ⟨v, e1, e2⟩ := kvp_val (i := i) h3 (by simpa using e) nd'.2
    refine ⟨v, ?_, e2⟩
    rw [valV_neg (p := (k1, v1)) fun z => ?_]
    · exact e1
    · have z : k1 = k := z
      have hm : k ∈ ks.map (·.1) := by
        have e' : ks[i]? = some (k, T) := by simpa using e
        exact List.mem_map.mpr ⟨_, List.mem_of_getElem? e', rfl⟩
      rw [h1, z] at nd'
      exact nd'.1 hm
  | [], _, _, _, e, _ => by simp at e
  | _ :: _, [], _, h, _, _ => h.elim
theorem strip_rd {o : HO} {kvs : List (List Key × V)} (h : strip o = .dT kvs) : o = .dT kvs ∨ ∃ ob, o = .frz ob (.dT kvs) := by
  cases o with
  | frz ob u => cases u with
    | dT ks => exact .inr ⟨ob, by cases h; rfl⟩
    | _ => exact nomatch h
  | dT ks => exact .inl h
  | _ => exact nomatch h
theorem dg_T {ks : List (List Key × Ty)} {k : List Key} {i : Nat} (h : ks[i]? = some (k, T)) (nd : (ks.map (·.1)).Nodup) : DgK (tDT ks) (tKey k) T := fun x y Hi H s ⟨a, o, kvs, e1, e2, e3, e4⟩ ⟨b, e5, e6⟩ => by
  subst e1; subst e5
  obtain ⟨v, h1, h2⟩ := kvp_val e4 h nd
  refine ⟨a, v, rfl, ?_, h2⟩
  rw [← h1]
  refine .inr ⟨kvs, k, b, ?_, rfl, s _ _ e6, rfl⟩
  rcases strip_rd e3 with z | ⟨ob, z⟩
  · subst z; exact .inl (s _ _ e2)
  · subst z; exact .inr ⟨ob, s _ _ e2⟩
theorem dg_K {ks : List (Key × Ty)} {k : Str} {i : Nat} (h : ks[i]? = some (Sum.inr k, T)) (nd : (ks.map (·.1)).Nodup) : DgK (tDK ks) (tStr k) T := fun x y Hi H s ⟨a, kvs, e1, e2, e4⟩ e5 => by
  subst e1
  cases (show y = .str k from e5)
  obtain ⟨v, h1, h2⟩ := kvp_val e4 h nd
  refine ⟨a, v, rfl, ?_, h2⟩
  rw [← h1]
  exact DGet.k (k := Sum.inr k) (s _ _ e2)
/-! ### what is walked -/
def ItOk (W : Wd) (J : It) (n : Nat) (it : Nat → Ty) (Hi1 : Hp) : Prop := ∀ Hi H, Le Hi1 Hi → WI W Hi H →
  (∀ i, i < n → J.go i H ∧ ∀ x H', J.yld i H x H' → ∃ Hi', Gr W Hi H Hi' H' ∧ (it i).p x Hi') ∧ J.stop n H
def XI (c : Cst) (sc : Scope) (G : Gm) (tg iter : Expr) (n : Nat) (it : Nat → Ty) : Prop := ∀ X, CtxOk c sc X → ∀ σ Hi H, WI c.W Hi H → GS G σ Hi → iW X tg iter σ H (fun J H1 => ∃ Hi1, Gr c.W Hi H Hi1 H1 ∧ ItOk c.W J n it Hi1)
/-- the i-th of some types -/
def tyAt (Ts : List Ty) (i : Nat) : Ty := Ts.getD i tNon
theorem tyAt_get {Ts : List Ty} {i : Nat} (h : i < Ts.length) : Ts[i]? = some (tyAt Ts i) := by
  unfold tyAt
  rw [List.getD_eq_getElem?_getD, List.getElem?_eq_getElem h]; rfl
theorem yat_ok {W : Wd} {Ts : List Ty} {xs : List V} {Hi H : Hp} {i : Nat} {x : V} (w : WI W Hi H) (ts : TsP Ts xs Hi) (hi : i < Ts.length) (h : xs[i]? = some x) : (tyAt Ts i).p x Hi := by
  obtain ⟨T, e1, e2⟩ := ts.get' h
  rw [tyAt_get hi] at e1
  cases e1; exact e2
theorem xi_list {tg : Expr} (hS : LsK c.b.K T Ts) (ha : XE c sc G a T) : XI c sc G tg a Ts.length (tyAt Ts) := fun X C σ Hi H w g => by
  refine iW_of (pi_list eW_pe) (ha.use C w g fun x Hi1 H1 g1 t1 => ?_)
  obtain ⟨l, xs, rfl, hl, ts⟩ := hS x Hi1 t1
  refine ⟨l, rfl, ⟨xs, C.hK ▸ (Le.of g1.wi.same).sqL hl⟩, Hi1, g1, fun Hi2 H2 l2 w2 => ?_⟩
  have hq : SqL X.K H2 l xs := C.hK ▸ (Le.of w2.same).sqL (l2.sqL hl)
  refine ⟨fun i hi => ?_, xs, hq, by rw [ts.len]; exact Nat.le_refl _⟩
  have hi' : i < xs.length := by rw [ts.len]; exact hi
  refine ⟨⟨xs, _, hq, List.getElem?_eq_getElem hi'⟩, fun x H' ⟨e, y⟩ => ?_⟩
  subst e
  exact ⟨Hi2, Gr.refl w2, yat_ok w2 (ts.mo l2) hi (y xs hq)⟩
theorem xi_tup {tg : Expr} (hS : TpK c.b.K T Ts) (ha : XE c sc G a T) : XI c sc G tg a Ts.length (tyAt Ts) := fun X C σ Hi H w g => by
  refine iW_of (pi_tup eW_pe) (ha.use C w g fun x Hi1 H1 g1 t1 => ?_)
  obtain ⟨l, xs, rfl, hl, ts⟩ := hS x Hi1 t1
  refine ⟨l, rfl, ⟨xs, C.hK ▸ (Le.of g1.wi.same).sqT hl⟩, Hi1, g1, fun Hi2 H2 l2 w2 => ?_⟩
  have hq : SqT X.K H2 l xs := C.hK ▸ (Le.of w2.same).sqT (l2.sqT hl)
  refine ⟨fun i hi => ?_, xs, hq, by rw [ts.len]; exact Nat.le_refl _⟩
  have hi' : i < xs.length := by rw [ts.len]; exact hi
  refine ⟨⟨xs, _, hq, List.getElem?_eq_getElem hi'⟩, fun x H' ⟨e, y⟩ => ?_⟩
  subst e
  exact ⟨Hi2, Gr.refl w2, yat_ok w2 (ts.mo l2) hi (y xs hq)⟩
theorem itr_ok {W : Wd} {lo : Int} {n : Nat} {Hi1 : Hp} : ItOk W (Itr lo n) n (fun i => tInt (lo + i)) Hi1 := fun Hi H l w =>
  ⟨fun i hi => ⟨hi, fun x H' ⟨e, y⟩ => by subst e; exact ⟨Hi, Gr.refl w, y⟩⟩, Nat.le_refl _⟩
theorem xi_rg1 {tg : Expr} {p : Pos} {j : Int} (hm : c.b.mg "range" = none) (ha : XE c sc G a (tInt j)) (hj : -(2 ^ 62) ≤ j ∧ j < 2 ^ 62) (hg : sc.names.lookup ("range" : Str) = some .globalImplicit := by rfl) (hs : ∀ env, starEach [a] env = [(false, eval a env)] := by intro _; rfl) :
    XI c sc G tg (.Call (.Name "range" p) [a] [] pos) j.toNat (fun i => tInt (i : Int)) := fun X C σ Hi H w g => by
  refine iW_of (pi_range1 (C.glo hg) (by rw [C.hm]; exact hm) (pa_cons eW_pe pa_nil (hs _)) (hs _)) (ha.use C w g fun x Hi1 H1 g1 t1 => ⟨j, by rw [show x = .int j from t1], hj.1, hj.2, Hi1, g1, ?_⟩)
  have := itr_ok (W := c.W) (lo := 0) (n := j.toNat) (Hi1 := Hi1)
  simpa using this
theorem xi_rg2 {tg : Expr} {p : Pos} {i j : Int} (hm : c.b.mg "range" = none) (ha : XE c sc G a (tInt i)) (hb : XE c sc G b (tInt j)) (hj : -(2 ^ 62) ≤ i ∧ i < 2 ^ 62 ∧ -(2 ^ 62) ≤ j ∧ j < 2 ^ 62) (hg : sc.names.lookup ("range" : Str) = some .globalImplicit := by rfl)
    (hs : ∀ env, starEach [a, b] env = [(false, eval a env), (false, eval b env)] := by intro _; rfl) (hs2 : ∀ env, starEach [b] env = [(false, eval b env)] := by intro _; rfl) :
    XI c sc G tg (.Call (.Name "range" p) [a, b] [] pos) (j - i).toNat (fun k => tInt (i + k)) := fun X C σ Hi H w g => by
  have hp := pa_cons (X := X) (e := a) (es := [b]) eW_pe (pa_cons (X := X) (e := b) eW_pe pa_nil (hs2 _)) (by rw [hs, hs2])
  refine iW_of (pi_range2 (C.glo hg) (by rw [C.hm]; exact hm) hp (hs _) (hs2 _)) (ha.use C w g fun x Hi1 H1 g1 t1 => hb.use C g1.wi (g.mo g1.le) fun y Hi2 H2 g2 t2 => ⟨i, j, by rw [show x = .int i from t1, show y = .int j from t2], hj, Hi2, g1.trans g2, itr_ok⟩)
/-- pairs made on the way -/
theorem pair_ok {W : Wd} {Hi H : Hp} {T : Addr} {x y : V} {T1 T2 : Ty} {K : PySem.W.Frag} (w : WI W Hi H) (hT : H T = none) (t1 : T1.p x Hi) (t2 : T2.p y Hi) : ∃ Hi', Gr W Hi H Hi' (upd H T (.tup [x, y])) ∧ (tTup K [T1, T2]).p (.ref T) Hi' := by
  have g := Gr.new (o := .tup [x, y]) w hT
  exact ⟨_, g, T, _, rfl, SqT.of upd_same, T1.mo g.le t1, T2.mo g.le t2, trivial⟩
theorem xi_zipL {elts : List Expr} {kk : Nat} {tpos p : Pos} (hm : c.b.mg "zip" = none) (h1 : LsK c.b.K T1 Ts) (h2 : LsK c.b.K T2 Us) (ha : XE c sc G a T1) (hb : XE c sc G b T2) (hg : sc.names.lookup ("zip" : Str) = some .globalImplicit := by rfl)
    (hs : ∀ env, starEach [a, b] env = (false, eval a env) :: starEach [b] env := by intro _; rfl) (hs2 : ∀ env, starEach [b] env = [(false, eval b env)] := by intro _; rfl) (hpl : ∀ env, (backTo pos (starEach [b] env)).any (·.1) = false := by intro _; rfl) :
    XI c sc G (.Tuple elts kk tpos) (.Call (.Name "zip" p) [a, b] [] pos) (min Ts.length Us.length) (fun i => tTup c.b.K [tyAt Ts i, tyAt Us i]) := fun X C σ Hi H w g => by
  have hp := pa_cons (X := X) (e := a) (es := [b]) eW_pe (pa_cons (X := X) (e := b) eW_pe pa_nil (hs2 _)) (hs _)
  refine iW_of (RZ.pi_zipA (C.glo hg) (by rw [C.hm]; exact hm) hp (hs _) (hpl _)) (ha.use C w g fun x Hi1 H1 g1 t1 => hb.use C g1.wi (g.mo g1.le) fun y Hi2 H2 g2 t2 => ?_)
  obtain ⟨l, xs, rfl, hl, ts⟩ := h1 x Hi2 (T1.mo g2.le t1)
  obtain ⟨m, ys, rfl, hl', us⟩ := h2 y Hi2 t2
  refine ⟨l, m, xs, ys, rfl, .inl ⟨C.hK ▸ (Le.of g2.wi.same).sqL hl, C.hK ▸ (Le.of g2.wi.same).sqL hl', Hi2, g1.trans g2, fun Hi3 H3 l3 w3 => ?_⟩⟩
  have q1 : SqL X.K H3 l xs := C.hK ▸ (Le.of w3.same).sqL (l3.sqL hl)
  have q2 : SqL X.K H3 m ys := C.hK ▸ (Le.of w3.same).sqL (l3.sqL hl')
  have e1 := ts.len
  have e2 := us.len
  refine ⟨fun i hi => ?_, xs, ys, q1, q2, by omega⟩
  refine ⟨⟨xs, ys, _, _, q1, q2, List.getElem?_eq_getElem (by omega), List.getElem?_eq_getElem (by omega)⟩, fun v H' ⟨T, x, y, e, hT, e', f1, f2⟩ => ?_⟩
  subst e; subst e'
  exact pair_ok w3 hT (yat_ok w3 (ts.mo l3) (by omega) (f1 xs q1)) (yat_ok w3 (us.mo l3) (by omega) (f2 ys q2))
theorem xi_zipT {elts : List Expr} {kk : Nat} {tpos p : Pos} (hm : c.b.mg "zip" = none) (h1 : TpK c.b.K T1 Ts) (h2 : TpK c.b.K T2 Us) (ha : XE c sc G a T1) (hb : XE c sc G b T2) (hg : sc.names.lookup ("zip" : Str) = some .globalImplicit := by rfl)
    (hs : ∀ env, starEach [a, b] env = (false, eval a env) :: starEach [b] env := by intro _; rfl) (hs2 : ∀ env, starEach [b] env = [(false, eval b env)] := by intro _; rfl) (hpl : ∀ env, (backTo pos (starEach [b] env)).any (·.1) = false := by intro _; rfl) :
    XI c sc G (.Tuple elts kk tpos) (.Call (.Name "zip" p) [a, b] [] pos) (min Ts.length Us.length) (fun i => tTup c.b.K [tyAt Ts i, tyAt Us i]) := fun X C σ Hi H w g => by
  have hp := pa_cons (X := X) (e := a) (es := [b]) eW_pe (pa_cons (X := X) (e := b) eW_pe pa_nil (hs2 _)) (hs _)
  refine iW_of (RZ.pi_zipA (C.glo hg) (by rw [C.hm]; exact hm) hp (hs _) (hpl _)) (ha.use C w g fun x Hi1 H1 g1 t1 => hb.use C g1.wi (g.mo g1.le) fun y Hi2 H2 g2 t2 => ?_)
  obtain ⟨l, xs, rfl, hl, ts⟩ := h1 x Hi2 (T1.mo g2.le t1)
  obtain ⟨m, ys, rfl, hl', us⟩ := h2 y Hi2 t2
  refine ⟨l, m, xs, ys, rfl, .inr ⟨C.hK ▸ (Le.of g2.wi.same).sqT hl, C.hK ▸ (Le.of g2.wi.same).sqT hl', Hi2, g1.trans g2, fun Hi3 H3 l3 w3 => ?_⟩⟩
  have q1 : SqT X.K H3 l xs := C.hK ▸ (Le.of w3.same).sqT (l3.sqT hl)
  have q2 : SqT X.K H3 m ys := C.hK ▸ (Le.of w3.same).sqT (l3.sqT hl')
  have e1 := ts.len
  have e2 := us.len
  refine ⟨fun i hi => ?_, xs, ys, q1, q2, by omega⟩
  refine ⟨⟨xs, ys, _, _, q1, q2, List.getElem?_eq_getElem (by omega), List.getElem?_eq_getElem (by omega)⟩, fun v H' ⟨T, x, y, e, hT, e', f1, f2⟩ => ?_⟩
  subst e; subst e'
  exact pair_ok w3 hT (yat_ok w3 (ts.mo l3) (by omega) (f1 xs q1)) (yat_ok w3 (us.mo l3) (by omega) (f2 ys q2))
theorem xi_enumL {elts : List Expr} {kk : Nat} {tpos p : Pos} (hm : c.b.mg "enumerate" = none) (h1 : LsK c.b.K T1 Ts) (ha : XE c sc G a T1) (hg : sc.names.lookup ("enumerate" : Str) = some .globalImplicit := by rfl)
    (hs : ∀ env, starEach [a] env = [(false, eval a env)] := by intro _; rfl) :
    XI c sc G (.Tuple elts kk tpos) (.Call (.Name "enumerate" p) [a] [] pos) Ts.length (fun i => tTup c.b.K [tInt (i : Nat), tyAt Ts i]) := fun X C σ Hi H w g => by
  refine iW_of (pi_enum (C.glo hg) (by rw [C.hm]; exact hm) (pa_cons eW_pe pa_nil (hs _)) (hs _)) (ha.use C w g fun x Hi1 H1 g1 t1 => ?_)
  obtain ⟨l, xs, rfl, hl, ts⟩ := h1 x Hi1 t1
  refine ⟨l, xs, rfl, C.hK ▸ (Le.of g1.wi.same).sqL hl, Hi1, g1, fun Hi3 H3 l3 w3 => ?_⟩
  have q1 : SqL X.K H3 l xs := C.hK ▸ (Le.of w3.same).sqL (l3.sqL hl)
  have e1 := ts.len
  refine ⟨fun i hi => ?_, xs, q1, by omega⟩
  refine ⟨⟨xs, _, q1, List.getElem?_eq_getElem (by omega)⟩, fun v H' ⟨T, x, e, hT, e', f1⟩ => ?_⟩
  subst e; subst e'
  exact pair_ok w3 hT rfl (yat_ok w3 (ts.mo l3) (by omega) (f1 xs q1))
/-! ### targets -/
def setAll : L2.St → List Nat → List V → L2.St
  | σ, j :: js, v :: vs => setAll (σ.set j (some v)) js vs
  | σ, _, _ => σ
def gset : Gm → List Nat → List Ty → Gm
  | G, j :: js, T :: Ts => gset (G.set j (some T)) js Ts
  | G, _, _ => G
theorem GS.setAll {H : Hp} : ∀ {js : List Nat} {Ts : List Ty} {vs : List V} {G : Gm} {σ : L2.St}, GS G σ H → TsP Ts vs H → GS (gset G js Ts) (Lg.setAll σ js vs) H
  | [], [], [], _, _, h, _ => h
  | [], _ :: _, _ :: _, _, _, h, _ => h
  | _ :: _, [], [], _, _, h, _ => h
  | j :: js, T :: Ts, v :: vs, G, σ, h, t => GS.setAll (js := js) (GS.set t.1 j h) t.2
  | _, [], _ :: _, _, _, _, t => t.elim
  | _, _ :: _, [], _, _, _, t => t.elim
theorem wipe_at (σ : L2.St) (vs : List Nat) (j : Nat) : (L2.wipe σ vs)[j]? = if j ∈ vs then (if j < σ.length then some none else none) else σ[j]? := by
  induction vs with
  | nil => simp [L2.wipe]
  | cons u us ih =>
    show ((L2.wipe σ us).set u none)[j]? = _
    by_cases h : u = j
    · subst h
      simp only [List.mem_cons, true_or, if_true]
      rw [List.getElem?_set, if_pos rfl, wipe_length]
    · rw [List.getElem?_set_ne h, ih]
      have : j ≠ u := fun z => h z.symm
      simp [List.mem_cons, this]
theorem wipe_setAll {vs : List Nat} : ∀ {js : List Nat} {us : List V} {τ : L2.St}, (∀ j ∈ js, j ∈ vs) → L2.wipe (setAll τ js us) vs = L2.wipe τ vs
  | [], _, _, _ => by simp [setAll]
  | _ :: _, [], _, _ => by simp [setAll]
  | j :: js, u :: us, τ, h => by
    show L2.wipe (setAll (τ.set j (some u)) js us) vs = _
    rw [wipe_setAll (js := js) fun k hk => h k (List.mem_cons_of_mem _ hk)]
    have hj := h j List.mem_cons_self
    apply List.ext_getElem?
    intro i
    rw [wipe_at, wipe_at]
    by_cases h : i ∈ vs
    · simp [h]
    · rw [if_neg h, if_neg h, List.getElem?_set_ne (fun z => by subst z; exact h hj)]
theorem wipe_wipe {σ : L2.St} {vs : List Nat} : L2.wipe (L2.wipe σ vs) vs = L2.wipe σ vs := by
  apply List.ext_getElem?
  intro i
  rw [wipe_at, wipe_at]
  by_cases h : i ∈ vs
  · simp [h, wipe_length]
  · rw [if_neg h, if_neg h]
/-- a target stores the parts of a T into slots -/
def XG (c : Cst) (sc : Scope) (tg : Expr) (T : Ty) (js : List Nat) (Ts : List Ty) : Prop := ∀ X, CtxOk c sc X → ∀ σ Hi H v, WI c.W Hi H → T.p v Hi → ∀ Q : L2.St → Hp → Prop, (∀ vs, TsP Ts vs Hi → Q (setAll σ js vs) H) → gW X tg v σ H Q
theorem xg_name (i : Nat) {x : Str} (hN : c.N[i]? = some x := by rfl) (hx : Loc' sc x := by first | exact Or.inl rfl | exact Or.inr rfl) : XG c sc (.Name x pos) T [i] [T] := fun X C σ Hi H v w t Q k =>
  gW_of (pg_name (i := i) (C.hN ▸ C.nd) (by rw [C.hN]; exact hN) (C.sto x hx).1 (C.sto x hx).2) (k [v] ⟨t, trivial⟩)
def XGs (c : Cst) (sc : Scope) (ts : List Expr) (Us : List Ty) (js : List Nat) (Ts : List Ty) : Prop := ∀ X, CtxOk c sc X → ∀ σ Hi H us, WI c.W Hi H → TsP Us us Hi → ∀ Q : L2.St → Hp → Prop, (∀ vs, TsP Ts vs Hi → Q (setAll σ js vs) H) → gsW X ts us σ H Q
theorem xgs_nil : XGs c sc [] [] [] [] := fun X C σ Hi H us w t Q k => by
  cases us with
  | nil => exact gsW_of pgs_nil ⟨rfl, k [] trivial⟩
  | cons _ _ => exact t.elim
theorem setAll_app : ∀ {js ks : List Nat} {vs us : List V} {σ : L2.St}, js.length = vs.length → setAll σ (js ++ ks) (vs ++ us) = setAll (setAll σ js vs) ks us
  | [], _, [], _, _, _ => rfl
  | _ :: js, _, _ :: vs, _, σ, h => setAll_app (js := js) (Nat.succ.inj h)
  | [], _, _ :: _, _, _, h => nomatch h
  | _ :: _, _, [], _, _, h => nomatch h
theorem xgs_cons {js ks : List Nat} {Ws : List Ty} (h1 : XG c sc e T js Ts) (h2 : XGs c sc es Us ks Ws) (hl : js.length = Ts.length := by rfl)
    (hs : ∀ env, (assignEach (e :: es) env).map (·.2) = assign e env :: (assignEach es env).map (·.2) := by intro _; rfl) : XGs c sc (e :: es) (T :: Us) (js ++ ks) (Ts ++ Ws) := fun X C σ Hi H us w t Q k => by
  cases us with
  | nil => exact t.elim
  | cons u us =>
    refine gsW_of (pgs_cons gW_pg gsW_pg (hs _)) ⟨u, us, rfl, h1 X C σ Hi H u w t.1 _ fun vs tv => h2 X C _ Hi H us w t.2 _ fun ws tw => ?_⟩
    have := k (vs ++ ws) (tv.app tw)
    rw [setAll_app (by rw [hl, tv.len])] at this
    exact this
theorem xg_tup {k : Nat} {js : List Nat} {n : Nat} (h : XGs c sc es Us js Ts) (hS : TpK c.b.K T Us) (hl : Us.length = n := by rfl) (hn : ∀ env, (assignEach es env).length = n := by intro _; rfl) (hst : ∀ env, (assignEach es env).findIdx? (·.1) = none := by intro _; rfl) : XG c sc (.Tuple es k pos) T js Ts := fun X C σ Hi H v w t Q q => by
  refine gW_of (pg_tup C.calm gsW_pg (hn _) (hst _)) ?_
  obtain ⟨a, xs, rfl, hx, ts⟩ := hS v Hi t
  exact ⟨a, xs, rfl, C.hK ▸ (Le.of w.same).sqT hx, by rw [ts.len, hl], h X C σ Hi H xs w ts Q q⟩
theorem xg_unl {k : Nat} {js : List Nat} {n : Nat} (h : XGs c sc es Us js Ts) (hS : LsK c.b.K T Us) (hl : Us.length = n := by rfl) (hn : ∀ env, (assignEach es env).length = n := by intro _; rfl) (hst : ∀ env, (assignEach es env).findIdx? (·.1) = none := by intro _; rfl) : XG c sc (.Tuple es k pos) T js Ts := fun X C σ Hi H v w t Q q => by
  refine gW_of (pg_unl C.calm gsW_pg (hn _) (hst _)) ?_
  obtain ⟨a, xs, rfl, hx, ts⟩ := hS v Hi t
  exact ⟨a, xs, rfl, C.hK ▸ (Le.of w.same).sqL hx, by rw [ts.len, hl], h X C σ Hi H xs w ts Q q⟩
end
end Lg

set_option maxHeartbeats 4000000
namespace Lg
open PySem PySem.Spec PyProof.Rows L2
/-! ### comprehensions -/
abbrev Cst.inb (c : Cst) : Cst := { c with d := false }
theorem lookup_relS_free {sc : Scope} : ∀ {names : List (Str × NameKind)} {x : Str}, names.lookup x = some .free →
    (names.map fun (n, k) => if (k == NameKind.free && sc.kind == .function && sc.names.lookup n == some .cell) then (n, NameKind.cell) else (n, k)).lookup x = some .cell ∨
    (names.map fun (n, k) => if (k == NameKind.free && sc.kind == .function && sc.names.lookup n == some .cell) then (n, NameKind.cell) else (n, k)).lookup x = some .free
  | [], _, h => by simp at h
  | (n, k₀) :: r, x, h => by
    have ih := @lookup_relS_free sc r x
    show List.lookup x ((if (k₀ == NameKind.free && sc.kind == .function && sc.names.lookup n == some .cell) = true then (n, NameKind.cell) else (n, k₀)) :: (r.map _)) = some .cell ∨ List.lookup x ((if (k₀ == NameKind.free && sc.kind == .function && sc.names.lookup n == some .cell) = true then (n, NameKind.cell) else (n, k₀)) :: (r.map _)) = some .free
    cases hx : x == n with
    | true =>
      simp only [List.lookup_cons, hx] at h
      cases h
      split
      · simp only [List.lookup_cons, hx]; exact .inl trivial
      · simp only [List.lookup_cons, hx]; exact .inr trivial
    | false =>
      simp only [List.lookup_cons, hx] at h
      split
      · simp only [List.lookup_cons, hx]; exact ih h
      · simp only [List.lookup_cons, hx]; exact ih h
section
variable {c : Cst} {sc : Scope} {G : Gm} {X : Cx} {e a b : Expr} {T T1 T2 T3 : Ty} {σ : L2.St} {Hi H : Hp} {pos : Pos} {es : List Expr} {Ts Us : List Ty}
theorem ctx_blk {scope : Scope} (C : CtxOk c sc X) (s : Shared) (H : Hp) (a : Addr) (cl : List (Str × Addr)) (fp : List Addr) : CtxOk c.inb scope (X.blk s H scope (compEnvC scope cl a X.env) fp) where
  hP := C.hP
  hw := C.hw
  hK := C.hK
  hm := C.hm
  hb := C.hb
  hN := C.hN
  hd := fun h => nomatch h
  vis := fun x h => by
    rcases h with h | h | h
    · exact .inl (lookup_relS_keep (by decide) h)
    · exact .inr (.inl (lookup_relS_keep (by decide) h))
    · exact .inr (lookup_relS_free h)
  gl := fun x h => lookup_relS_keep (by decide) h
  sto := fun x h => by
    rcases h with h | h
    · exact ⟨.inl (lookup_relS_keep (by decide) h), .inr (lookup_relS_keep (by decide) h)⟩
    · exact ⟨.inr (lookup_relS_keep (by decide) h), .inl (by show (scope.names.lookup x == some .cell) = true; rw [h]; rfl)⟩
  loc := fun x h => lookup_relS_keep (by decide) h
  nd := C.nd
  calm := C.calm
  room := C.room
  xe := rfl
def gU (c : Cst) (sc : Scope) (tg : Expr) : TG := fun v σ H Q => ∀ X, CtxOk c sc X → gW X tg v σ H Q
def eU (c : Cst) (sc : Scope) (e : Expr) : TE := fun σ H Q => ∀ X, CtxOk c sc X → eW X e σ H Q
def ptsW (X : Cx) (ifs : List Expr) : TT := fun σ H Q => ∀ (pins : List (Addr × Obj)) (s : Shared), Inv X pins σ H s →
  wpAny (model X.prog X.w) X.A (forIn ifs true fun c r => if r = true then do let ok ← isTrue c X.env (eval c X.env); pure (ForInStep.yield ok) else pure (ForInStep.yield r)) (TP X pins σ Q) X.xe s
def tU (c : Cst) (sc : Scope) (ifs : List Expr) : TT := fun σ H Q => ∀ X, CtxOk c sc X → ptsW X ifs σ H Q
/-- the tests of a clause -/
def XTs (c : Cst) (sc : Scope) (G : Gm) (ifs : List Expr) (b : Bool) : Prop := ∀ X, CtxOk c sc X → ∀ σ Hi H, WI c.W Hi H → GS G σ Hi → ptsW X ifs σ H (fun b' H' => b' = b ∧ ∃ Hi', Gr c.W Hi H Hi' H')
theorem xts_nil : XTs c sc G [] true := fun X C σ Hi H w g pins s I => pts_nil.run pins s σ H _ I ⟨rfl, Hi, Gr.refl w⟩
theorem xts_one {p : Bool} (h : XT c sc G e p) : XTs c sc G [e] p := fun X C σ Hi H w g pins s I => (pts_one tW_pt).run pins s σ H _ I (h X C σ Hi H w g)
def given (n : Nat) (f : Nat → Bool) (t : Nat → Ty) : List Ty := ((List.range n).filter f).map t
theorem given_yes {n : Nat} {f : Nat → Bool} {v : Nat → Ty} (h : f n = true) : given (n + 1) f v = given n f v ++ [v n] := by
  unfold given
  rw [List.range_succ, List.filter_append, List.map_append, List.filter_cons, if_pos h]
  rfl
theorem given_no {n : Nat} {f : Nat → Bool} {v : Nat → Ty} (h : f n = false) : given (n + 1) f v = given n f v := by
  unfold given
  rw [List.range_succ, List.filter_append, List.map_append, List.filter_cons, if_neg (by rw [h]; decide)]
  show _ ++ [] = _
  rw [List.append_nil]
theorem given_len (n : Nat) (f : Nat → Bool) (v : Nat → Ty) : (given n f v).length ≤ n := by
  unfold given
  rw [List.length_map]
  have h := List.length_filter_le f (List.range n)
  rw [List.length_range] at h
  exact h
/-- a new list -/
def RN (W : Wd) (Hi H : Hp) (Ts : List Ty) : VK := fun v H' => ∃ p xs Hi', v = .ref p ∧ H p = none ∧ H' p = some (.lst xs) ∧ Hi' p = none ∧ (∀ c ∈ W, c.a ≠ p) ∧ Gr W Hi H Hi' H' ∧ TsP Ts xs Hi'
theorem RN.res {W : Wd} {v : V} {H' : Hp} (h : RN W Hi H Ts v H') : Res W Hi H (tLst Ts) v H' := by
  obtain ⟨p, xs, Hi', rfl, h1, h2, h3, h4, g, t⟩ := h
  exact ⟨_, g.seal h1 h2 h3 h4, p, xs, rfl, upd_same, t.mo (Le.of (same_new h3))⟩
def XN (c : Cst) (sc : Scope) (G : Gm) (e : Expr) (Ts : List Ty) : Prop := ∀ X, CtxOk c sc X → ∀ σ Hi H, WI c.W Hi H → GS G σ Hi → eW X e σ H (RN c.W Hi H Ts)
theorem XN.xe (h : XN c sc G e Ts) : XE c sc G e (tLst Ts) := fun X C σ Hi H w g => eW_mono (h X C σ Hi H w g) fun v H' r => r.res
theorem RN.new {W : Wd} {Hi1 H1 : Hp} {p : Addr} {xs : List V} (g : Gr W Hi H Hi1 H1) (w : WI W Hi H) (hp : H1 p = none) (t : TsP Ts xs Hi1) : RN W Hi H Ts (.ref p) (upd H1 p (.lst xs)) := by
  have h0 : H p = none := by
    cases e : H p with
    | none => rfl
    | some o =>
      by_cases hc : ∀ c ∈ W, c.a ≠ p
      · rw [g.keep p o e hc] at hp; cases hp
      · exact (hc (g.wi.off hp)).elim
  exact ⟨p, xs, Hi1, rfl, h0, upd_same, g.wi.none hp, g.wi.off hp, g.put h0 (g.wi.none hp) (g.wi.off hp), t⟩
theorem xn_lst (ha : XA c sc G es Ts) (hl : Ts.length ≤ 100000 := by decide) : XN c sc G (.List es pos) Ts := fun X C σ Hi H w g =>
  eW_of (pe_lst aW_pa) (ha.use C w g fun vs Hi1 H1 g1 t1 => ⟨by rw [t1.len]; exact size_small hl, fun p hp => RN.new g1 w hp t1⟩)
theorem xn_list {x : Str} {p : Pos} (hm : c.b.mg x = none) (hS : LsK c.b.K T Ts) (ha : XE c sc G a T) (hv : bootBuiltins x = some (.type "list") := by decide +kernel) (hg : sc.names.lookup x = some .globalImplicit := by rfl) (hn : x ≠ "__name__" := by decide +kernel) (hdb : (x == ("__debug__" : Str)) = false := by decide +kernel)
    (he : ∀ env, starEach [a] env = (false, eval a env) :: starEach [] env := by intro _; rfl) (hpl : ∀ env, (backTo pos (starEach [] env)).any (·.1) = false := by intro _; rfl) : XN c sc G (.Call (.Name x p) [a] [] pos) Ts := fun X C σ Hi H w g => by
  refine eW_of (pe_callTy call_list_of (C.glo hg) (by rw [C.hm]; exact hm) hv (pa_cons eW_pe pa_nil (he _)) hn hdb (he _) (hpl _)) ?_
  refine ha.use C w g fun v Hi1 H1 g1 t1 => ?_
  obtain ⟨l, xs, rfl, hl, ts⟩ := hS v Hi1 t1
  exact ⟨l, xs, rfl, .inl (C.hK ▸ (Le.of g1.wi.same).sqL hl), fun q hq => RN.new g1 w hq ts⟩
def rgI (n : Nat) : List Int := (List.range n).map fun (i : Nat) => (i : Int)
theorem rgV_ints (n : Nat) : rgV 0 (n : Int) = (rgI n).map V.int := by
  unfold rgV rgI
  rw [List.map_map]
  have : ((n : Int) - 0).toNat = n := by omega
  rw [this]
  exact List.map_congr_left fun i _ => by show V.int _ = V.int _; rw [Int.zero_add]
theorem prg_w (hm : c.b.mg "range" = none) (C : CtxOk c sc X) {p : Pos} (hg : sc.names.lookup ("range" : Str) = some .globalImplicit) (he : ∀ env, starEach [a] env = (false, eval a env) :: starEach [] env) : PRg X (.Call (.Name "range" p) [a] [] pos) (tRg1 (eW X a)) :=
  prg_1 (C.glo hg) (by rw [C.hm]; exact hm) eW_pe (he _)
/-- list(range(n)) -/
theorem xn_listRg {p p' q : Pos} {n : Nat} (hm : c.b.mg "list" = none) (hm' : c.b.mg "range" = none) (ha : XE c sc G a (tInt n)) (hn : n ≤ 100000) (hg : sc.names.lookup ("list" : Str) = some .globalImplicit := by rfl) (hg' : sc.names.lookup ("range" : Str) = some .globalImplicit := by rfl)
    (he : ∀ env, starEach [a] env = (false, eval a env) :: starEach [] env := by intro _; rfl) (he' : ∀ env, starEach [.Call (.Name "range" p') [a] [] q] env = (false, eval (.Call (.Name "range" p') [a] [] q) env) :: starEach [] env := by intro _; rfl) :
    XN c sc G (.Call (.Name "list" p) [.Call (.Name "range" p') [a] [] q] [] pos) ((rgI n).map tInt) := fun X C σ Hi H w g => by
  refine eW_of (pe_listRg C.calm (C.glo hg) (by rw [C.hm]; exact hm) (prg_w hm' C hg' he) (he' _)) ?_
  refine ha.use C w g fun v Hi1 H1 g1 t1 => ⟨n, t1, ⟨by omega, by omega, by omega, by omega, by omega⟩, fun q hq => ?_⟩
  rw [rgV_ints]
  exact RN.new g1 w hq (TsP_of_ints _)
theorem xe_tupRg {p p' q : Pos} {n : Nat} (hm : c.b.mg "tuple" = none) (hm' : c.b.mg "range" = none) (ha : XE c sc G a (tInt n)) (hn : n ≤ 100000) (hg : sc.names.lookup ("tuple" : Str) = some .globalImplicit := by rfl) (hg' : sc.names.lookup ("range" : Str) = some .globalImplicit := by rfl)
    (he : ∀ env, starEach [a] env = (false, eval a env) :: starEach [] env := by intro _; rfl) (he' : ∀ env, starEach [.Call (.Name "range" p') [a] [] q] env = (false, eval (.Call (.Name "range" p') [a] [] q) env) :: starEach [] env := by intro _; rfl) :
    XE c sc G (.Call (.Name "tuple" p) [.Call (.Name "range" p') [a] [] q] [] pos) (tTup c.b.K ((rgI n).map tInt)) := fun X C σ Hi H w g => by
  refine eW_of (pe_tupRg C.calm (C.glo hg) (by rw [C.hm]; exact hm) (prg_w hm' C hg' he) (he' _)) ?_
  refine ha.use C w g fun v Hi1 H1 g1 t1 => ⟨n, t1, ⟨by omega, by omega, by omega, by omega, by omega⟩, fun q hq => ?_⟩
  rw [rgV_ints]
  exact ⟨_, g1.trans (Gr.new g1.wi hq), q, _, rfl, SqT.of upd_same, TsP_of_ints _⟩
/-- the parts of a comprehension -/
structure LcK (c : Cst) (sc : Scope) (G : Gm) (elt tg iter : Expr) (ifs : List Expr) (scope : Scope) (own : List (Str × Nat)) (n : Nat) (f : Nat → Bool) (t : Nat → Ty) : Prop where
  d : c.d = true
  ok : BlkOk c.N sc scope own
  ex : ∃ (it : Nat → Ty) (js : List Nat) (Ts : Nat → List Ty), XI c sc G tg iter n it ∧ (∀ j ∈ js, j ∈ own.map (·.2)) ∧ n ≤ 100000 ∧
    (∀ i, i < n → XG c.inb scope tg (it i) js (Ts i)) ∧ (∀ i, i < n → XTs c.inb scope (gset (gwipe G (own.map (·.2))) js (Ts i)) ifs (f i)) ∧ ∀ i, i < n → f i = true → XE c.inb scope (gset (gwipe G (own.map (·.2))) js (Ts i)) elt (t i)
theorem lc_t {elt tg iter : Expr} {ifs : List Expr} {scope : Scope} {own : List (Str × Nat)} {n : Nat} {f : Nat → Bool} {t : Nat → Ty} (L : LcK c sc G elt tg iter ifs scope own n f t) (C : CtxOk c sc X) (w : WI c.W Hi H) (g : GS G σ Hi) :
    tLc (iW X tg iter) (gU c.inb scope tg) (tU c.inb scope ifs) (eU c.inb scope elt) (own.map (·.2)) σ H (RN c.W Hi H (given n f t)) := by
  obtain ⟨it, js, Us, hi, hjs, hn, hg, ht, he⟩ := L.ex
  refine fun pins s I => (iW_pi (X := X)).run pins s σ H _ I fun pins s I => ?_
  refine thn (hi X C σ Hi H w g pins s I) fun v s1 h1 => thn h1 fun itv s2 ⟨ita, fp, tn, J, H1, e, I2, T, st, fr, Hi1, g1, ok⟩ => ⟨ita, fp, tn, J, H1, e, I2, T, st, fr, fun D hD => ?_⟩
  have hD0 : H D = none := by
    cases e : H D with
    | none => rfl
    | some o =>
      by_cases hc : ∀ c' ∈ c.W, c'.a ≠ D
      · rw [g1.keep D o e hc] at hD; cases hD
      · exact (hc (g1.wi.off hD)).elim
  have hDi := g1.wi.none hD
  have hDc := g1.wi.off hD
  refine ⟨fun i m H' => m = n - i ∧ i ≤ n ∧ ∃ Hi' xs, Gr c.W Hi H Hi' H' ∧ Le Hi1 Hi' ∧ H' D = some (.lst xs) ∧ Hi' D = none ∧ TsP (given i f t) xs Hi', ⟨n, by omega, Nat.zero_le _, Hi1, [], g1.put hD0 hDi hDc, Le.refl _, upd_same, hDi, trivial⟩, ?_⟩
  rintro i m H2 ⟨rfl, hin, Hi2, xs, g2, l2, hx, hDi2, tx⟩
  obtain ⟨go, stop⟩ := ok Hi2 H2 l2 g2.wi
  by_cases hlt : i < n
  · obtain ⟨go1, yld⟩ := go i hlt
    refine .inr ⟨go1, fun H' => ∃ Hi' xs, Gr c.W Hi H Hi' H' ∧ Le Hi1 Hi' ∧ H' D = some (.lst xs) ∧ Hi' D = none ∧ TsP (given (i + 1) f t) xs Hi', fun H' ⟨Hi', xs, q⟩ => ⟨n - (i + 1), by omega, rfl, hlt, Hi', xs, q⟩, fun x H3 hy => ?_⟩
    obtain ⟨Hi3, g3, tx3⟩ := yld x H3 hy
    intro X' C'
    refine hg i hlt X' C' (L2.wipe σ (own.map (·.2))) Hi3 H3 x g3.wi tx3 _ fun vs tvs => ?_
    refine ⟨(wipe_setAll hjs).trans wipe_wipe, fun X2 C2 => ?_⟩
    have gs : GS (gset (gwipe G (own.map (·.2))) js (Us i)) (setAll (L2.wipe σ (own.map (·.2))) js vs) Hi3 := ((g.mo (g2.trans g3).le).wipe _).setAll tvs
    intro pins' s' I'
    refine thn (ht i hlt X2 C2 _ Hi3 H3 g3.wi gs pins' s' I') fun b' s3 ⟨H4, I4, eb, Hi4, g4⟩ => ⟨H4, I4, ?_⟩
    subst eb
    have hD3 : H3 D = some (.lst xs) := g3.keep D _ hx hDc
    have hD4 : H4 D = some (.lst xs) := g4.keep D _ hD3 hDc
    have hDi3 : Hi3 D = none := g3.off D _ hDi2 hx (fun _ z => nomatch z)
    have hDi4 : Hi4 D = none := g4.off D _ hDi3 hD3 (fun _ z => nomatch z)
    have g24 := (g2.trans g3).trans g4
    cases hf : f i with
    | false =>
      rw [if_neg Bool.false_ne_true]
      refine ⟨Hi4, xs, g24, l2.trans (g3.le.trans g4.le), hD4, hDi4, ?_⟩
      rw [given_no hf]
      exact tx.mo (g3.le.trans g4.le)
    | true =>
      rw [if_pos rfl]
      intro X3 C3
      refine (he i hlt hf).use C3 g4.wi (gs.mo g4.le) fun y Hi5 H5 g5 ty => ?_
      have hD5 : H5 D = some (.lst xs) := g5.keep D _ hD4 hDc
      have hDi5 : Hi5 D = none := g5.off D _ hDi4 hD4 (fun _ z => nomatch z)
      have hl : xs.length ≤ i := by rw [tx.len]; exact given_len i f t
      refine ⟨xs, hD5, Nat.lt_of_lt_of_le (by omega : xs.length < 100001) (by decide), Hi5, xs ++ [y], (g24.trans g5).put hD0 hDi5 hDc, l2.trans (g3.le.trans (g4.le.trans g5.le)), upd_same, hDi5, ?_⟩
      rw [given_yes hf]
      exact (tx.mo (g3.le.trans (g4.le.trans g5.le))).app ⟨ty, trivial⟩
  · have e' : i = n := by omega
    subst e'
    exact .inl ⟨stop, D, xs, Hi2, rfl, hD0, hx, hDi2, hDc, g2, tx⟩
theorem xn_lc {elt tg iter : Expr} {ifs : List Expr} {scope : Scope} {own : List (Str × Nat)} {n : Nat} {f : Nat → Bool} {t : Nat → Ty} (L : LcK c sc G elt tg iter ifs scope own n f t) (hs : ∀ env x, foldedSetIterable iter env x = pure x := by intro _ _; rfl) :
    XN c sc G (.ListComp elt [⟨tg, iter, ifs, 0⟩] scope pos) (given n f t) := fun X C σ Hi H w g => by
  have ok : BlkOk X.N X.env.scope scope own := by rw [C.hN, C.hd L.d]; exact L.ok
  exact eW_of (pe_lc C.calm (C.hN ▸ C.nd) iW_pi ok (fun s H a cl fp => ⟨fun pins s' σ' H' v u Q I r h => h _ (ctx_blk C s H a cl fp) pins s' u I r⟩) (fun s H a cl fp => ⟨fun pins s' σ' H' Q I h => h _ (ctx_blk C s H a cl fp) pins s' I⟩)
    (fun s H a cl fp => ⟨fun pins s' σ' H' Q I h => h _ (ctx_blk C s H a cl fp) pins s' I⟩) (hs _)) (lc_t L C w g)
theorem xe_lc {elt tg iter : Expr} {ifs : List Expr} {scope : Scope} {own : List (Str × Nat)} {n : Nat} {f : Nat → Bool} {t : Nat → Ty} (L : LcK c sc G elt tg iter ifs scope own n f t) (hs : ∀ env x, foldedSetIterable iter env x = pure x := by intro _ _; rfl) :
    XE c sc G (.ListComp elt [⟨tg, iter, ifs, 0⟩] scope pos) (tLst (given n f t)) := (xn_lc L hs).xe
/-! ### blocks -/
structure Own where
  a : Addr
  q : HO → Hp → Prop
  mo : ∀ {o H H'}, Le H H' → q o H → q o H'
  nt : ∀ {xs H}, ¬ q (.tup xs) H
def oLst (a : Addr) (Ts : List Ty) : Own := ⟨a, fun o H => ∃ xs, o = .lst xs ∧ TsP Ts xs H, fun l ⟨xs, e, t⟩ => ⟨xs, e, t.mo l⟩, fun ⟨_, e, _⟩ => nomatch e⟩
def oDT (a : Addr) (ks : List (List Key × Ty)) : Own := ⟨a, fun o H => ∃ kvs, o = .dT kvs ∧ KvP ks kvs H, fun l ⟨xs, e, t⟩ => ⟨xs, e, t.mo l⟩, fun ⟨_, e, _⟩ => nomatch e⟩
def oDK (a : Addr) (ks : List (Key × Ty)) : Own := ⟨a, fun o H => ∃ kvs, o = .dK kvs ∧ KvP ks kvs H, fun l ⟨xs, e, t⟩ => ⟨xs, e, t.mo l⟩, fun ⟨_, e, _⟩ => nomatch e⟩
structure OwnOk (W : Wd) (H0 Hi H : Hp) (O : List Own) : Prop where
  nd : (O.map Own.a).Nodup
  at_ : ∀ o ∈ O, (∃ u, H o.a = some u ∧ o.q u Hi) ∧ Hi o.a = none ∧ H0 o.a = none ∧ ∀ c ∈ W, c.a ≠ o.a
theorem OwnOk.nil {W : Wd} {H0 Hi H : Hp} : OwnOk W H0 Hi H [] := ⟨List.nodup_nil, fun _ h => nomatch h⟩
theorem OwnOk.gr {W : Wd} {H0 Hi H Hi' H' : Hp} {O : List Own} (k : OwnOk W H0 Hi H O) (g : Gr W Hi H Hi' H') : OwnOk W H0 Hi' H' O :=
  ⟨k.nd, fun o ho => by
    obtain ⟨⟨u, h1, h2⟩, h3, h4, h5⟩ := k.at_ o ho
    exact ⟨⟨u, g.keep _ _ h1 h5, o.mo g.le h2⟩, g.off _ u h3 h1 (fun xs z => o.nt (z ▸ h2)), h4, h5⟩⟩
def SS (W : Wd) (Hi0 H0 : Hp) (G : Gm) (O : List Own) : L2.St → Hp → Prop := fun σ H => ∃ Hi, Gr W Hi0 H0 Hi H ∧ GS G σ Hi ∧ OwnOk W H0 Hi H O
def XB (c : Cst) (sc : Scope) (Hi0 H0 : Hp) (A : L2.St → Hp → Prop) (ss : List Stmt) (N : L2.St → Hp → Prop) (T : Ty) : Prop := ∀ X, CtxOk c sc X → ∀ σ H, A σ H → bW X ss { nx := N, rt := Res c.W Hi0 H0 T } σ H
variable {Hi0 H0 : Hp} {O : List Own} {ss rest : List Stmt} {N M A : L2.St → Hp → Prop}
theorem SS.le {W : Wd} {G' : Gm} (l : GLe G G') {σ : L2.St} {H : Hp} (h : SS W Hi0 H0 G O σ H) : SS W Hi0 H0 G' O σ H := by
  obtain ⟨Hi, g, s, k⟩ := h
  exact ⟨Hi, g, s.le l, k⟩
theorem XB.pre {A' : L2.St → Hp → Prop} (h : XB c sc Hi0 H0 A ss N T) (k : ∀ σ H, A' σ H → A σ H) : XB c sc Hi0 H0 A' ss N T := fun X C σ H a => h X C σ H (k σ H a)
theorem XB.post (h : XB c sc Hi0 H0 A ss N T) (k : ∀ σ H, N σ H → M σ H) : XB c sc Hi0 H0 A ss M T := fun X C σ H a => bW_mono (h X C σ H a) k (fun _ _ q => q) (fun _ _ (q : False) => q.elim) (fun _ _ (q : False) => q.elim)
theorem xb_ex {α : Type} {A : α → L2.St → Hp → Prop} (h : ∀ a, XB c sc Hi0 H0 (A a) ss N T) : XB c sc Hi0 H0 (fun σ H => ∃ a, A a σ H) ss N T := fun X C σ H ⟨a, ha⟩ => h a X C σ H ha
theorem xb_nil (h : ∀ σ H, A σ H → N σ H) : XB c sc Hi0 H0 A [] N T := fun X C σ H a => bW_of pss_nil (h σ H a)
theorem xb_end {G' : Gm} (l : GLe G G') : XB c sc Hi0 H0 (SS c.W Hi0 H0 G O) [] (SS c.W Hi0 H0 G' O) T := xb_nil fun σ H a => a.le l
theorem bW_cons {st : Stmt} {t : TS} {D : Ends} (h : PS X st t) (q : t { D with nx := bW X rest D } σ H) : bW X (st :: rest) D σ H := bW_of (pss_cons h bW_ps) q
theorem xb_ret (he : XE c sc G e T1) (k : ∀ v H, T1.p v H → T.p v H) : XB c sc Hi0 H0 (SS c.W Hi0 H0 G O) (.Return (some e) pos :: rest) N T := fun X C σ H ⟨Hi, g, s, o⟩ =>
  bW_cons (ps_ret eW_pe) (he.use C g.wi s fun v Hi' H' g' t' => ⟨Hi', g.trans g', k v Hi' t'⟩)
theorem xb_retE (he : XE c sc G e T) : XB c sc Hi0 H0 (SS c.W Hi0 H0 G O) (.Return (some e) pos :: rest) N T := xb_ret he fun _ _ h => h
theorem xb_retN (k : ∀ H, T.p .non H) : XB c sc Hi0 H0 (SS c.W Hi0 H0 G O) (.Return none pos :: rest) N T := fun X C σ H ⟨Hi, g, s, o⟩ =>
  bW_cons ps_retN ⟨Hi, g, k Hi⟩
/-- what one's own object is when it is given away -/
def SealK (o : Own) (T : Ty) : Prop := ∀ u Hi, o.q u Hi → Hi o.a = none → T.p (.ref o.a) (upd Hi o.a u)
theorem seal_lst {p : Addr} : SealK (oLst p Ts) (tLst Ts) := fun u Hi ⟨xs, e, t⟩ h => ⟨p, xs, rfl, by subst e; exact upd_same, t.mo (Le.of (same_new h))⟩
theorem seal_dT {p : Addr} {ks : List (List Key × Ty)} : SealK (oDT p ks) (tDT ks) := fun u Hi ⟨xs, e, t⟩ h => ⟨p, u, xs, rfl, upd_same, by subst e; rfl, t.mo (Le.of (same_new h))⟩
theorem seal_dK {p : Addr} {ks : List (Key × Ty)} : SealK (oDK p ks) (tDK ks) := fun u Hi ⟨xs, e, t⟩ h => ⟨p, xs, rfl, by subst e; exact upd_same, t.mo (Le.of (same_new h))⟩
theorem xb_seal {o : Own} (i : Nat) (hG : G[i]? = some (some (tRef o.a))) (hs : SealK o T1) (h : XB c sc Hi0 H0 (SS c.W Hi0 H0 (G.set i (some T1)) O) ss N T) : XB c sc Hi0 H0 (SS c.W Hi0 H0 G (o :: O)) ss N T := fun X C σ H ⟨Hi, g, s, k⟩ => by
  obtain ⟨⟨u, h1, h2⟩, h3, h4, h5⟩ := k.at_ o List.mem_cons_self
  have hnd : o.a ∉ O.map Own.a ∧ (O.map Own.a).Nodup := by simpa using k.nd
  have le : Le Hi (upd Hi o.a u) := Le.of (same_new h3)
  refine h X C σ H ⟨upd Hi o.a u, g.seal h4 h1 h3 h5, ?_, hnd.2, fun w hw => ?_⟩
  · obtain ⟨v, e1, e2⟩ := s.get hG
    have := GS.set (v := v) (show T1.p v (upd Hi o.a u) by cases (show v = .ref o.a from e2); exact hs u Hi h2 h3) i (s.mo le)
    have e3 : σ.set i (some v) = σ := by
      apply List.ext_getElem?
      intro j
      by_cases hj : i = j
      · subst hj
        rw [e1, List.getElem?_set_self (List.getElem?_eq_some_iff.mp e1).1]
      · rw [List.getElem?_set_ne hj]
    rw [e3] at this
    exact this
  · obtain ⟨⟨v, q1, q2⟩, q3, q4, q5⟩ := k.at_ w (List.mem_cons_of_mem _ hw)
    have ne : w.a ≠ o.a := fun z => hnd.1 (z ▸ List.mem_map.mpr ⟨w, hw, rfl⟩)
    exact ⟨⟨v, q1, w.mo le q2⟩, by rw [upd_ne ne]; exact q3, q4, q5⟩
theorem xb_asg (i : Nat) {x : Str} {p' : Pos} (he : XE c sc G e T1) (h : XB c sc Hi0 H0 (SS c.W Hi0 H0 (G.set i (some T1)) O) rest N T) (hN : c.N[i]? = some x := by rfl) (hx : Loc' sc x := by first | exact Or.inl rfl | exact Or.inr rfl)
    (hs : ∀ env, swapsWith e (some (.Name x p')) pos.line env = pure false := by intro _; rfl) : XB c sc Hi0 H0 (SS c.W Hi0 H0 G O) (.Assign [.Name x p'] e pos :: rest) N T := fun X C σ H ⟨Hi, g, s, k⟩ =>
  bW_cons (ps_set (i := i) (C.hN ▸ C.nd) (by rw [C.hN]; exact hN) (C.sto x hx).1 eW_pe (hs _) (C.sto x hx).2) (he.use C g.wi s fun v Hi' H' g' t' =>
    h X C _ H' ⟨Hi', g.trans g', (s.mo g'.le).set t' i, k.gr g'⟩)
/-- a new list that is one's own -/
theorem RN.own {v : V} {H' : Hp} {O : List Own} (r : RN c.W Hi H Ts v H') (g : Gr c.W Hi0 H0 Hi H) (k : OwnOk c.W H0 Hi H O) (s : GS G σ Hi) (i : Nat) : ∃ p, v = .ref p ∧ SS c.W Hi0 H0 (G.set i (some (tRef p))) (oLst p Ts :: O) (σ.set i (some v)) H' := by
  obtain ⟨p, xs, Hi', rfl, h1, h2, h3, h4, g', t⟩ := r
  have h0 : H0 p = none := by
    cases e : H0 p with
    | none => rfl
    | some o => rw [g.keep p o e h4] at h1; cases h1
  refine ⟨p, rfl, Hi', g.trans g', (s.mo g'.le).set (T := tRef p) rfl i, ?_, ?_⟩
  · have := (k.gr g').nd
    refine List.nodup_cons.mpr ⟨fun hm => ?_, this⟩
    obtain ⟨w, hw, e⟩ := List.mem_map.mp hm
    obtain ⟨⟨u, q1, _⟩, _⟩ := k.at_ w hw
    have e : w.a = p := e
    rw [e, h1] at q1
    cases q1
  · intro w hw
    rcases List.mem_cons.mp hw with rfl | hw
    · exact ⟨⟨_, h2, xs, rfl, t⟩, h3, h0, h4⟩
    · exact (k.gr g').at_ w hw
theorem xb_own (i : Nat) {x : Str} {p' : Pos} (he : XN c sc G e Ts) (h : ∀ p, XB c sc Hi0 H0 (SS c.W Hi0 H0 (G.set i (some (tRef p))) (oLst p Ts :: O)) rest N T) (hN : c.N[i]? = some x := by rfl) (hx : Loc' sc x := by first | exact Or.inl rfl | exact Or.inr rfl)
    (hs : ∀ env, swapsWith e (some (.Name x p')) pos.line env = pure false := by intro _; rfl) : XB c sc Hi0 H0 (SS c.W Hi0 H0 G O) (.Assign [.Name x p'] e pos :: rest) N T := fun X C σ H ⟨Hi, g, s, k⟩ =>
  bW_cons (ps_set (i := i) (C.hN ▸ C.nd) (by rw [C.hN]; exact hN) (C.sto x hx).1 eW_pe (hs _) (C.sto x hx).2) (eW_mono (he X C σ Hi H g.wi s) fun v H' r => by
    obtain ⟨p, rfl, q⟩ := r.own g k s i
    exact h p X C _ H' q)
/-- x = [..] by a comprehension -/
theorem lc_asg {elt tg iter : Expr} {ifs : List Expr} {scope : Scope} {own : List (Str × Nat)} {n : Nat} {f : Nat → Bool} {t : Nat → Ty} {py spos : Pos} {y : Str} (i : Nat) (L : LcK c sc G elt tg iter ifs scope own n f t) (C : CtxOk c sc X) (w : WI c.W Hi H) (g : GS G σ Hi) {D : Ends}
    (k : ∀ v H', RN c.W Hi H (given n f t) v H' → D.nx (σ.set i (some v)) H') (hN : c.N[i]? = some y) (hy : sc.names.lookup y = some .local)
    (hsw : ∀ env, env.scope = sc → swapsWith (.ListComp elt [⟨tg, iter, ifs, 0⟩] scope pos) (some (.Name y py)) spos.line env = pure true) (hs : ∀ env x, foldedSetIterable iter env x = pure x) : sW X (.Assign [.Name y py] (.ListComp elt [⟨tg, iter, ifs, 0⟩] scope pos) spos) D σ H := by
  have ok : BlkOk X.N X.env.scope scope own := by rw [C.hN, C.hd L.d]; exact L.ok
  refine sW_of (ps_setLc (i := i) (wi := iW X tg iter) (g := gU c.inb scope tg) (tt := tU c.inb scope ifs) (te := eU c.inb scope elt) C.calm (C.hN ▸ C.nd) (by rw [C.hN]; exact hN) (C.loc y hy) (hsw _ (C.hd L.d)) iW_pi ok (fun s H a cl fp => ⟨fun pins s' σ' H' v u Q I r h => h _ (ctx_blk C s H a cl fp) pins s' u I r⟩) (fun s H a cl fp => ⟨fun pins s' σ' H' Q I h => h _ (ctx_blk C s H a cl fp) pins s' I⟩)
    (fun s H a cl fp => ⟨fun pins s' σ' H' Q I h => h _ (ctx_blk C s H a cl fp) pins s' I⟩) (hs _)) ?_
  have q := lc_t L C w g
  have mono : ∀ {Q Q' : VK}, (∀ v H', Q v H' → Q' v H') → tLc (iW X tg iter) (gU c.inb scope tg) (tU c.inb scope ifs) (eU c.inb scope elt) (own.map (·.2)) σ H Q → tLc (iW X tg iter) (gU c.inb scope tg) (tU c.inb scope ifs) (eU c.inb scope elt) (own.map (·.2)) σ H Q' := by
    intro Q Q' hQ h pins s I
    refine thn (h pins s I) fun v s1 h1 => thn h1 fun itv s2 ⟨ita, fp, tn, J, H1, e, I2, T, st, fr, z⟩ => ⟨ita, fp, tn, J, H1, e, I2, T, st, fr, fun D hD => ?_⟩
    obtain ⟨W, w0, turn⟩ := z D hD
    refine ⟨W, w0, fun i m H hw => ?_⟩
    rcases turn i m H hw with ⟨a, b⟩ | ⟨a, b⟩
    · exact .inl ⟨a, hQ _ _ b⟩
    · exact .inr ⟨a, b⟩
  exact mono k q
theorem xb_asgLc (i : Nat) {elt tg iter : Expr} {ifs : List Expr} {scope : Scope} {own : List (Str × Nat)} {n : Nat} {f : Nat → Bool} {t : Nat → Ty} {py spos : Pos} {y : Str} (L : LcK c sc G elt tg iter ifs scope own n f t)
    (h : XB c sc Hi0 H0 (SS c.W Hi0 H0 (G.set i (some (tLst (given n f t)))) O) rest N T) (hN : c.N[i]? = some y := by rfl) (hy : sc.names.lookup y = some .local := by rfl)
    (hsw : ∀ env, env.scope = sc → swapsWith (.ListComp elt [⟨tg, iter, ifs, 0⟩] scope pos) (some (.Name y py)) spos.line env = pure true := by exact fun _ e => sw_true (by rw [e]; rfl) (by rw [e]; rfl) rfl (by decide +kernel)) (hs : ∀ env x, foldedSetIterable iter env x = pure x := by intro _ _; rfl) :
    XB c sc Hi0 H0 (SS c.W Hi0 H0 G O) (.Assign [.Name y py] (.ListComp elt [⟨tg, iter, ifs, 0⟩] scope pos) spos :: rest) N T := fun X C σ H ⟨Hi, g, s, k⟩ => by
  refine bW_cons sW_ps (lc_asg i L C g.wi s (fun v H' r => ?_) hN hy hsw hs)
  obtain ⟨Hi', g', t'⟩ := r.res
  exact h X C _ H' ⟨Hi', g.trans g', (s.mo g'.le).set t' i, k.gr g'⟩
theorem xb_drop (he : XE c sc G e T1) (h : XB c sc Hi0 H0 (SS c.W Hi0 H0 G O) rest N T) (hs : ∀ env, swapsWith e none pos.line env = pure false := by intro _; rfl) : XB c sc Hi0 H0 (SS c.W Hi0 H0 G O) (.Expr e pos :: rest) N T := fun X C σ H ⟨Hi, g, s, k⟩ =>
  bW_cons (ps_expr eW_pe (hs _)) (he.use C g.wi s fun v Hi' H' g' t' => h X C σ H' ⟨Hi', g.trans g', s.mo g'.le, k.gr g'⟩)
theorem xb_if {p : Bool} {t : Expr} {b1 b2 : List Stmt} (ht : XT c sc G t p) (h1 : p = true → XB c sc Hi0 H0 (SS c.W Hi0 H0 G O) b1 M T) (h2 : p = false → XB c sc Hi0 H0 (SS c.W Hi0 H0 G O) b2 M T) (h : XB c sc Hi0 H0 M rest N T) :
    XB c sc Hi0 H0 (SS c.W Hi0 H0 G O) (.If t b1 b2 pos :: rest) N T := fun X C σ H ⟨Hi, g, s, k⟩ => by
  refine bW_cons (ps_if tW_pt bW_ps bW_ps) (ht.use C g.wi s fun Hi' H' g' => ?_)
  have a : SS c.W Hi0 H0 G O σ H' := ⟨Hi', g.trans g', s.mo g'.le, k.gr g'⟩
  cases p with
  | true => exact bW_mono (h1 rfl X C σ H' a) (fun σ H m => h X C σ H m) (fun _ _ q => q) (fun _ _ (q : False) => q.elim) (fun _ _ (q : False) => q.elim)
  | false => exact bW_mono (h2 rfl X C σ H' a) (fun σ H m => h X C σ H m) (fun _ _ q => q) (fun _ _ (q : False) => q.elim) (fun _ _ (q : False) => q.elim)
/-- the refusals: the test is false -/
theorem xb_guard {p : Bool} {t : Expr} {b1 : List Stmt} (ht : XT c sc G t p) (hp : p = false) (h : XB c sc Hi0 H0 (SS c.W Hi0 H0 G O) rest N T) : XB c sc Hi0 H0 (SS c.W Hi0 H0 G O) (.If t b1 [] pos :: rest) N T := by
  subst hp
  exact xb_if ht (fun z => nomatch z) (fun _ => xb_nil fun _ _ a => a) h
/-- one way leaves -/
theorem xb_ifret {p : Bool} {t : Expr} {b1 : List Stmt} (ht : XT c sc G t p) (h1 : p = true → XB c sc Hi0 H0 (SS c.W Hi0 H0 G O) b1 (fun _ _ => False) T) (h : p = false → XB c sc Hi0 H0 (SS c.W Hi0 H0 G O) rest N T) : XB c sc Hi0 H0 (SS c.W Hi0 H0 G O) (.If t b1 [] pos :: rest) N T := by
  refine xb_if (M := fun σ H => p = false ∧ SS c.W Hi0 H0 G O σ H) ht (fun z => (h1 z).post fun _ _ f => f.elim) (fun z => xb_nil fun _ _ a => ⟨z, a⟩) fun X C σ H ⟨z, a⟩ => h z X C σ H a
/-- both ways, each with what comes behind -/
theorem xb_if2 {p : Bool} {t : Expr} {b1 b2 : List Stmt} {M1 M2 : L2.St → Hp → Prop} (ht : XT c sc G t p) (h1 : p = true → XB c sc Hi0 H0 (SS c.W Hi0 H0 G O) b1 M1 T) (h2 : p = false → XB c sc Hi0 H0 (SS c.W Hi0 H0 G O) b2 M2 T)
    (h : p = true → XB c sc Hi0 H0 M1 rest N T) (h' : p = false → XB c sc Hi0 H0 M2 rest N T) : XB c sc Hi0 H0 (SS c.W Hi0 H0 G O) (.If t b1 b2 pos :: rest) N T := by
  refine xb_if (M := fun σ H => (p = true ∧ M1 σ H) ∨ (p = false ∧ M2 σ H)) ht (fun z => (h1 z).post fun _ _ f => .inl ⟨z, f⟩) (fun z => (h2 z).post fun _ _ f => .inr ⟨z, f⟩) fun X C σ H a => ?_
  rcases a with ⟨z, a⟩ | ⟨z, a⟩
  · exact h z X C σ H a
  · exact h' z X C σ H a
/-- a, b = e1, e2 -/
theorem xb_par (i j : Nat) {x y : Str} {px py pt pt2 : Pos} {kt k2} (ha : XE c sc G a T1) (hb : XE c sc G b T2) (h : XB c sc Hi0 H0 (SS c.W Hi0 H0 ((G.set i (some T1)).set j (some T2)) O) rest N T) (hN : c.N[i]? = some x := by rfl) (hN' : c.N[j]? = some y := by rfl) (hij : i ≠ j := by decide)
    (hx : sc.names.lookup x = some .local := by rfl) (hy : sc.names.lookup y = some .local := by rfl) (he : ∀ env, starEach [a, b] env = (false, eval a env) :: starEach [b] env := by intro _; rfl) (he2 : ∀ env, starEach [b] env = (false, eval b env) :: starEach [] env := by intro _; rfl)
    (hw : ∀ env, env.scope.names.lookup x = some .local → env.scope.names.lookup y = some .local → env.scope.kind = .function → swappedStores [.Tuple [.Name x px, .Name y py] kt pt] (.Tuple [a, b] k2 pt2) env = pure (some [x, y]))
    (hs : ∀ env, swapsWithSole [.Tuple [.Name x px, .Name y py] kt pt] (.Tuple [a, b] k2 pt2) pos.line env = pure false := by intro _; rfl) :
    XB c sc Hi0 H0 (SS c.W Hi0 H0 G O) (.Assign [.Tuple [.Name x px, .Name y py] kt pt] (.Tuple [a, b] k2 pt2) pos :: rest) N T := fun X C σ H ⟨Hi, g, s, k⟩ pins st I => by
  refine (bW_cons (D := { nx := N, rt := Res c.W Hi0 H0 T }) (ps_par (i := i) (j := j) C.calm (C.hN ▸ C.nd) (by rw [C.hN]; exact hN) (by rw [C.hN]; exact hN') hij (C.loc x hx) (C.loc y hy) (pa_cons eW_pe (pa_cons eW_pe pa_nil (he2 _)) (he _)) (hw _ (C.loc x hx) (C.loc y hy) I.ok.kind) (hs _)) ?_) pins st I
  refine ha.use C g.wi s fun v Hi1 H1 g1 t1 => hb.use C g1.wi (s.mo g1.le) fun u Hi2 H2 g2 t2 => ⟨v, u, rfl, ?_⟩
  exact h X C _ H2 ⟨Hi2, (g.trans g1).trans g2, ((s.mo (g1.le.trans g2.le)).set (T1.mo g2.le t1) i).set t2 j, (k.gr g1).gr g2⟩
/-- a target of several names -/
theorem xb_unp {tg : Expr} {js : List Nat} (he : XE c sc G e T1) (hg : XG c sc tg T1 js Ts) (h : XB c sc Hi0 H0 (SS c.W Hi0 H0 (gset G js Ts) O) rest N T)
    (hs : ∀ env, swapsWithSole [tg] e pos.line env = pure false := by intro _; rfl) (hw : ∀ env, swappedStores [tg] e env = pure none := by intro _; rfl) (h1 : ∀ env, (assignEach [tg] env).map (·.2) = [assign tg env] := by intro _; rfl) : XB c sc Hi0 H0 (SS c.W Hi0 H0 G O) (.Assign [tg] e pos :: rest) N T := fun X C σ H ⟨Hi, g, s, k⟩ => by
  refine bW_cons (ps_asg eW_pe gW_pg (hs _) (hw _) (h1 _)) (he.use C g.wi s fun v Hi' H' g' t' => hg X C σ Hi' H' v g'.wi t' _ fun vs tv => ?_)
  exact h X C _ H' ⟨Hi', g.trans g', (s.mo g'.le).setAll tv, k.gr g'⟩
/-! ### loops -/
theorem never_of (C : CtxOk c sc X) : PassesOwn (model X.prog X.w) X.A X.env X.xe := by
  rw [C.xe]; exact PassesOwn.never
/-- the heap without one's own objects: a new entry amid a block -/
noncomputable def cutH (H : Hp) (O : List Own) : Hp := fun a => @ite _ (a ∈ O.map Own.a) (Classical.propDecidable _) none (H a)
theorem cutH_in {H : Hp} {O : List Own} {a : Addr} (h : a ∈ O.map Own.a) : cutH H O a = none := by unfold cutH; rw [if_pos h]
theorem cutH_out {H : Hp} {O : List Own} {a : Addr} (h : ¬ a ∈ O.map Own.a) : cutH H O a = H a := by unfold cutH; rw [if_neg h]
theorem cutH_some {H : Hp} {O : List Own} {a : Addr} {o : HO} (h : cutH H O a = some o) : H a = some o := by
  by_cases m : a ∈ O.map Own.a
  · rw [cutH_in m] at h; cases h
  · rw [cutH_out m] at h; exact h
section
variable {W : Wd} {Hi' H' : Hp} {O' : List Own}
theorem Gr.there (g : Gr W Hi0 H0 Hi H) {a : Addr} (h : H0 a ≠ none) : H a ≠ none := by
  by_cases hc : ∀ c ∈ W, c.a ≠ a
  · obtain ⟨o, e⟩ := Option.ne_none_iff_exists'.mp h
    rw [g.keep a o e hc]; exact fun z => nomatch z
  · intro z
    exact hc (g.wi.off z)
theorem Gr.solid {o : HO} (g : Gr W Hi0 H0 Hi H) {a : Addr} (n : H0 a = some o) (t : ∀ xs, o ≠ .tup xs) : ∃ o', H a = some o' ∧ ∀ xs, o' ≠ .tup xs := by
  by_cases hc : ∀ c ∈ W, c.a ≠ a
  · exact ⟨o, g.keep a o n hc, t⟩
  · obtain ⟨d, hd, z⟩ : ∃ d ∈ W, d.a = a := by
      apply Classical.byContradiction
      intro q
      exact hc fun d hd z => q ⟨d, hd, z⟩
    obtain ⟨_, kvs, h1, _⟩ := g.wi.ch d hd
    exact ⟨.dT kvs, z ▸ h1, fun _ q => nomatch q⟩
theorem re_in (g : Gr W Hi0 H0 Hi H) (k : OwnOk W H0 Hi H O) : Gr W Hi (cutH H O) Hi H ∧ OwnOk W (cutH H O) Hi H O :=
  ⟨⟨Le.refl _, g.wi, fun a o h _ => cutH_some h, fun _ _ h _ _ => h, fun c hc kvs h => ⟨kvs, cutH_some h, fun _ q => q⟩⟩, k.nd, fun o ho => by
    obtain ⟨h1, h2, h3, h4⟩ := k.at_ o ho
    exact ⟨h1, h2, cutH_in (List.mem_map.mpr ⟨o, ho, rfl⟩), h4⟩⟩
theorem OwnOk.out (k : OwnOk W H0 Hi H O) {a : Addr} (h : H0 a ≠ none) : ¬ a ∈ O.map Own.a := fun m => by
  obtain ⟨o, ho, rfl⟩ := List.mem_map.mp m
  exact h (k.at_ o ho).2.2.1
theorem re_out (g : Gr W Hi0 H0 Hi H) (k : OwnOk W H0 Hi H O) (g' : Gr W Hi (cutH H O) Hi' H') : Gr W Hi0 H0 Hi' H' := by
  refine ⟨g.le.trans g'.le, g'.wi, fun a o h n => ?_, fun a o h n t => ?_, fun c hc kvs h => ?_⟩
  · have : H0 a ≠ none := by rw [h]; exact fun z => nomatch z
    exact g'.keep a o (by rw [cutH_out (k.out this)]; exact g.keep a o h n) n
  · have n0 : H0 a ≠ none := by rw [n]; exact fun z => nomatch z
    obtain ⟨o', e', t'⟩ := g.solid n t
    exact g'.off a o' (g.off a o h n t) (by rw [cutH_out (k.out n0)]; exact e') t'
  · have n : H0 c.a ≠ none := by rw [h]; exact fun z => nomatch z
    obtain ⟨k1, h1, q1⟩ := g.grow c hc kvs h
    obtain ⟨k2, h2, q2⟩ := g'.grow c hc k1 (by rw [cutH_out (k.out n)]; exact h1)
    exact ⟨k2, h2, fun x z => q2 x (q1 x z)⟩
theorem re_own (g : Gr W Hi0 H0 Hi H) (k : OwnOk W H0 Hi H O) (k' : OwnOk W (cutH H O) Hi' H' O') : OwnOk W H0 Hi' H' O' :=
  ⟨k'.nd, fun o ho => by
    obtain ⟨h1, h2, h3, h4⟩ := k'.at_ o ho
    refine ⟨h1, h2, ?_, h4⟩
    cases e : H0 o.a with
    | none => rfl
    | some u =>
      have n : H0 o.a ≠ none := by rw [e]; exact fun z => nomatch z
      rw [cutH_out (k.out n)] at h3
      exact (g.there n h3).elim⟩
end
theorem xb_for {tg iter : Expr} {n : Nat} {it : Nat → Ty} {js : List Nat} {Us : Nat → List Ty} {body : List Stmt} (Gi : Nat → Gm) (Oi : Nat → List Own) (hi : XI c sc G tg iter n it) (h0 : GLe G (Gi 0)) (ho : O = Oi 0) (hg : ∀ i, i < n → XG c sc tg (it i) js (Us i))
    (hb : ∀ i, i < n → ∀ Hi0 H0, XB c sc Hi0 H0 (SS c.W Hi0 H0 (gset (Gi i) js (Us i)) (Oi i)) body (SS c.W Hi0 H0 (Gi (i + 1)) (Oi (i + 1))) T) (h : XB c sc Hi0 H0 (SS c.W Hi0 H0 (Gi n) (Oi n)) rest N T) (hs : ∀ env x, foldedSetIterable iter env x = pure x := by intro _ _; rfl) :
    XB c sc Hi0 H0 (SS c.W Hi0 H0 G O) (.For tg iter body [] pos :: rest) N T := fun X C σ H ⟨Hi, g, s, k⟩ => by
  subst ho
  refine bW_cons (ps_for (never_of C) C.calm iW_pi gW_pg bW_ps (hs _)) ?_
  intro pins st I
  refine thn (hi X C σ Hi H g.wi s pins st I) fun v s1 h1 => thn h1 fun itv s2 ⟨ita, fp, tn, J, H1, e, I2, Tt, stt, fr, Hi1, g1, ok⟩ => ⟨ita, fp, tn, J, H1, e, I2, Tt, stt, fr, ?_⟩
  refine ⟨fun i m σ' H' => m = n - i ∧ i ≤ n ∧ ∃ Hi', Gr c.W Hi0 H0 Hi' H' ∧ Le Hi1 Hi' ∧ GS (Gi i) σ' Hi' ∧ OwnOk c.W H0 Hi' H' (Oi i), ⟨n, by omega, Nat.zero_le _, Hi1, g.trans g1, Le.refl _, (s.mo g1.le).le h0, k.gr g1⟩, ?_⟩
  rintro i m σ2 H2 ⟨rfl, hin, Hi2, g2, l2, s2, k2⟩
  obtain ⟨go, stop⟩ := ok Hi2 H2 l2 g2.wi
  by_cases hlt : i < n
  · obtain ⟨go1, yld⟩ := go i hlt
    refine .inr ⟨go1, fun σ' H' => ∃ Hi', Gr c.W Hi0 H0 Hi' H' ∧ Le Hi1 Hi' ∧ GS (Gi (i + 1)) σ' Hi' ∧ OwnOk c.W H0 Hi' H' (Oi (i + 1)), fun σ' H' q => ⟨n - (i + 1), by omega, rfl, hlt, q⟩, fun x H3 hy => ?_⟩
    obtain ⟨Hi3, g3, tx3⟩ := yld x H3 hy
    refine hg i hlt X C σ2 Hi3 H3 x g3.wi tx3 _ fun vs tvs => ?_
    have gs : GS (gset (Gi i) js (Us i)) (setAll σ2 js vs) Hi3 := (s2.mo g3.le).setAll tvs
    have g03 := g2.trans g3
    have k3 := k2.gr g3
    obtain ⟨gb, kb⟩ := re_in g03 k3
    refine bW_mono (hb i hlt Hi3 (cutH H3 (Oi i)) X C _ H3 ⟨Hi3, gb, gs, kb⟩) (fun σ' H' ⟨Hi', q1, q2, q3⟩ => ?_) (fun v H' ⟨Hi', q1, q2⟩ => ⟨Hi', re_out g03 k3 q1, q2⟩) (fun _ _ (q : False) => q.elim) (fun _ _ (q : False) => q.elim)
    exact ⟨Hi', re_out g03 k3 q1, l2.trans (g3.le.trans q1.le), q2, re_own g03 k3 q3⟩
  · have e' : i = n := by omega
    subst e'
    exact .inl ⟨stop, h X C σ2 H2 ⟨Hi2, g2, s2, k2⟩⟩
/-- while, by a family of states and a measure -/
theorem xb_while {α : Type} {t : Expr} {body : List Stmt} (Gi : α → Gm) (Oi : α → List Own) (μ : α → Nat) (b : α → Bool) (a0 : α) (h0 : GLe G (Gi a0)) (ho : O = Oi a0) (ht : ∀ a, XT c sc (Gi a) t (b a))
    (hb : ∀ a, b a = true → XB c sc Hi0 H0 (SS c.W Hi0 H0 (Gi a) (Oi a)) body (fun σ H => ∃ a', μ a' < μ a ∧ SS c.W Hi0 H0 (Gi a') (Oi a') σ H) T) (h : ∀ a, b a = false → XB c sc Hi0 H0 (SS c.W Hi0 H0 (Gi a) (Oi a)) rest N T) :
    XB c sc Hi0 H0 (SS c.W Hi0 H0 G O) (.While t body [] pos :: rest) N T := fun X C σ H h1 => by
  subst ho
  refine bW_cons (ps_while (never_of C) tW_pt bW_ps) ?_
  refine ⟨fun m σ' H' => ∃ a, m = μ a ∧ SS c.W Hi0 H0 (Gi a) (Oi a) σ' H', ⟨_, a0, rfl, h1.le h0⟩, ?_⟩
  rintro m σ2 H2 ⟨a, rfl, Hi2, g2, s2, k2⟩
  refine (ht a).use C g2.wi s2 fun Hi3 H3 g3 => ?_
  have a3 : SS c.W Hi0 H0 (Gi a) (Oi a) σ2 H3 := ⟨Hi3, g2.trans g3, s2.mo g3.le, k2.gr g3⟩
  cases e : b a with
  | true =>
    rw [if_pos rfl]
    refine ⟨fun σ' H' => ∃ a', μ a' < μ a ∧ SS c.W Hi0 H0 (Gi a') (Oi a') σ' H', fun σ' H' ⟨a', l, q⟩ => ⟨μ a', l, a', rfl, q⟩, ?_⟩
    exact bW_mono (hb a e X C σ2 H3 a3) (fun _ _ q => q) (fun _ _ q => q) (fun _ _ (q : False) => q.elim) (fun _ _ (q : False) => q.elim)
  | false =>
    rw [if_neg Bool.false_ne_true]
    exact h a e X C σ2 H3 a3
end
/-! ### a def -/
theorem gs_start {H : Hp} {Ts : List Ty} {vs : List V} (n : Nat) (t : TsP Ts vs H) : GS (Ts.map some ++ List.replicate n none) (vs.map some ++ List.replicate n none) H := by
  induction Ts generalizing vs with
  | nil =>
    cases vs with
    | cons _ _ => exact t.elim
    | nil =>
      show GS (List.replicate n none) (List.replicate n none) H
      induction n with
      | zero => trivial
      | succ n ih => exact ih
  | cons T Ts ih =>
    cases vs with
    | nil => exact t.elim
    | cons v vs => exact ⟨⟨v, rfl, t.1⟩, ih t.2⟩
def gstart (N : List Str) (Ts : List Ty) : Gm := Ts.map some ++ List.replicate (N.length - Ts.length) none
/-- a def's body keeps a promise -/
def XF (b : Bs) (N : List Str) (k : Nat) (sc : Scope) (n : Nat) (body : List Stmt) (sp : FS) : Prop := ∀ W Ts T, sp W Ts T → Ts.length = n → ∀ Hi0 H0, XB ⟨b, N, k, W, true⟩ sc Hi0 H0 (SS W Hi0 H0 (gstart N Ts) []) body (fun _ H => Res W Hi0 H0 T .non H) T
theorem ctx_fn {b : Bs} {N ps : List Str} {k : Nat} {W : Wd} {qual : Str} {scope : Scope} {f : Addr} {cd : Value} {A : Around} {outer : List Env} {s : Shared} {H : Hp} {E : XK} (S : FnScope N ps scope) (hr : Room k (A.deeper (envOfC qual scope s.heap.objs.size f cd))) :
    CtxOk ⟨b, N, k, W, true⟩ scope (cxOf CX0 b.P b.w b.K b.mg b.base N qual scope f cd A outer s H E).nox where
  hP := rfl
  hw := rfl
  hK := rfl
  hm := rfl
  hb := rfl
  hN := rfl
  hd := fun _ => rfl
  vis := fun _ h => h
  gl := fun _ h => h
  sto := fun _ h => ⟨h, .inl rfl⟩
  loc := fun _ h => h
  nd := S.nd
  calm := rfl
  room := hr
  xe := rfl
theorem fn_ok {b : Bs} {x qual : Str} {params : Arguments} {body : List Stmt} {scope : Scope} {f : Addr} {fd : FuncData} {N ps : List Str} {k n : Nat} {sp : FS} (F : FunD b.K x qual params body scope [] [] f fd) (S : FnScope N ps scope) (hn : ps.length = n)
    (h : XF b N k scope n body sp) : FnOk b.P b.w b.K b.mg b.base CX0 (k + 1) f fd ps (spOf n sp) := by
  refine F.ok S (fun vs H Q E ⟨W, Hi, Ts, T, h1, h2, w, t, q⟩ => by rw [t.len, h2, hn]) (fun cdv A outer s H vs Q E hr ⟨W, Hi, Ts, T, h1, h2, w, t, q⟩ => ?_)
  refine ⟨_, PSs.nox bW_ps, ?_⟩
  have e : L2.start N vs = vs.map some ++ List.replicate (N.length - Ts.length) none := by unfold L2.start; rw [t.len]
  have hb := h W Ts T h1 h2 Hi H _ (ctx_fn (W := W) (outer := outer) (H := H) (E := E) S hr) (L2.start N vs) H ⟨Hi, Gr.refl w, by rw [e]; exact gs_start _ t, OwnOk.nil⟩
  exact bW_mono hb (fun σ H' r => q _ _ r) (fun v H' r => q v H' r) (fun _ _ q => q) (fun _ _ q => q)
end Lg

set_option maxHeartbeats 4000000
namespace Lg
open PySem PySem.Spec PyProof.Rows L2
section
variable {c : Cst} {sc : Scope} {G : Gm} {X : Cx} {e a b : Expr} {T T1 T2 T3 : Ty} {σ : L2.St} {Hi H : Hp} {pos : Pos} {es : List Expr} {Ts Us : List Ty} {Hi0 H0 : Hp} {O : List Own} {ss rest : List Stmt} {N M A : L2.St → Hp → Prop}
def visB (sc : Scope) (x : Str) : Bool := match sc.names.lookup x with
  | some .local => true
  | some .cell => true
  | some .free => true
  | _ => false
theorem vis_of {sc : Scope} {x : Str} (h : visB sc x = true) : Vis sc x := by
  unfold visB at h
  unfold Vis
  split at h
  · exact .inl (by assumption)
  · exact .inr (.inl (by assumption))
  · exact .inr (.inr (by assumption))
  · cases h
/-- a name, its slot given -/
theorem xv (i : Nat) {x : Str} (hG : G[i]? = some (some T)) (hN : c.N[i]? = some x) (hv : visB sc x = true)
    (hd : (x == ("__debug__" : Str)) = false := by decide +kernel) (hcd : (x == ("__classdict__" : Str)) = false := by decide +kernel) : XE c sc G (.Name x pos) T := xe_var i hN hG (vis_of hv) hd hcd
theorem xe_lstD (ha : XA c sc G es Ts) (hl : Ts.length ≤ 100000 := by first | decide | simp) : XE c sc G (.List es pos) (tLst Ts) := xe_lst ha hl
theorem xe_tp (ha : XA c sc G es Ts) (hl : Ts.length ≤ 100000 := by first | decide | simp) {x1} : XE c sc G (.Tuple es x1 pos) (tTup c.b.K Ts) := xe_tup ha hl
/-! ### walks told by lists -/
def tyO {α : Type} (xs : List α) (F : α → Ty) (i : Nat) : Ty := match xs[i]? with
  | some x => F x
  | none => tNon
theorem tyO_at {α : Type} {xs : List α} {F : α → Ty} {i : Nat} {x : α} (h : xs[i]? = some x) : tyO xs F i = F x := by unfold tyO; rw [h]
theorem tyAt_map {α : Type} (xs : List α) (F : α → Ty) (i : Nat) : tyAt (xs.map F) i = tyO xs F i := by
  unfold tyAt tyO
  rw [List.getD_eq_getElem?_getD, List.getElem?_map]
  cases xs[i]? <;> rfl
def XL {α : Type} (c : Cst) (sc : Scope) (G : Gm) (tg iter : Expr) (xs : List α) (F : α → Ty) : Prop := XI c sc G tg iter xs.length (tyO xs F)
theorem XI.congr {tg : Expr} {n m : Nat} {it it' : Nat → Ty} (h : XI c sc G tg e n it) (hn : n = m) (hi : ∀ i, i < m → it i = it' i) : XI c sc G tg e m it' := by
  subst hn
  intro X C σ Hi H w g pins s I
  refine thn (h X C σ Hi H w g pins s I) fun v s1 h1 => thn h1 fun itv s2 ⟨ita, fp, tn, J, H1, e, I2, T, st, fr, Hi1, g1, ok⟩ => ⟨ita, fp, tn, J, H1, e, I2, T, st, fr, Hi1, g1, fun Hi2 H2 l2 w2 => ?_⟩
  obtain ⟨q1, q2⟩ := ok Hi2 H2 l2 w2
  exact ⟨fun i hi' => ⟨(q1 i hi').1, fun x H' y => by rw [← hi i hi']; exact (q1 i hi').2 x H' y⟩, q2⟩
section
variable {α β : Type} {xs : List α} {ys : List β} {F : α → Ty} {F' : β → Ty} {tg : Expr}
theorem xl_list (hS : LsK c.b.K T (xs.map F)) (ha : XE c sc G a T) : XL c sc G tg a xs F := (xi_list hS ha).congr (by rw [List.length_map]) fun i _ => tyAt_map xs F i
theorem xl_tup (hS : TpK c.b.K T (xs.map F)) (ha : XE c sc G a T) : XL c sc G tg a xs F := (xi_tup hS ha).congr (by rw [List.length_map]) fun i _ => tyAt_map xs F i
theorem rgI_len (n : Nat) : (rgI n).length = n := by unfold rgI; rw [List.length_map, List.length_range]
theorem rgI_at {n i : Nat} (h : i < n) : (rgI n)[i]? = some (i : Int) := by
  unfold rgI
  rw [List.getElem?_map, List.getElem?_range h]; rfl
def rgI2 (i j : Int) : List Int := (List.range (j - i).toNat).map fun (k : Nat) => i + (k : Int)
theorem rgI2_len (i j : Int) : (rgI2 i j).length = (j - i).toNat := by unfold rgI2; rw [List.length_map, List.length_range]
theorem xl_rg1 {p : Pos} {n : Nat} (hm : c.b.mg "range" = none) (ha : XE c sc G a (tInt (n : Int))) (hj : (n : Int) < 2 ^ 62) (hg : sc.names.lookup ("range" : Str) = some .globalImplicit := by rfl) (hs : ∀ env, starEach [a] env = [(false, eval a env)] := by intro _; rfl) :
    XL c sc G tg (.Call (.Name "range" p) [a] [] pos) (rgI n) tInt := (xi_rg1 hm ha ⟨by omega, hj⟩ hg hs).congr (by rw [rgI_len]; omega) fun i hi => by
  rw [rgI_len] at hi
  rw [tyO_at (rgI_at hi)]
theorem xl_rg2 {p : Pos} {i j : Int} (hm : c.b.mg "range" = none) (ha : XE c sc G a (tInt i)) (hb : XE c sc G b (tInt j)) (hj : -(2 ^ 62) ≤ i ∧ i < 2 ^ 62 ∧ -(2 ^ 62) ≤ j ∧ j < 2 ^ 62) (hg : sc.names.lookup ("range" : Str) = some .globalImplicit := by rfl)
    (hs : ∀ env, starEach [a, b] env = [(false, eval a env), (false, eval b env)] := by intro _; rfl) (hs2 : ∀ env, starEach [b] env = [(false, eval b env)] := by intro _; rfl) : XL c sc G tg (.Call (.Name "range" p) [a, b] [] pos) (rgI2 i j) tInt :=
  (xi_rg2 hm ha hb hj hg hs hs2).congr (by rw [rgI2_len]) fun k hk => by
    rw [rgI2_len] at hk
    have : (rgI2 i j)[k]? = some (i + (k : Int)) := by
      unfold rgI2
      rw [List.getElem?_map, List.getElem?_range hk]; rfl
    rw [tyO_at this]
theorem tyO_zip {K : PySem.W.Frag} (i : Nat) (h : i < (xs.zip ys).length) : tTup K [tyO xs F i, tyO ys F' i] = tyO (xs.zip ys) (fun p => tTup K [F p.1, F' p.2]) i := by
  have h1 : i < xs.length := by rw [List.length_zip] at h; omega
  have h2 : i < ys.length := by rw [List.length_zip] at h; omega
  rw [tyO_at (List.getElem?_eq_getElem h1), tyO_at (List.getElem?_eq_getElem h2), tyO_at (List.getElem?_eq_getElem h)]
  simp
theorem xl_zipL {elts : List Expr} {kk : Nat} {tpos p : Pos} (hm : c.b.mg "zip" = none) (h1 : LsK c.b.K T1 (xs.map F)) (h2 : LsK c.b.K T2 (ys.map F')) (ha : XE c sc G a T1) (hb : XE c sc G b T2) (hg : sc.names.lookup ("zip" : Str) = some .globalImplicit := by rfl)
    (hs : ∀ env, starEach [a, b] env = (false, eval a env) :: starEach [b] env := by intro _; rfl) (hs2 : ∀ env, starEach [b] env = [(false, eval b env)] := by intro _; rfl) (hpl : ∀ env, (backTo pos (starEach [b] env)).any (·.1) = false := by intro _; rfl) :
    XL c sc G (.Tuple elts kk tpos) (.Call (.Name "zip" p) [a, b] [] pos) (xs.zip ys) (fun p => tTup c.b.K [F p.1, F' p.2]) :=
  (xi_zipL hm h1 h2 ha hb hg hs hs2 hpl).congr (by rw [List.length_zip, List.length_map, List.length_map]) fun i hi => by rw [tyAt_map, tyAt_map, tyO_zip i hi]
theorem xl_zipT {elts : List Expr} {kk : Nat} {tpos p : Pos} (hm : c.b.mg "zip" = none) (h1 : TpK c.b.K T1 (xs.map F)) (h2 : TpK c.b.K T2 (ys.map F')) (ha : XE c sc G a T1) (hb : XE c sc G b T2) (hg : sc.names.lookup ("zip" : Str) = some .globalImplicit := by rfl)
    (hs : ∀ env, starEach [a, b] env = (false, eval a env) :: starEach [b] env := by intro _; rfl) (hs2 : ∀ env, starEach [b] env = [(false, eval b env)] := by intro _; rfl) (hpl : ∀ env, (backTo pos (starEach [b] env)).any (·.1) = false := by intro _; rfl) :
    XL c sc G (.Tuple elts kk tpos) (.Call (.Name "zip" p) [a, b] [] pos) (xs.zip ys) (fun p => tTup c.b.K [F p.1, F' p.2]) :=
  (xi_zipT hm h1 h2 ha hb hg hs hs2 hpl).congr (by rw [List.length_zip, List.length_map, List.length_map]) fun i hi => by rw [tyAt_map, tyAt_map, tyO_zip i hi]
theorem zipIdx_at (i : Nat) (h : i < xs.length) : xs.zipIdx[i]? = some (xs[i], i) := by
  rw [List.getElem?_zipIdx, List.getElem?_eq_getElem h]
  simp
theorem xl_enumL {elts : List Expr} {kk : Nat} {tpos p : Pos} (hm : c.b.mg "enumerate" = none) (h1 : LsK c.b.K T1 (xs.map F)) (ha : XE c sc G a T1) (hg : sc.names.lookup ("enumerate" : Str) = some .globalImplicit := by rfl)
    (hs : ∀ env, starEach [a] env = [(false, eval a env)] := by intro _; rfl) :
    XL c sc G (.Tuple elts kk tpos) (.Call (.Name "enumerate" p) [a] [] pos) xs.zipIdx (fun p => tTup c.b.K [tInt (p.2 : Nat), F p.1]) :=
  (xi_enumL hm h1 ha hg hs).congr (by rw [List.length_zipIdx, List.length_map]) fun i hi => by
    rw [List.length_zipIdx] at hi
    rw [tyAt_map, tyO_at (List.getElem?_eq_getElem hi), tyO_at (zipIdx_at i hi)]
end
theorem given_take {α : Type} (xs : List α) (p : α → Bool) (R : α → Ty) (f : Nat → Bool) (t : Nat → Ty) (hf : ∀ i x, xs[i]? = some x → f i = p x) (ht : ∀ i x, xs[i]? = some x → t i = R x) : ∀ k, k ≤ xs.length → given k f t = ((xs.take k).filter p).map R
  | 0, _ => rfl
  | k + 1, h => by
    have ih := given_take xs p R f t hf ht k (by omega)
    have hx : xs[k]? = some xs[k] := List.getElem?_eq_getElem (by omega)
    rw [List.take_succ, hx, List.filter_append, List.map_append, ← ih]
    cases e : p xs[k] with
    | true =>
      rw [given_yes ((hf k _ hx).trans e), ht k _ hx]
      simp [e]
    | false =>
      rw [given_no ((hf k _ hx).trans e)]
      simp [e]
def pO {α : Type} (xs : List α) (p : α → Bool) (i : Nat) : Bool := match xs[i]? with
  | some x => p x
  | none => false
theorem given_list {α : Type} (xs : List α) (p : α → Bool) (R : α → Ty) : given xs.length (pO xs p) (tyO xs R) = (xs.filter p).map R := by
  rw [given_take xs p R _ _ (fun i x h => by unfold pO; rw [h]) (fun i x h => tyO_at h) xs.length (Nat.le_refl _), List.take_length]
theorem filter_tt {α : Type} (xs : List α) : xs.filter (fun _ => true) = xs := List.filter_eq_self.mpr fun _ _ => rfl
/-- a comprehension over what a list tells -/
def XC {α : Type} (c : Cst) (sc : Scope) (G : Gm) (elt tg iter : Expr) (ifs : List Expr) (scope : Scope) (own : List (Str × Nat)) (xs : List α) (p : α → Bool) (R : α → Ty) : Prop := LcK c sc G elt tg iter ifs scope own xs.length (pO xs p) (tyO xs R)
theorem xc {α : Type} {elt tg iter : Expr} {ifs : List Expr} {scope : Scope} {xs : List α} {F : α → Ty} (own : List (Str × Nat)) (js : List Nat) (Us : α → List Ty) (p : α → Bool) (R : α → Ty) (hi : XL c sc G tg iter xs F) (hg : ∀ x, x ∈ xs → XG c.inb scope tg (F x) js (Us x))
    (ht : ∀ x, x ∈ xs → XTs c.inb scope (gset (gwipe G (own.map (·.2))) js (Us x)) ifs (p x)) (he : ∀ x, x ∈ xs → p x = true → XE c.inb scope (gset (gwipe G (own.map (·.2))) js (Us x)) elt (R x)) (hl : xs.length ≤ 100000)
    (hd : c.d = true := by rfl) (ok : blkC c.N sc scope own = true := by kernel_rfl) (hjs : ∀ j ∈ js, j ∈ own.map (·.2) := by decide) : XC c sc G elt tg iter ifs scope own xs p R := by
  refine ⟨hd, blkOk_by ok, tyO xs F, js, fun i => match xs[i]? with | some x => Us x | none => [], hi, hjs, hl, fun i h => ?_, fun i h => ?_, fun i h hp => ?_⟩
  all_goals
    have hx : xs[i]? = some xs[i] := List.getElem?_eq_getElem h
    have hm : xs[i] ∈ xs := List.getElem_mem h
  · rw [tyO_at hx]
    show XG c.inb scope tg (F xs[i]) js (match xs[i]? with | some x => Us x | none => [])
    rw [hx]
    exact hg _ hm
  · show XTs c.inb scope (gset (gwipe G (own.map (·.2))) js (match xs[i]? with | some x => Us x | none => [])) ifs (pO xs p i)
    unfold pO
    rw [hx]
    exact ht _ hm
  · show XE c.inb scope (gset (gwipe G (own.map (·.2))) js (match xs[i]? with | some x => Us x | none => [])) elt (tyO xs R i)
    unfold pO at hp
    rw [hx] at hp ⊢
    rw [tyO_at hx]
    exact he _ hm hp
section
variable {α : Type} {elt tg iter : Expr} {ifs : List Expr} {scope : Scope} {own : List (Str × Nat)} {xs : List α} {p : α → Bool} {R : α → Ty}
theorem xe_lcF (L : XC c sc G elt tg iter ifs scope own xs p R) (hs : ∀ env x, foldedSetIterable iter env x = pure x := by intro _ _; rfl) : XE c sc G (.ListComp elt [⟨tg, iter, ifs, 0⟩] scope pos) (tLst ((xs.filter p).map R)) := by
  rw [← given_list]; exact xe_lc L hs
theorem xe_lcM (L : XC c sc G elt tg iter ifs scope own xs (fun _ => true) R) (hs : ∀ env x, foldedSetIterable iter env x = pure x := by intro _ _; rfl) : XE c sc G (.ListComp elt [⟨tg, iter, ifs, 0⟩] scope pos) (tLst (xs.map R)) := by
  have := xe_lcF (pos := pos) L hs
  rw [filter_tt] at this
  exact this
theorem xn_lcM (L : XC c sc G elt tg iter ifs scope own xs (fun _ => true) R) (hs : ∀ env x, foldedSetIterable iter env x = pure x := by intro _ _; rfl) : XN c sc G (.ListComp elt [⟨tg, iter, ifs, 0⟩] scope pos) (xs.map R) := by
  have := xn_lc (pos := pos) L hs
  rw [given_list, filter_tt] at this
  exact this
theorem xb_lcF (i : Nat) {py spos : Pos} {y : Str} (L : XC c sc G elt tg iter ifs scope own xs p R) (h : XB c sc Hi0 H0 (SS c.W Hi0 H0 (G.set i (some (tLst ((xs.filter p).map R)))) O) rest N T) (hN : c.N[i]? = some y := by rfl) (hy : sc.names.lookup y = some .local := by rfl)
    (hsw : ∀ env, env.scope = sc → swapsWith (.ListComp elt [⟨tg, iter, ifs, 0⟩] scope pos) (some (.Name y py)) spos.line env = pure true := by exact fun _ e => sw_true (by rw [e]; rfl) (by rw [e]; rfl) rfl (by decide +kernel)) (hs : ∀ env x, foldedSetIterable iter env x = pure x := by intro _ _; rfl) :
    XB c sc Hi0 H0 (SS c.W Hi0 H0 G O) (.Assign [.Name y py] (.ListComp elt [⟨tg, iter, ifs, 0⟩] scope pos) spos :: rest) N T := xb_asgLc i L (by rw [given_list]; exact h) hN hy hsw hs
theorem xb_lcM (i : Nat) {py spos : Pos} {y : Str} (L : XC c sc G elt tg iter ifs scope own xs (fun _ => true) R) (h : XB c sc Hi0 H0 (SS c.W Hi0 H0 (G.set i (some (tLst (xs.map R)))) O) rest N T) (hN : c.N[i]? = some y := by rfl) (hy : sc.names.lookup y = some .local := by rfl)
    (hsw : ∀ env, env.scope = sc → swapsWith (.ListComp elt [⟨tg, iter, ifs, 0⟩] scope pos) (some (.Name y py)) spos.line env = pure true := by exact fun _ e => sw_true (by rw [e]; rfl) (by rw [e]; rfl) rfl (by decide +kernel)) (hs : ∀ env x, foldedSetIterable iter env x = pure x := by intro _ _; rfl) :
    XB c sc Hi0 H0 (SS c.W Hi0 H0 G O) (.Assign [.Name y py] (.ListComp elt [⟨tg, iter, ifs, 0⟩] scope pos) spos :: rest) N T := xb_lcF i L (by rw [filter_tt]; exact h) hN hy hsw hs
end
section
variable {α β : Type} {elt tg iter : Expr} {ifs : List Expr} {scope : Scope} {own : List (Str × Nat)} {xs : List α} {p : α → Bool} {F : β → Ty} {g : α → β}
theorem xe_lcG (L : XC c sc G elt tg iter ifs scope own xs (fun _ => true) (fun x => F (g x))) (hs : ∀ env x, foldedSetIterable iter env x = pure x := by intro _ _; rfl) : XE c sc G (.ListComp elt [⟨tg, iter, ifs, 0⟩] scope pos) (tLst ((xs.map g).map F)) := by
  rw [List.map_map]; exact xe_lcM L hs
theorem xn_lcG (L : XC c sc G elt tg iter ifs scope own xs (fun _ => true) (fun x => F (g x))) (hs : ∀ env x, foldedSetIterable iter env x = pure x := by intro _ _; rfl) : XN c sc G (.ListComp elt [⟨tg, iter, ifs, 0⟩] scope pos) ((xs.map g).map F) := by
  rw [List.map_map]; exact xn_lcM L hs
theorem xe_lcH (L : XC c sc G elt tg iter ifs scope own xs p (fun x => F (g x))) (hs : ∀ env x, foldedSetIterable iter env x = pure x := by intro _ _; rfl) : XE c sc G (.ListComp elt [⟨tg, iter, ifs, 0⟩] scope pos) (tLst (((xs.filter p).map g).map F)) := by
  rw [List.map_map]; exact xe_lcF L hs
theorem xb_lcG (i : Nat) {py spos : Pos} {y : Str} (L : XC c sc G elt tg iter ifs scope own xs (fun _ => true) (fun x => F (g x))) (h : XB c sc Hi0 H0 (SS c.W Hi0 H0 (G.set i (some (tLst ((xs.map g).map F)))) O) rest N T) (hN : c.N[i]? = some y := by rfl) (hy : sc.names.lookup y = some .local := by rfl)
    (hsw : ∀ env, env.scope = sc → swapsWith (.ListComp elt [⟨tg, iter, ifs, 0⟩] scope pos) (some (.Name y py)) spos.line env = pure true := by exact fun _ e => sw_true (by rw [e]; rfl) (by rw [e]; rfl) rfl (by decide +kernel)) (hs : ∀ env x, foldedSetIterable iter env x = pure x := by intro _ _; rfl) :
    XB c sc Hi0 H0 (SS c.W Hi0 H0 G O) (.Assign [.Name y py] (.ListComp elt [⟨tg, iter, ifs, 0⟩] scope pos) spos :: rest) N T := xb_lcM i L (by rw [List.map_map] at h; exact h) hN hy hsw hs
theorem xb_lcH (i : Nat) {py spos : Pos} {y : Str} (L : XC c sc G elt tg iter ifs scope own xs p (fun x => F (g x))) (h : XB c sc Hi0 H0 (SS c.W Hi0 H0 (G.set i (some (tLst (((xs.filter p).map g).map F)))) O) rest N T) (hN : c.N[i]? = some y := by rfl) (hy : sc.names.lookup y = some .local := by rfl)
    (hsw : ∀ env, env.scope = sc → swapsWith (.ListComp elt [⟨tg, iter, ifs, 0⟩] scope pos) (some (.Name y py)) spos.line env = pure true := by exact fun _ e => sw_true (by rw [e]; rfl) (by rw [e]; rfl) rfl (by decide +kernel)) (hs : ∀ env x, foldedSetIterable iter env x = pure x := by intro _ _; rfl) :
    XB c sc Hi0 H0 (SS c.W Hi0 H0 G O) (.Assign [.Name y py] (.ListComp elt [⟨tg, iter, ifs, 0⟩] scope pos) spos :: rest) N T := xb_lcF i L (by rw [List.map_map] at h; exact h) hN hy hsw hs
end
theorem xb_forL {α : Type} {xs : List α} {F : α → Ty} {tg iter : Expr} {js : List Nat} {body : List Stmt} (Us : α → List Ty) (Gi : Nat → Gm) (Oi : Nat → List Own) (hi : XL c sc G tg iter xs F) (h0 : GLe G (Gi 0)) (ho : O = Oi 0) (hg : ∀ x, x ∈ xs → XG c sc tg (F x) js (Us x))
    (hb : ∀ i x, xs[i]? = some x → ∀ Hi0 H0, XB c sc Hi0 H0 (SS c.W Hi0 H0 (gset (Gi i) js (Us x)) (Oi i)) body (SS c.W Hi0 H0 (Gi (i + 1)) (Oi (i + 1))) T) (h : XB c sc Hi0 H0 (SS c.W Hi0 H0 (Gi xs.length) (Oi xs.length)) rest N T) (hs : ∀ env x, foldedSetIterable iter env x = pure x := by intro _ _; rfl) :
    XB c sc Hi0 H0 (SS c.W Hi0 H0 G O) (.For tg iter body [] pos :: rest) N T := by
  refine xb_for (js := js) (Us := fun i => match xs[i]? with | some x => Us x | none => []) Gi Oi hi h0 ho (fun i hlt => ?_) (fun i hlt Hi0 H0 => ?_) h hs
  all_goals
    have hx : xs[i]? = some xs[i] := List.getElem?_eq_getElem hlt
  · rw [tyO_at hx]
    show XG c sc tg (F xs[i]) js (match xs[i]? with | some x => Us x | none => [])
    rw [hx]
    exact hg _ (List.getElem_mem hlt)
  · have := hb i _ hx Hi0 H0
    show XB c sc Hi0 H0 (SS c.W Hi0 H0 (gset (Gi i) js (match xs[i]? with | some x => Us x | none => [])) (Oi i)) body _ T
    rw [hx]
    exact this
/-! ### one's own objects are written -/
theorem own_mem {k : Nat} {o : Own} (h : O[k]? = some o) : o ∈ O := List.mem_of_getElem? h
theorem ss_put {W : Wd} {k : Nat} {o o' : Own} {u : HO} (hO : O[k]? = some o) (ha : o'.a = o.a) (g : Gr W Hi0 H0 Hi H) (s : GS G σ Hi) (w : OwnOk W H0 Hi H O) (hq : o'.q u Hi) : SS W Hi0 H0 G (O.set k o') σ (upd H o.a u) := by
  obtain ⟨_, h2, h3, h4⟩ := w.at_ o (own_mem hO)
  have hm : (O.set k o').map Own.a = O.map Own.a := by
    apply List.ext_getElem?
    intro j
    rw [List.getElem?_map, List.getElem?_map]
    by_cases hj : k = j
    · subst hj
      rw [List.getElem?_set_self (List.getElem?_eq_some_iff.mp hO).1, hO]
      exact congrArg some ha
    · rw [List.getElem?_set_ne hj]
  refine ⟨Hi, g.put h3 h2 h4, s, by rw [hm]; exact w.nd, fun v hv => ?_⟩
  obtain ⟨j, hj⟩ := List.mem_iff_getElem?.mp hv
  by_cases e : k = j
  · subst e
    rw [List.getElem?_set_self (List.getElem?_eq_some_iff.mp hO).1] at hj
    cases hj
    exact ⟨⟨u, by rw [ha, upd_same], hq⟩, by rw [ha]; exact h2, by rw [ha]; exact h3, by rw [ha]; exact h4⟩
  · rw [List.getElem?_set_ne e] at hj
    obtain ⟨⟨z, q1, q2⟩, q3, q4, q5⟩ := w.at_ v (own_mem hj)
    have ne : v.a ≠ o.a := fun z => by
      have i1 : (O.map Own.a)[j]? = some o.a := by rw [List.getElem?_map, hj]; exact congrArg some z
      have i2 : (O.map Own.a)[k]? = some o.a := by rw [List.getElem?_map, hO]; rfl
      have l1 := (List.getElem?_eq_some_iff.mp i1).1
      have l2 := (List.getElem?_eq_some_iff.mp i2).1
      have := (List.getElem?_inj l2 w.nd).mp (i2.trans i1.symm)
      exact e this
    exact ⟨⟨z, by rw [upd_ne ne]; exact q1, q2⟩, q3, q4, q5⟩
theorem xb_app (k : Nat) {o : Expr} {w : Addr} {apos cpos : Pos} (ho : XE c sc G o (tRef w)) (he : XE c sc G e T1) (hO : O[k]? = some (oLst w Ts)) (hl : Ts.length < 100000) (h : XB c sc Hi0 H0 (SS c.W Hi0 H0 G (O.set k (oLst w (Ts ++ [T1])))) rest N T)
    (hbase : ∀ env, attributeBase o "append" env (eval o env) = eval o env := by intro _; rfl)
    (hfew : ∀ env, ((backTo cpos (starEach [e] env)).all (fun x => !x.1) && (backToKw cpos (keywordEach [] env)).all (fun x => x.1.isSome) && decide ([e].length + ([] : List Keyword).length + (if ([] : List Keyword).isEmpty then 0 else 1) < 30)) = true := by intro _; rfl)
    (hline : (apos.endLine == cpos.line) = true := by rfl) (hs : ∀ env, starEach [e] env = (false, eval e env) :: starEach [] env := by intro _; rfl) (hplain : ∀ env, (backTo cpos (starEach [] env)).any (·.1) = false := by intro _; rfl)
    (hsw : ∀ env, swapsWith (.Call (.Attribute o "append" apos) [e] [] cpos) none pos.line env = pure false := by intro _; rfl) :
    XB c sc Hi0 H0 (SS c.W Hi0 H0 G O) (.Expr (.Call (.Attribute o "append" apos) [e] [] cpos) pos :: rest) N T := fun X C σ H ⟨Hi, g, s, w'⟩ => by
  refine bW_cons (ps_expr (pe_bm PySem.F.plainAttrs_list PySem.F.slot_list_append PySem.F.type_list_append mt_append eW_pe (pa_cons eW_pe pa_nil (hs _)) (hbase _) (hfew _) hline (hs _) (hplain _)) (hsw _)) ?_
  refine ho.use C g.wi s fun x Hi1 H1 g1 t1 => ?_
  have w1 := w'.gr g1
  obtain ⟨⟨u, hu, xs, rfl, ts⟩, h2, h3, h4⟩ := w1.at_ _ (own_mem hO)
  cases (show x = .ref w from t1)
  refine ⟨.inl ⟨rfl, xs, SqL.of hu⟩, ?_⟩
  refine he.use C g1.wi (s.mo g1.le) fun y Hi2 H2 g2 t2 => ?_
  have hu2 : H2 w = some (.lst xs) := g2.keep _ _ hu h4
  refine ⟨w, xs, y, rfl, rfl, hu2, ?_, ?_⟩
  · rw [ts.len]
    exact Nat.lt_of_lt_of_le hl (by decide)
  · exact h X C σ _ (ss_put hO rfl ((g.trans g1).trans g2) (s.mo (g1.le.trans g2.le)) (w1.gr g2) ⟨_, rfl, (ts.mo g2.le).app ⟨t2, trivial⟩⟩)
theorem xb_setL (k : Nat) {o i : Expr} {w : Addr} {n : Nat} {j : Int} {tp : Pos} (he : XE c sc G e T1) (ho : XE c sc G o (tRef w)) (hi : XE c sc G i (tInt j)) (hO : O[k]? = some (oLst w Ts)) (hj : (n : Int) = j) (hl : n < Ts.length) (h : XB c sc Hi0 H0 (SS c.W Hi0 H0 G (O.set k (oLst w (Ts.set n T1)))) rest N T)
    (ha : ∀ env v, assign (.Subscript o i tp) env v = (do
      let ov ← holding [v] (eval o env)
      let iv ← holding [v, ov] (eval i env)
      standAt tp
      holding [v, ov, iv] (setItem ov iv v)
      release [v, ov, iv] []) := by intro _ _; rfl)
    (hs : ∀ env, swapsWithSole [.Subscript o i tp] e pos.line env = pure false := by intro _; rfl) (hw : ∀ env, swappedStores [.Subscript o i tp] e env = pure none := by intro _; rfl) (h1 : ∀ env, (assignEach [.Subscript o i tp] env).map (·.2) = [assign (.Subscript o i tp) env] := by intro _; rfl) :
    XB c sc Hi0 H0 (SS c.W Hi0 H0 G O) (.Assign [.Subscript o i tp] e pos :: rest) N T := fun X C σ H ⟨Hi, g, s, w'⟩ => by
  refine bW_cons (ps_asg eW_pe (pg_sub eW_pe eW_pe set_list (ha _)) (hs _) (hw _) (h1 _)) ?_
  refine he.use C g.wi s fun v Hi1 H1 g1 t1 => ho.use C g1.wi (s.mo g1.le) fun x Hi2 H2 g2 t2 => hi.use C g2.wi (s.mo (g1.le.trans g2.le)) fun y Hi3 H3 g3 t3 => ?_
  have g13 := (g1.trans g2).trans g3
  obtain ⟨⟨u, hu, xs, rfl, ts⟩, h2, h3, h4⟩ := (w'.gr g13).at_ _ (own_mem hO)
  cases (show x = .ref w from t2)
  cases (show y = .int j from t3)
  refine ⟨w, xs, j, n, rfl, rfl, hu, ?_, ?_⟩
  · unfold ixN
    rw [if_pos (by omega), if_pos (by rw [ts.len]; omega)]
    congr 1
    omega
  · exact h X C σ _ (ss_put hO rfl (g.trans g13) (s.mo g13.le) (w'.gr g13) ⟨_, rfl, ts.set (T1.mo (g2.le.trans g3.le) t1) n⟩)
theorem kvp_none {κ : Type} [DecidableEq κ] {H : Hp} {k : κ} : ∀ {ks : List (κ × Ty)} {vs : List (κ × V)}, KvP ks vs H → k ∉ ks.map (·.1) → valV vs k = none
  | [], [], _, _ => rfl
  | (k0, T0) :: ks, (k1, v1) :: vs, ⟨h1, h2, h3⟩, n => by
    have n' : ¬ k = k0 ∧ k ∉ ks.map (·.1) := by simpa using n
    rw [valV_neg (p := (k1, v1)) fun z => n'.1 ((h1.trans z).symm)]
    exact kvp_none h3 n'.2
  | [], _ :: _, h, _ => h.elim
  | _ :: _, [], h, _ => h.elim
theorem kvp_snoc {κ : Type} {H : Hp} {k : κ} {v : V} (hv : T.p v H) : ∀ {ks : List (κ × Ty)} {vs : List (κ × V)}, KvP ks vs H → KvP (ks ++ [(k, T)]) (vs ++ [(k, v)]) H
  | [], [], _ => ⟨rfl, hv, trivial⟩
  | (_, _) :: _, (_, _) :: _, h => ⟨h.1, h.2.1, kvp_snoc hv h.2.2⟩
  | [], _ :: _, h => h.elim
  | _ :: _, [], h => h.elim
theorem xb_dputT (k : Nat) {o i : Expr} {w : Addr} {ks : List (List Key × Ty)} {key : List Key} {tp : Pos} (he : XE c sc G e T1) (ho : XE c sc G o (tRef w)) (hi : XE c sc G i (tKey key)) (hO : O[k]? = some (oDT w ks)) (hn : key ∉ ks.map (·.1)) (hl : ks.length < 100000) (h : XB c sc Hi0 H0 (SS c.W Hi0 H0 G (O.set k (oDT w (ks ++ [(key, T1)])))) rest N T)
    (hs : ∀ env, swapsWith e (some (.Subscript o i tp)) pos.line env = pure false := by intro _; rfl) :
    XB c sc Hi0 H0 (SS c.W Hi0 H0 G O) (.Assign [.Subscript o i tp] e pos :: rest) N T := fun X C σ H ⟨Hi, g, s, w'⟩ => by
  refine bW_cons (ps_dput C.hu eW_pe eW_pe eW_pe (hs _)) ?_
  refine he.use C g.wi s fun v Hi1 H1 g1 t1 => ho.use C g1.wi (s.mo g1.le) fun x Hi2 H2 g2 t2 => hi.use C g2.wi (s.mo (g1.le.trans g2.le)) fun y Hi3 H3 g3 t3 => ?_
  have g13 := (g1.trans g2).trans g3
  obtain ⟨⟨u, hu, kvs, rfl, ts⟩, h2, h3, h4⟩ := (w'.gr g13).at_ _ (own_mem hO)
  cases (show x = .ref w from t2)
  obtain ⟨b, rfl, hb⟩ := t3
  refine ⟨w, _, rfl, DPut.t hu (g3.wi.same _ _ hb) (Nat.lt_of_lt_of_le (by rw [ts.len]; exact hl) (by decide)), ?_⟩
  rw [putK_new _ (kvp_none ts hn)]
  exact h X C σ _ (ss_put hO rfl (g.trans g13) (s.mo g13.le) (w'.gr g13) ⟨_, rfl, kvp_snoc (T1.mo (g2.le.trans g3.le) t1) ts⟩)
theorem xb_dputK (k : Nat) {o i : Expr} {w : Addr} {ks : List (Key × Ty)} {z : Str} {tp : Pos} (he : XE c sc G e T1) (ho : XE c sc G o (tRef w)) (hi : XE c sc G i (tStr z)) (hO : O[k]? = some (oDK w ks)) (hn : (Sum.inr z : Key) ∉ ks.map (·.1)) (hl : ks.length < 100000) (h : XB c sc Hi0 H0 (SS c.W Hi0 H0 G (O.set k (oDK w (ks ++ [(Sum.inr z, T1)])))) rest N T)
    (hs : ∀ env, swapsWith e (some (.Subscript o i tp)) pos.line env = pure false := by intro _; rfl) :
    XB c sc Hi0 H0 (SS c.W Hi0 H0 G O) (.Assign [.Subscript o i tp] e pos :: rest) N T := fun X C σ H ⟨Hi, g, s, w'⟩ => by
  refine bW_cons (ps_dput C.hu eW_pe eW_pe eW_pe (hs _)) ?_
  refine he.use C g.wi s fun v Hi1 H1 g1 t1 => ho.use C g1.wi (s.mo g1.le) fun x Hi2 H2 g2 t2 => hi.use C g2.wi (s.mo (g1.le.trans g2.le)) fun y Hi3 H3 g3 t3 => ?_
  have g13 := (g1.trans g2).trans g3
  obtain ⟨⟨u, hu, kvs, rfl, ts⟩, h2, h3, h4⟩ := (w'.gr g13).at_ _ (own_mem hO)
  cases (show x = .ref w from t2)
  cases (show y = .str z from t3)
  refine ⟨w, _, rfl, DPut.k (k := Sum.inr z) hu (Nat.lt_of_lt_of_le (by rw [ts.len]; exact hl) (by decide)), ?_⟩
  rw [putK_new _ (kvp_none ts hn)]
  exact h X C σ _ (ss_put hO rfl (g.trans g13) (s.mo g13.le) (w'.gr g13) ⟨_, rfl, kvp_snoc (T1.mo (g2.le.trans g3.le) t1) ts⟩)
/-- a new object, one's own from here -/
theorem ss_own {W : Wd} {p : Addr} {o : Own} {u : HO} (ha : o.a = p) (g : Gr W Hi0 H0 Hi H) (hp : H p = none) (s : GS G σ Hi) (w : OwnOk W H0 Hi H O) (hq : o.q u Hi) (i : Nat) : SS W Hi0 H0 (G.set i (some (tRef p))) (o :: O) (σ.set i (some (.ref p))) (upd H p u) := by
  have h0 : H0 p = none := by
    cases e : H0 p with
    | none => rfl
    | some v => exact (g.there (by rw [e]; exact fun z => nomatch z) hp).elim
  have hc := g.wi.off hp
  have hi := g.wi.none hp
  refine ⟨Hi, g.put h0 hi hc, s.set (T := tRef p) rfl i, List.nodup_cons.mpr ⟨fun hm => ?_, w.nd⟩, fun v hv => ?_⟩
  · obtain ⟨v, hv, e⟩ := List.mem_map.mp hm
    obtain ⟨⟨z, q1, _⟩, _⟩ := w.at_ v hv
    rw [e, ha, hp] at q1
    cases q1
  · rcases List.mem_cons.mp hv with rfl | hv
    · exact ⟨⟨u, by rw [ha, upd_same], hq⟩, by rw [ha]; exact hi, by rw [ha]; exact h0, by rw [ha]; exact hc⟩
    · obtain ⟨⟨z, q1, q2⟩, q3, q4, q5⟩ := w.at_ v hv
      have ne : v.a ≠ p := fun e => by rw [e, hp] at q1; cases q1
      exact ⟨⟨z, by rw [upd_ne ne]; exact q1, q2⟩, q3, q4, q5⟩
theorem xb_ownT (i : Nat) {x : Str} {p' dp : Pos} (h : ∀ p, XB c sc Hi0 H0 (SS c.W Hi0 H0 (G.set i (some (tRef p))) (oDT p [] :: O)) rest N T) (hN : c.N[i]? = some x := by rfl) (hx : Loc' sc x := by first | exact Or.inl rfl | exact Or.inr rfl)
    (hs : ∀ env, swapsWith (.Dict [] [] dp) (some (.Name x p')) pos.line env = pure false := by intro _; rfl) : XB c sc Hi0 H0 (SS c.W Hi0 H0 G O) (.Assign [.Name x p'] (.Dict [] [] dp) pos :: rest) N T := fun X C σ H ⟨Hi, g, s, k⟩ =>
  bW_cons (ps_set (i := i) (C.hN ▸ C.nd) (by rw [C.hN]; exact hN) (C.sto x hx).1 pe_dnewT (hs _) (C.sto x hx).2) fun p hp => h p X C _ _ (ss_own (o := oDT p []) rfl g hp s k ⟨[], rfl, trivial⟩ i)
end
theorem sw2 {x y : Str} {px py pt pt2 : Pos} {kt k2 : Nat} {a b : Expr} (hne : (x == y) = false := by decide +kernel) (hl : (px.line == px.line) = true := by rfl) (hl2 : (py.line == px.line) = true := by rfl)
    (hst : ([a, b].any fun | .Starred .. => true | _ => false) = false := by rfl) (hf : [a, b].all (foldedForSure 8) = false := by rfl) (hc : [a, b].all (constantsAlone 8) = false := by rfl) :
    ∀ env : Env, env.scope.names.lookup x = some .local → env.scope.names.lookup y = some .local → env.scope.kind = .function → swappedStores [.Tuple [.Name x px, .Name y py] kt pt] (.Tuple [a, b] k2 pt2) env = pure (some [x, y]) := by
  intro env hx hy hk
  have e1 : env.kindOf x = some .local := hx
  have e2 : env.kindOf y = some .local := hy
  have hb : env.blockKind = .function := by unfold Env.blockKind; rw [hk]; rfl
  have hl3 : ((Expr.Name x px).pos.line) = px.line := rfl
  have hn : [x, y].eraseDups = [x, y] := by
    have : (y == x) = false := by rw [Bool.eq_false_iff] at hne ⊢; intro h; exact hne (by rw [beq_iff_eq] at h ⊢; exact h.symm)
    simp [List.eraseDups_cons, this, hne]
  unfold swappedStores
  simp only [List.length_cons, List.length_nil, hb, hst, hf, hc, List.head?_cons, Option.map_some, Option.getD_some, hl3, List.filterMap_cons, List.filterMap_nil, e1, e2, hl, hl2]
  simp [hn]
  intro h
  simp only [List.any_cons, List.any_nil, Bool.or_false, Bool.or_eq_false_iff] at hst
  rcases h with h | h
  · exact absurd (h.symm.trans hst.1) (by decide)
  · exact absurd (h.symm.trans hst.2) (by decide)
end Lg

set_option maxHeartbeats 4000000
namespace Lg
open PySem PySem.Spec PyProof.Rows L2
theorem kvp_look {H : Hp} {f : Str} {T : Ty} : ∀ {ks : List (Str × Ty)} {vs : List (Str × V)}, KvP ks vs H → ks.lookup f = some T → ∃ x, vs.lookup f = some x ∧ T.p x H
  | [], [], _, e => nomatch e
  | (k, T0) :: ks, (k', v) :: vs, ⟨h1, h2, h3⟩, e => by
    subst h1
    rw [List.lookup_cons] at e ⊢
    cases q : f == k with
    | true =>
      rw [q] at e
      cases e
      exact ⟨v, rfl, h2⟩
    | false =>
      rw [q] at e
      exact kvp_look h3 e
  | [], _ :: _, h, _ => h.elim
  | _ :: _, [], h, _ => h.elim
theorem kvp_lookn {H : Hp} {f : Str} : ∀ {ks : List (Str × Ty)} {vs : List (Str × V)}, KvP ks vs H → ks.lookup f = none → vs.lookup f = none
  | [], [], _, _ => rfl
  | (k, T0) :: ks, (k', v) :: vs, ⟨h1, h2, h3⟩, e => by
    subst h1
    rw [List.lookup_cons] at e ⊢
    cases q : f == k with
    | true => rw [q] at e; cases e
    | false =>
      rw [q] at e
      exact kvp_lookn h3 e
  | [], _ :: _, h, _ => h.elim
  | _ :: _, [], h, _ => h.elim
theorem putF_new {f : Str} {v : V} : ∀ {xs : List (Str × V)}, xs.lookup f = none → putF f v xs = xs ++ [(f, v)]
  | [], _ => rfl
  | (k, u) :: xs, h => by
    rw [List.lookup_cons] at h
    cases q : f == k with
    | true => rw [q] at h; cases h
    | false =>
      rw [q] at h
      have ne : ¬ k = f := fun z => by rw [z, beq_self_eq_true] at q; cases q
      show (if k = f then _ else (k, u) :: putF f v xs) = _
      rw [if_neg ne, putF_new h]; rfl
theorem fld_ins {K : PySem.W.Frag} {C : Addr} {fs : List (Str × Ty)} {f : Str} {T : Ty} (hc : Cls K C) (hn : NoAttr K C f) (h : fs.lookup f = some T) : FldK K (tIns C fs) f T := fun v Hi ⟨a, dx, xs, e, h1, h2⟩ => by
  obtain ⟨x, q1, q2⟩ := kvp_look h2 h
  exact ⟨a, C, dx, xs, x, e, h1, hc, hn, q1, q2⟩
theorem in_ins {C : Addr} {fs : List (Str × Ty)} {m : Str} (h : fs.lookup m = none) : InK C (tIns C fs) m := fun v Hi ⟨a, dx, xs, e, h1, h2⟩ => ⟨a, dx, xs, e, h1, kvp_lookn h2 h⟩
def oIns (a C dx : Addr) (fs : List (Str × Ty)) : Own := ⟨a, fun o H => ∃ xs, o = .ins C dx xs ∧ KvP fs xs H, fun l ⟨xs, e, t⟩ => ⟨xs, e, t.mo l⟩, fun ⟨_, e, _⟩ => nomatch e⟩
theorem seal_ins {a C dx : Addr} {fs : List (Str × Ty)} : SealK (oIns a C dx fs) (tIns C fs) := fun u Hi ⟨xs, e, t⟩ h => ⟨a, dx, xs, rfl, by subst e; exact upd_same, t.mo (Le.of (same_new h))⟩
section
variable {c : Cst} {sc : Scope} {G : Gm} {X : Cx} {e a b : Expr} {T T1 T2 T3 : Ty} {σ : L2.St} {Hi H : Hp} {pos : Pos} {es : List Expr} {Ts Us : List Ty} {Hi0 H0 : Hp} {O : List Own} {ss rest : List Stmt} {N M A : L2.St → Hp → Prop}
/-- self.f = e, self one's own -/
theorem xb_fld (k : Nat) {o : Expr} {w C dx : Addr} {fs : List (Str × Ty)} {f : Str} {p' : Pos} (he : XE c sc G e T1) (ho : XE c sc G o (tRef w)) (hO : O[k]? = some (oIns w C dx fs)) (hf : fs.lookup f = none) (hc : Cls c.b.K C) (hn : NoAttr c.b.K C f) (hl : fs.length < 1000) (h : XB c sc Hi0 H0 (SS c.W Hi0 H0 G (O.set k (oIns w C dx (fs ++ [(f, T1)])))) rest N T)
    (hs : ∀ env, swapsWith e (some (.Attribute o f p')) pos.line env = pure false := by intro _; rfl) : XB c sc Hi0 H0 (SS c.W Hi0 H0 G O) (.Assign [.Attribute o f p'] e pos :: rest) N T := fun X C' σ H ⟨Hi, g, s, w'⟩ => by
  refine bW_cons (ps_fld eW_pe eW_pe (hs _)) ?_
  refine he.use C' g.wi s fun v Hi1 H1 g1 t1 => ho.use C' g1.wi (s.mo g1.le) fun x Hi2 H2 g2 t2 => ?_
  have g12 := g1.trans g2
  obtain ⟨⟨u, hu, xs, rfl, ts⟩, h2, h3, h4⟩ := (w'.gr g12).at_ _ (own_mem hO)
  cases (show x = .ref w from t2)
  refine ⟨w, C, dx, xs, rfl, hu, C'.hK ▸ hc, C'.hK ▸ hn, by rw [ts.len]; exact hl, ?_⟩
  rw [putF_new (kvp_lookn ts hf)]
  exact h X C' σ _ (ss_put hO rfl (g.trans g12) (s.mo g12.le) (w'.gr g12) ⟨_, rfl, kvp_snoc (T1.mo g2.le t1) ts⟩)
/-- C(..): the promise of __init__ : the instance becomes a T -/
def spMk (C : Addr) (n : Nat) (sp : FS) : Sp := fun vs H Q _ => ∃ W Hi Ts T x dx rest, vs = .ref x :: rest ∧ H x = some (.ins C dx []) ∧ Hi x = none ∧ (∀ c ∈ W, c.a ≠ x) ∧ sp W Ts T ∧ Ts.length + 1 = n ∧ WI W Hi H ∧ TsP Ts rest Hi ∧
  ∀ H', (∃ Hi', Gr W Hi (cutH H [oIns x C dx []]) Hi' H' ∧ T.p (.ref x) Hi') → Q .non H'
structure MkAt (b : Bs) (x : Str) (C : Addr) (dvs : List V) (sp : Sp) (k : Nat) : Prop where
  ex : ∃ f fd ps ds, FnOk b.P b.w b.K b.mg b.base CX0 k f fd ps sp ∧ b.mg x = some (.ref C) ∧ Mk b.K C f ∧ Binds b.K fd ps ds ∧ Vals dvs ds
theorem xe_make {x : Str} {C : Addr} {n k : Nat} {sp : FS} {p : Pos} {dvs : List V} (F : MkAt c.b x C dvs (spMk C n sp) k) (ha : XA c sc G (e :: es) Ts) (hd : ∀ Hi, TsP Us dvs Hi) (hs : sp c.W (Ts ++ Us) T) (hk : k + 1 ≤ c.k := by exact Nat.le_of_ble_eq_true rfl) (hn : (Ts ++ Us).length + 1 = n := by rfl) (hg : sc.names.lookup x = some .globalImplicit := by rfl)
    (hdb : (x == ("__debug__" : Str)) = false := by decide +kernel) (he : ∀ env, starEach (e :: es) env = (false, eval e env) :: starEach es env := by intro _; rfl) (hpl : ∀ env, (backTo pos (starEach es env)).any (·.1) = false := by intro _; rfl) :
    XE c sc G (.Call (.Name x p) (e :: es) [] pos) T := fun X C' σ Hi H w g => by
  obtain ⟨f, fd, ps, ds, F, hm, M, hb, hv⟩ := F.ex
  have F' : FnOk X.prog X.w X.K X.mg X.base CX0 k f fd ps (spMk C n sp) := by rw [C'.hP, C'.hw, C'.hK, C'.hm, C'.hb]; exact F
  refine eW_of (pe_make (E := E0) (C'.hK ▸ M) F' (C'.room.mono hk) (C'.glo hg) (by rw [C'.hm]; exact hm) (C'.hK ▸ hb) hv pass0 aW_pa hdb (he _) (hpl _)) ?_
  refine ha.use C' w g fun vs Hi1 H1 g1 t1 x dx hx hdx ne => ?_
  have w1 := g1.wi
  have w2 : WI c.W Hi1 (upd (upd H1 dx (.own x)) x (.ins C dx [])) := (w1.put (w1.none hdx) (w1.off hdx)).put (w1.none hx) (w1.off hx)
  refine ⟨c.W, Hi1, Ts ++ Us, T, x, dx, vs ++ dvs, rfl, upd_same, w1.none hx, w1.off hx, hs, hn, w2, t1.app (hd Hi1), fun H' ⟨Hi', g', t'⟩ => ⟨rfl, Hi', g1.trans ⟨g'.le, g'.wi, fun a o ha hc => ?_, fun a o ha hc t => ?_, fun d hd kvs ha => ?_⟩, t'⟩⟩
  · have n1 : a ≠ x := ne_of_none ha hx
    have n2 : a ≠ dx := ne_of_none ha hdx
    refine g'.keep a o ?_ hc
    rw [cutH_out (by simpa [oIns] using n1), upd_ne n1, upd_ne n2]
    exact ha
  · have n1 : a ≠ x := fun z => by rw [z, hx] at hc; cases hc
    have n2 : a ≠ dx := fun z => by rw [z, hdx] at hc; cases hc
    refine g'.off a o ha ?_ t
    rw [cutH_out (by simpa [oIns] using n1), upd_ne n1, upd_ne n2]
    exact hc
  · have n1 : d.a ≠ x := ne_of_none ha hx
    have n2 : d.a ≠ dx := ne_of_none ha hdx
    refine g'.grow d hd kvs ?_
    rw [cutH_out (by simpa [oIns] using n1), upd_ne n1, upd_ne n2]
    exact ha
end
def tBot : Ty := ⟨fun _ _ => False, fun _ h => h⟩
/-- an __init__'s body keeps its promise -/
def XI0 (b : Bs) (N : List Str) (k : Nat) (sc : Scope) (C : Addr) (n : Nat) (body : List Stmt) (sp : FS) : Prop := ∀ W Ts T, sp W Ts T → Ts.length + 1 = n → ∀ Hi0 H0 x dx, ∃ G' fs, XB ⟨b, N, k, W, true⟩ sc Hi0 H0 (SS W Hi0 H0 (gstart N (tRef x :: Ts)) [oIns x C dx []]) body (SS W Hi0 H0 G' [oIns x C dx fs]) tBot ∧ ∀ v H, (tIns C fs).p v H → T.p v H
theorem mk_ok {b : Bs} {x qual : Str} {params : Arguments} {body : List Stmt} {scope : Scope} {dvs : List V} {kws : List (Str × V)} {f : Addr} {fd : FuncData} {N ps : List Str} {k n : Nat} {C : Addr} {sp : FS} (F : FunD b.K x qual params body scope dvs kws f fd) (S : FnScope N ps scope) (hn : ps.length = n)
    (h : XI0 b N k scope C n body sp) : FnOk b.P b.w b.K b.mg b.base CX0 (k + 1) f fd ps (spMk C n sp) := by
  refine F.ok S (fun vs H Q E ⟨W, Hi, Ts, T, x, dx, rest, e, _, _, _, h1, h2, w, t, q⟩ => by rw [e, List.length_cons, t.len, h2, hn]) (fun cdv A outer s H vs Q E hr ⟨W, Hi, Ts, T, x, dx, rest, e, hx, hix, hcx, h1, h2, w, t, q⟩ => ?_)
  subst e
  refine ⟨_, PSs.nox bW_ps, ?_⟩
  have hx2 : TsP (tRef x :: Ts) (V.ref x :: rest) Hi := ⟨rfl, t⟩
  have e : L2.start N (V.ref x :: rest) = (V.ref x :: rest).map some ++ List.replicate (N.length - (tRef x :: Ts).length) none := by unfold L2.start; rw [hx2.len]
  obtain ⟨G', fs, hb, hT⟩ := h W Ts T h1 h2 Hi (cutH H [oIns x C dx []]) x dx
  have g0 : Gr W Hi (cutH H [oIns x C dx []]) Hi H := ⟨Le.refl _, w, fun a o h _ => cutH_some h, fun _ _ h _ _ => h, fun c hc kvs h => ⟨kvs, cutH_some h, fun _ q => q⟩⟩
  have hc0 : cutH H [oIns x C dx []] x = none := cutH_in (by simp [oIns])
  have o0 : OwnOk W (cutH H [oIns x C dx []]) Hi H [oIns x C dx []] := ⟨by simp, fun o ho => by
    have e : o = oIns x C dx [] := by simpa using ho
    subst e
    exact ⟨⟨_, hx, [], rfl, trivial⟩, hix, hc0, hcx⟩⟩
  have hb := hb _ (ctx_fn (W := W) (outer := outer) (H := H) (E := E) S hr) (L2.start N (V.ref x :: rest)) H ⟨Hi, g0, by rw [e]; exact gs_start _ hx2, o0⟩
  have fin : ∀ H', (∃ Hi' u, Gr W Hi (cutH H [oIns x C dx []]) Hi' H' ∧ H' x = some u ∧ (oIns x C dx fs).q u Hi' ∧ Hi' x = none) → Q .non H' := fun H' ⟨Hi', u, g', hu, hq, hn'⟩ =>
    q H' ⟨upd Hi' x u, g'.seal hc0 hu hn' hcx, hT _ _ (seal_ins u Hi' hq hn')⟩
  refine bW_mono hb (fun σ H' ⟨Hi', g', _, o'⟩ => ?_) (fun v H' ⟨Hi', g', t'⟩ => ?_) (fun _ _ q => q) (fun _ _ q => q)
  · obtain ⟨⟨u, hu, hq⟩, hn', _⟩ := o'.at_ (oIns x C dx fs) (by simp)
    exact fin H' ⟨Hi', u, g', hu, hq, hn'⟩
  · exact (t' : False).elim
end Lg

set_option maxHeartbeats 4000000
namespace Lg
open PySem PySem.Spec PyProof.Rows L2
/-! ### caches -/
def HasK (a : Addr) (key : List Key) (H : Hp) : Prop := ∃ kvs, H a = some (.dT kvs) ∧ (valV kvs key).isSome = true
theorem ch_inj : ∀ {W : Wd}, (W.map Ch.a).Nodup → ∀ {c d : Ch}, c ∈ W → d ∈ W → c.a = d.a → c = d
  | e :: W, nd, c, d, hc, hd, h => by
    have nd' : e.a ∉ W.map Ch.a ∧ (W.map Ch.a).Nodup := by simpa using nd
    rcases List.mem_cons.mp hc with h1 | h1
    · rcases List.mem_cons.mp hd with h2 | h2
      · rw [h1, h2]
      · exact (nd'.1 (List.mem_map.mpr ⟨d, h2, by rw [← h, h1]⟩)).elim
    · rcases List.mem_cons.mp hd with h2 | h2
      · exact (nd'.1 (List.mem_map.mpr ⟨c, h1, by rw [h, h2]⟩)).elim
      · exact ch_inj nd'.2 h1 h2 h
  | [], _, _, _, hc, _, _ => nomatch hc
theorem putK_keys {κ : Type} [DecidableEq κ] {kvs : List (κ × V)} {k : κ} {v : V} (nd : (kvs.map (·.1)).Nodup) : ((putK kvs k v).map (·.1)).Nodup ∧ ∀ kv ∈ putK kvs k v, kv = (k, v) ∨ kv ∈ kvs := by
  unfold putK
  split
  · rename_i h
    constructor
    · have : (kvs.map fun kv => if kv.1 = k then (kv.1, v) else kv).map (·.1) = kvs.map (·.1) := by
        rw [List.map_map]
        refine List.map_congr_left fun kv _ => ?_
        show (if kv.1 = k then (kv.1, v) else kv).1 = kv.1
        split <;> rfl
      rw [this]; exact nd
    · intro kv hm
      obtain ⟨u, hu, e⟩ := List.mem_map.mp hm
      by_cases q : u.1 = k
      · rw [if_pos q] at e
        exact .inl (by rw [← e, q])
      · rw [if_neg q] at e
        exact .inr (e ▸ hu)
  · rename_i h
    constructor
    · rw [List.map_append]
      refine List.nodup_append.mpr ⟨nd, by simp, fun x hx y hy => ?_⟩
      have hy : y = k := by simpa using hy
      obtain ⟨kv, hk, e⟩ := List.mem_map.mp hx
      intro z
      refine h (List.any_eq_true.mpr ⟨kv, hk, decide_eq_true ?_⟩)
      rw [e, z, hy]
    · intro kv hm
      rcases List.mem_append.mp hm with hm | hm
      · exact .inr hm
      · exact .inl (by simpa using hm)
theorem nodup_len {α : Type} [DecidableEq α] : ∀ {xs ys : List α}, xs.Nodup → (∀ x ∈ xs, x ∈ ys) → xs.length ≤ ys.length
  | [], _, _, _ => Nat.zero_le _
  | x :: xs, ys, nd, h => by
    have nd' : x ∉ xs ∧ xs.Nodup := by simpa using nd
    have hx := h x List.mem_cons_self
    have : xs.length ≤ (ys.erase x).length := nodup_len nd'.2 fun y hy => (List.mem_erase_of_ne (fun z => by subst z; exact nd'.1 hy)).mpr (h y (List.mem_cons_of_mem _ hy))
    rw [List.length_erase_of_mem hx] at this
    have : 0 < ys.length := List.length_pos_of_mem hx
    simp only [List.length_cons]
    omega
section
variable {c : Cst} {sc : Scope} {G G' : Gm} {X : Cx} {e a b k o i : Expr} {T T1 T2 T3 : Ty} {σ : L2.St} {Hi H : Hp} {pos : Pos} {es : List Expr} {Ts Us : List Ty} {Hi0 H0 : Hp} {O : List Own} {ss rest : List Stmt} {N M A : L2.St → Hp → Prop} {ch : Ch} {key : List Key}
theorem Gr.cput {W : Wd} {kvs : List (List Key × V)} {v : V} (g : Gr W Hi0 H0 Hi H) (hc : ch ∈ W) (h : H ch.a = some (.dT kvs)) (hU : key ∈ ch.U) (hv : (ch.S key).p v Hi) : Gr W Hi0 H0 Hi (upd H ch.a (.dT (putK kvs key v))) := by
  have w := g.wi
  obtain ⟨hi, kvs', e, nd, ty⟩ := w.ch ch hc
  rw [h] at e
  cases e
  have pk := putK_keys (k := key) (v := v) nd
  refine ⟨g.le, ⟨fun a u e => ?_, w.nd, fun d hd => ?_⟩, fun a u e n => ?_, g.off, fun d hd ks e => ?_⟩
  · rw [upd_ne (ne_of_none e hi)]
    exact w.same a u e
  · by_cases q : d.a = ch.a
    · have := ch_inj w.nd hd hc q
      subst this
      refine ⟨hi, _, upd_same, pk.1, fun kv hk => ?_⟩
      rcases pk.2 kv hk with z | z
      · subst z; exact ⟨hU, hv⟩
      · exact ty kv z
    · obtain ⟨h1, ks, h2, h3⟩ := w.ch d hd
      exact ⟨h1, ks, by rw [upd_ne q]; exact h2, h3⟩
  · rw [upd_ne fun z => n ch hc z.symm]
    exact g.keep a u e n
  · obtain ⟨k1, h1, q1⟩ := g.grow d hd ks e
    by_cases q : d.a = ch.a
    · rw [q, h] at h1
      cases h1
      refine ⟨_, by rw [q, upd_same], fun x z => ?_⟩
      rw [valV_put]
      split
      · rfl
      · exact q1 x z
    · exact ⟨k1, by rw [upd_ne q]; exact h1, q1⟩
theorem ss_cput {W : Wd} {kvs : List (List Key × V)} {v : V} (g : Gr W Hi0 H0 Hi H) (s : GS G σ Hi) (w : OwnOk W H0 Hi H O) (hc : ch ∈ W) (h : H ch.a = some (.dT kvs)) (hU : key ∈ ch.U) (hv : (ch.S key).p v Hi) :
    SS W Hi0 H0 G O σ (upd H ch.a (.dT (putK kvs key v))) ∧ HasK ch.a key (upd H ch.a (.dT (putK kvs key v))) := by
  refine ⟨⟨Hi, g.cput hc h hU hv, s, w.nd, fun x hx => ?_⟩, _, upd_same, ?_⟩
  · obtain ⟨⟨u, h1, h2⟩, h3, h4, h5⟩ := w.at_ x hx
    exact ⟨⟨u, by rw [upd_ne fun z => h5 ch hc z.symm]; exact h1, h2⟩, h3, h4, h5⟩
  · rw [valV_put, if_pos rfl]; rfl
theorem SS.le' {W : Wd} {σ : L2.St} {H : Hp} (h : SS W Hi0 H0 G O σ H) (l : GLe G G') : SS W Hi0 H0 G' O σ H := h.le l
theorem HasK.gr {W : Wd} {Hi' H' : Hp} (h : HasK ch.a key H) (hc : ch ∈ W) (g : Gr W Hi H Hi' H') : HasK ch.a key H' := by
  obtain ⟨kvs, h1, h2⟩ := h
  obtain ⟨k2, q1, q2⟩ := g.grow ch hc kvs h1
  exact ⟨k2, q1, q2 key h2⟩
/-- if k not in o: b1 -/
theorem xb_cask {p : Pos} {b1 : List Stmt} (hc : ch ∈ c.W) (hk : XE c sc G k (tKey key)) (ho : XE c sc G o (tRef ch.a)) (hb : XB c sc Hi0 H0 (SS c.W Hi0 H0 G O) b1 (fun σ H => SS c.W Hi0 H0 G' O σ H ∧ HasK ch.a key H) T) (hle : GLe G G')
    (h : XB c sc Hi0 H0 (fun σ H => SS c.W Hi0 H0 G' O σ H ∧ HasK ch.a key H) rest N T) (hm : behindInMarks .NotIn o = false := by first | exact nomark _ | rfl) : XB c sc Hi0 H0 (SS c.W Hi0 H0 G O) (.If (.Compare k [.NotIn] [o] p) b1 [] pos :: rest) N T := fun X C σ H ⟨Hi, g, s, w⟩ => by
  refine bW_cons (ps_if (pt_cmp (pc_dnotin C.hu eW_pe eW_pe) hm) bW_ps bW_ps) ?_
  refine hk.use C g.wi s fun y Hi1 H1 g1 t1 => ho.use C g1.wi (s.mo g1.le) fun x Hi2 H2 g2 t2 => ?_
  cases (show x = .ref ch.a from t2)
  obtain ⟨l, rfl, hl⟩ := t1
  have g12 := g1.trans g2
  obtain ⟨_, kvs, hkv, _⟩ := g2.wi.ch ch hc
  have hl2 : H2 l = some (.tup (key.map kV)) := g2.wi.same _ _ (g2.le.solid solid_tup hl)
  have st : SS c.W Hi0 H0 G O σ H2 := ⟨Hi2, g.trans g12, s.mo g12.le, w.gr g12⟩
  refine ⟨ch.a, valV kvs key, rfl, DGet.t hkv hl2, _, rfl, ?_⟩
  cases e : (valV kvs key).isSome with
  | false =>
    rw [if_pos (by rfl)]
    exact bW_mono (hb X C σ H2 st) (fun σ H m => h X C σ H m) (fun _ _ q => q) (fun _ _ (q : False) => q.elim) (fun _ _ (q : False) => q.elim)
  | true =>
    rw [if_neg (by decide)]
    exact bW_of pss_nil (h X C σ H2 ⟨st.le hle, kvs, hkv, e⟩)
theorem xb_cput {tp : Pos} (hc : ch ∈ c.W) (he : XE c sc G e T1) (ho : XE c sc G o (tRef ch.a)) (hi : XE c sc G i (tKey key)) (hU : key ∈ ch.U) (hl : ch.U.length < 100000) (hT : ∀ v H, T1.p v H → (ch.S key).p v H)
    (h : XB c sc Hi0 H0 (fun σ H => SS c.W Hi0 H0 G O σ H ∧ HasK ch.a key H) rest N T) (hs : ∀ env, swapsWith e (some (.Subscript o i tp)) pos.line env = pure false := by intro _; rfl) :
    XB c sc Hi0 H0 (SS c.W Hi0 H0 G O) (.Assign [.Subscript o i tp] e pos :: rest) N T := fun X C σ H ⟨Hi, g, s, w⟩ => by
  refine bW_cons (ps_dput C.hu eW_pe eW_pe eW_pe (hs _)) ?_
  refine he.use C g.wi s fun v Hi1 H1 g1 t1 => ho.use C g1.wi (s.mo g1.le) fun x Hi2 H2 g2 t2 => hi.use C g2.wi (s.mo (g1.le.trans g2.le)) fun y Hi3 H3 g3 t3 => ?_
  cases (show x = .ref ch.a from t2)
  obtain ⟨l, rfl, hl3⟩ := t3
  have g13 := (g1.trans g2).trans g3
  obtain ⟨_, kvs, hkv, nd, ty⟩ := g3.wi.ch ch hc
  have hz : kvs.length ≤ ch.U.length := by
    have := nodup_len (ys := ch.U) nd fun x hx => by
      obtain ⟨kv, hk, e⟩ := List.mem_map.mp hx
      exact e ▸ (ty kv hk).1
    rwa [List.length_map] at this
  refine ⟨ch.a, _, rfl, DPut.t hkv (g3.wi.same _ _ hl3) (Nat.lt_of_le_of_lt hz (Nat.lt_of_lt_of_le hl (by decide))), ?_⟩
  exact h X C σ _ (ss_cput (g.trans g13) (s.mo g13.le) (w.gr g13) hc hkv hU (hT v _ (T1.mo (g2.le.trans g3.le) t1)))
theorem xb_cret {p : Pos} (hc : ch ∈ c.W) (ho : XE c sc G o (tRef ch.a)) (hi : XE c sc G i (tKey key)) (hT : ∀ v H, (ch.S key).p v H → T.p v H) (hs : NoSl i := by intro _ _; rfl) :
    XB c sc Hi0 H0 (fun σ H => SS c.W Hi0 H0 G O σ H ∧ HasK ch.a key H) (.Return (some (.Subscript o i p)) pos :: rest) N T := fun X C σ H ⟨⟨Hi, g, s, w⟩, hk⟩ => by
  refine bW_cons (ps_ret (pe_dget C.hu eW_pe eW_pe hs)) ?_
  refine ho.use C g.wi s fun x Hi1 H1 g1 t1 => hi.use C g1.wi (s.mo g1.le) fun y Hi2 H2 g2 t2 => ?_
  cases (show x = .ref ch.a from t1)
  obtain ⟨l, rfl, hl⟩ := t2
  have g12 := g1.trans g2
  obtain ⟨kvs, h1, h2⟩ := hk.gr hc g12
  obtain ⟨_, kvs', e, nd, ty⟩ := g2.wi.ch ch hc
  rw [h1] at e
  cases e
  obtain ⟨v, hv⟩ := Option.isSome_iff_exists.mp h2
  have hm : (key, v) ∈ kvs := by
    unfold valV at hv
    cases q : kvs.find? (fun kv => decide (kv.1 = key)) with
    | none => rw [q] at hv; cases hv
    | some kv =>
      rw [q] at hv
      have e1 := List.find?_some q
      have e1 : kv.1 = key := by simpa using e1
      have e2 : kv.2 = v := by simpa using hv
      rw [← e1, ← e2]
      exact List.mem_of_find?_eq_some q
  refine ⟨ch.a, v, rfl, ?_, Hi2, g.trans g12, hT v Hi2 (ty _ hm).2⟩
  rw [← hv]
  exact DGet.t h1 (g2.wi.same _ _ hl)
end
end Lg

set_option maxHeartbeats 4000000
namespace Zq
open PySem PySem.W
/-! ### zip, while the tuple that it gave out first is still there -/
section
variable {prog : Program} {w : World} {A : Around} {E : Value → Shared → Prop} {s : Shared} {z TI TO T i1 i2 : Addr} {fp1 fp2 : List Addr} {n1 n2 i : Nat} {P1 P2 : Nat → Value → Prop} {St1 St2 : Nat → Heap → Prop} {f : Bool} {oT : Obj}
theorem held_item2 {Q : Value → Shared → Prop} (S : ZipSep2 z TI TO i1 i2 fp1 fp2) (D1 : Draws prog w A i1 fp1 n1 P1 St1) (D2 : Draws prog w A i2 fp2 n2 P2 St2) (hz : IsZipHeld s.heap z TI TO T f) (hT : s.heap.get? T = some oT) (hTI : IsTupOf2 s.heap TI (.ref i1) (.ref i2)) (st1 : St1 i s.heap) (st2 : St2 i s.heap) (lt1 : i < n1) (lt2 : i < n2)
    (hQ : ∀ x1 x2 h' tk, P1 i x1 → P2 i x2 → IsZipHeld h' z TI TO T true → St1 (i + 1) h' → St2 (i + 1) h' → IsTupOf2 h' s.heap.objs.size x1 x2 → h'.objs.size = s.heap.objs.size + 1 →
      (∀ c o, c ≠ z → c ≠ i1 → c ≠ i2 → s.heap.get? c = some o → h'.get? c = some o) → Q (.ref s.heap.objs.size) { s with heap := h', toks := tk }) :
    wpAny (model prog w) A (Builtin.«zip.__next__» ⟨[.ref z], []⟩) (fun r s' => ∃ v, r = .done (.ret v) ∧ Q v s') E s := by
  obtain ⟨hp, g, d, tk0, os⟩ := s
  show wpAny _ _ (field (.ref z) 2 >>= _) _ _ _
  refine wpAny_bind (wpAny_field hz rfl (x := .bool false) rfl ?_)
  show wpAny _ _ (field (.ref z) 3 >>= _) _ _ _
  refine wpAny_bind (wpAny_field hz rfl (x := .ref TI) rfl (wpAny_bind (wpAny_seqItems hTI rfl ?_)))
  show wpAny _ _ (Builtin.SmallTypes.ownedTupleIsFree (.ref z) >>= _) _ _ _
  refine wpAny_bind (wpAny_tupleHeld_zip hz hT fun q0 hz0 hs0 => ?_)
  replace hs0 : Heap.SameBut z hp q0 := hs0
  simp only [Bool.false_eq_true, if_false]
  refine wpAny_bind ?_
  rw [← Array.forIn_toList]
  simp only [List.forIn_cons, List.forIn_nil]
  refine wpAny_bind (wpAny_bind (wpAny_holding ?_))
  show wpAny _ _ (Builtin.SmallTypes.nextOf (.ref i1) >>= _) _ _ ⟨q0, g, d, tk0, os⟩
  refine wpAny_bind (D1.item i _ _ _ lt1 (D1.over st1 hs0 S.zf1) fun x1 q1 tk1 hx1 sn1 hp1 => wpAny_pure ?_)
  replace hp1 : Heap.SameBut i1 q0 q1 := hp1
  refine wpAny_pure ?_
  refine wpAny_bind (wpAny_bind (wpAny_holding ?_))
  show wpAny _ _ (Builtin.SmallTypes.nextOf (.ref i2) >>= _) _ _ ⟨q1, g, d, tk1, os⟩
  refine wpAny_bind (D2.item i _ _ _ lt2 (D2.over (D2.over st2 hs0 S.zf2) hp1 S.sep1_2) fun x2 q2 tk2 hx2 sn2 hp2 => wpAny_pure ?_)
  replace hp2 : Heap.SameBut i2 q1 q2 := hp2
  refine wpAny_pure (wpAny_pure ?_)
  show wpAny _ _ (newTuple [x1, x2] >>= _) _ _ ⟨q2, g, d, tk2, os⟩
  refine wpAny_bind (wpAny_newTuple ?_)
  have hsz : q2.objs.size = hp.objs.size := by rw [hp2.1, hp1.1, hs0.1]
  have hzz : IsZipHeld q2 z TI TO T true := (hp2.extBut _ _ S.zi2 (hp1.extBut _ _ S.zi1 hz0))
  have hkk : ∀ c o, c ≠ z → c ≠ i1 → c ≠ i2 → hp.get? c = some o → q2.get? c = some o := fun c o cz c1 c2 e => (hp2.extBut _ _ c2 (hp1.extBut _ _ c1 (hs0.extBut _ _ cz e)))
  have hj1 : St1 (i + 1) q2 := (D1.over sn1 hp2 S.sep2_1)
  have hj2 : St2 (i + 1) q2 := sn2
  have ht : IsTupOf2 (q2.push { cls := .type "tuple", data := .seq #[x1, x2] }) q2.objs.size x1 x2 := Heap.get?_push_size _ rfl
  have hs : (q2.push { cls := .type "tuple", data := .seq #[x1, x2] }).objs.size = q2.objs.size + 1 := Heap.size_push ..
  refine wpAny_pure ⟨_, rfl, ?_⟩
  show Q (.ref q2.objs.size) _
  rw [hsz] at ht hs ⊢
  exact hQ x1 x2 _ tk2 hx1 hx2 (Heap.get?_push_of_some _ hzz) (D1.frame _ _ _ hj1 fun b _ o e => Heap.get?_push_of_some _ e) (D2.frame _ _ _ hj2 fun b _ o e => Heap.get?_push_of_some _ e) ht hs fun c o cz c1 c2 e => Heap.get?_push_of_some _ (hkk c o cz c1 c2 e)
theorem held_end2 {Q : Fin → Shared → Prop} (S : ZipSep2 z TI TO i1 i2 fp1 fp2) (D1 : Draws prog w A i1 fp1 n1 P1 St1) (D2 : Draws prog w A i2 fp2 n2 P2 St2) (hz : IsZipHeld s.heap z TI TO T f) (hT : s.heap.get? T = some oT) (hTI : IsTupOf2 s.heap TI (.ref i1) (.ref i2)) (st1 : St1 i s.heap) (st2 : St2 i s.heap) (le1 : i ≤ n1) (le2 : i ≤ n2) (hend : i = n1 ∨ i = n2)
    (hE : ∀ h' tk e, (∀ c o, c ≠ z → c ≠ i1 → c ≠ i2 → s.heap.get? c = some o → h'.get? c = some o) → (∃ o, h'.get? e = some o ∧ o.cls = .type "StopIteration") → E (.ref e) { s with heap := h', toks := tk }) :
    wpAny (model prog w) A (Builtin.«zip.__next__» ⟨[.ref z], []⟩) Q E s := by
  obtain ⟨hp, g, d, tk0, os⟩ := s
  show wpAny _ _ (field (.ref z) 2 >>= _) _ _ _
  refine wpAny_bind (wpAny_field hz rfl (x := .bool false) rfl ?_)
  show wpAny _ _ (field (.ref z) 3 >>= _) _ _ _
  refine wpAny_bind (wpAny_field hz rfl (x := .ref TI) rfl (wpAny_bind (wpAny_seqItems hTI rfl ?_)))
  show wpAny _ _ (Builtin.SmallTypes.ownedTupleIsFree (.ref z) >>= _) _ _ _
  refine wpAny_bind (wpAny_tupleHeld_zip hz hT fun q0 hz0 hs0 => ?_)
  replace hs0 : Heap.SameBut z hp q0 := hs0
  simp only [Bool.false_eq_true, if_false]
  refine wpAny_bind ?_
  rw [← Array.forIn_toList]
  simp only [List.forIn_cons, List.forIn_nil]
  refine wpAny_bind (wpAny_bind (wpAny_holding ?_))
  show wpAny _ _ (Builtin.SmallTypes.nextOf (.ref i1) >>= _) _ _ ⟨q0, g, d, tk0, os⟩
  by_cases lt1 : i < n1
  case neg =>
    have hi : i = n1 := by omega
    refine wpAny_bind (D1.done ⟨q0, g, d, tk0, os⟩ _ _ (by rw [← hi]; exact (D1.over st1 hs0 S.zf1)) fun q e hq he => ?_)
    exact hE q tk0 e (fun c o cz c1 c2 e => hq _ _ c1 (hs0.extBut _ _ cz e)) he
  refine wpAny_bind (D1.item i _ _ _ lt1 (D1.over st1 hs0 S.zf1) fun x1 q1 tk1 hx1 sn1 hp1 => wpAny_pure ?_)
  replace hp1 : Heap.SameBut i1 q0 q1 := hp1
  refine wpAny_pure ?_
  refine wpAny_bind (wpAny_bind (wpAny_holding ?_))
  show wpAny _ _ (Builtin.SmallTypes.nextOf (.ref i2) >>= _) _ _ ⟨q1, g, d, tk1, os⟩
  have hi : i = n2 := by omega
  refine wpAny_bind (D2.done ⟨q1, g, d, tk1, os⟩ _ _ (by rw [← hi]; exact (D2.over (D2.over st2 hs0 S.zf2) hp1 S.sep1_2)) fun q e hq he => ?_)
  exact hE q tk1 e (fun c o cz c1 c2 e => hq _ _ c2 (hp1.extBut _ _ c1 (hs0.extBut _ _ cz e))) he
theorem next_held2 {Q : Option Value → Shared → Prop} (S : ZipSep2 z TI TO i1 i2 fp1 fp2) (D1 : Draws prog w A.in1 i1 fp1 n1 P1 St1) (D2 : Draws prog w A.in1 i2 fp2 n2 P2 St2) (hz : IsZipHeld s.heap z TI TO T f) (hT : s.heap.get? T = some oT) (hTI : IsTupOf2 s.heap TI (.ref i1) (.ref i2)) (st1 : St1 i s.heap) (st2 : St2 i s.heap) (lt1 : i < n1) (lt2 : i < n2)
    (hQ : ∀ x1 x2 h' tk, P1 i x1 → P2 i x2 → IsZipHeld h' z TI TO T true → St1 (i + 1) h' → St2 (i + 1) h' → IsTupOf2 h' s.heap.objs.size x1 x2 → h'.objs.size = s.heap.objs.size + 1 →
      (∀ c o, c ≠ z → c ≠ i1 → c ≠ i2 → s.heap.get? c = some o → h'.get? c = some o) → Q (some (.ref s.heap.objs.size)) { s with heap := h', toks := tk }) :
    wpAny (model prog w) A (pyNext (.ref z)) Q E s := by
  have hy : s.TypeIs (.ref z) "zip" := ⟨_, hz, rfl⟩
  unfold pyNext
  exact wpAny_bind (wpAny_attempt (wpAny_callSpecial?_slot (name := Str.ofString "__next__") hy F.slot_zip_next (wpAny_call_entry F.slot_zip_next hy F.entry_zip_next
    (held_item2 S D1 D2 hz hT hTI st1 st2 lt1 lt2 fun x1 x2 h' tk y1 y2 b0 b1 b2 u1 u2 u3 => wpAny_pure (hQ x1 x2 h' tk y1 y2 b0 b1 b2 u1 u2 u3)) (F.args_zip_next_1 _))))
theorem stop_held2 {Q : Option Value → Shared → Prop} (S : ZipSep2 z TI TO i1 i2 fp1 fp2) (D1 : Draws prog w A.in1 i1 fp1 n1 P1 St1) (D2 : Draws prog w A.in1 i2 fp2 n2 P2 St2) (hz : IsZipHeld s.heap z TI TO T f) (hT : s.heap.get? T = some oT) (hTI : IsTupOf2 s.heap TI (.ref i1) (.ref i2)) (st1 : St1 i s.heap) (st2 : St2 i s.heap) (le1 : i ≤ n1) (le2 : i ≤ n2) (hend : i = n1 ∨ i = n2)
    (hQ : ∀ h' tk, (∀ c o, c ≠ z → c ≠ i1 → c ≠ i2 → s.heap.get? c = some o → h'.get? c = some o) → Q none { s with heap := h', toks := tk }) : wpAny (model prog w) A (pyNext (.ref z)) Q E s := by
  have hy : s.TypeIs (.ref z) "zip" := ⟨_, hz, rfl⟩
  unfold pyNext
  refine wpAny_bind (wpAny_attempt (wpAny_callSpecial?_slot (name := Str.ofString "__next__") hy F.slot_zip_next (wpAny_call_entry F.slot_zip_next hy F.entry_zip_next
    (held_end2 S D1 D2 hz hT hTI st1 st2 le1 le2 hend fun h' tk e hk he => ?_) (F.args_zip_next_1 _))))
  obtain ⟨o, ho, hc⟩ := he
  refine wpAny_bind (wpAny_isInstance (T := "StopIteration") (b := true) ⟨o, ho, hc⟩ isSubtype_stop ?_)
  exact wpAny_pure (hQ _ _ hk)
end
section
variable {prog : Program} {w : World} {A : Around} {E : Value → Shared → Prop} {s : Shared} {z TI TO T i1 i2 i3 : Addr} {fp1 fp2 fp3 : List Addr} {n1 n2 n3 i : Nat} {P1 P2 P3 : Nat → Value → Prop} {St1 St2 St3 : Nat → Heap → Prop} {f : Bool} {oT : Obj}
theorem held_item3 {Q : Value → Shared → Prop} (S : ZipSep3 z TI TO i1 i2 i3 fp1 fp2 fp3) (D1 : Draws prog w A i1 fp1 n1 P1 St1) (D2 : Draws prog w A i2 fp2 n2 P2 St2) (D3 : Draws prog w A i3 fp3 n3 P3 St3) (hz : IsZipHeld s.heap z TI TO T f) (hT : s.heap.get? T = some oT) (hTI : IsTupOf3 s.heap TI (.ref i1) (.ref i2) (.ref i3)) (st1 : St1 i s.heap) (st2 : St2 i s.heap) (st3 : St3 i s.heap) (lt1 : i < n1) (lt2 : i < n2) (lt3 : i < n3)
    (hQ : ∀ x1 x2 x3 h' tk, P1 i x1 → P2 i x2 → P3 i x3 → IsZipHeld h' z TI TO T true → St1 (i + 1) h' → St2 (i + 1) h' → St3 (i + 1) h' → IsTupOf3 h' s.heap.objs.size x1 x2 x3 → h'.objs.size = s.heap.objs.size + 1 →
      (∀ c o, c ≠ z → c ≠ i1 → c ≠ i2 → c ≠ i3 → s.heap.get? c = some o → h'.get? c = some o) → Q (.ref s.heap.objs.size) { s with heap := h', toks := tk }) :
    wpAny (model prog w) A (Builtin.«zip.__next__» ⟨[.ref z], []⟩) (fun r s' => ∃ v, r = .done (.ret v) ∧ Q v s') E s := by
  obtain ⟨hp, g, d, tk0, os⟩ := s
  show wpAny _ _ (field (.ref z) 2 >>= _) _ _ _
  refine wpAny_bind (wpAny_field hz rfl (x := .bool false) rfl ?_)
  show wpAny _ _ (field (.ref z) 3 >>= _) _ _ _
  refine wpAny_bind (wpAny_field hz rfl (x := .ref TI) rfl (wpAny_bind (wpAny_seqItems hTI rfl ?_)))
  show wpAny _ _ (Builtin.SmallTypes.ownedTupleIsFree (.ref z) >>= _) _ _ _
  refine wpAny_bind (wpAny_tupleHeld_zip hz hT fun q0 hz0 hs0 => ?_)
  replace hs0 : Heap.SameBut z hp q0 := hs0
  simp only [Bool.false_eq_true, if_false]
  refine wpAny_bind ?_
  rw [← Array.forIn_toList]
  simp only [List.forIn_cons, List.forIn_nil]
  refine wpAny_bind (wpAny_bind (wpAny_holding ?_))
  show wpAny _ _ (Builtin.SmallTypes.nextOf (.ref i1) >>= _) _ _ ⟨q0, g, d, tk0, os⟩
  refine wpAny_bind (D1.item i _ _ _ lt1 (D1.over st1 hs0 S.zf1) fun x1 q1 tk1 hx1 sn1 hp1 => wpAny_pure ?_)
  replace hp1 : Heap.SameBut i1 q0 q1 := hp1
  refine wpAny_pure ?_
  refine wpAny_bind (wpAny_bind (wpAny_holding ?_))
  show wpAny _ _ (Builtin.SmallTypes.nextOf (.ref i2) >>= _) _ _ ⟨q1, g, d, tk1, os⟩
  refine wpAny_bind (D2.item i _ _ _ lt2 (D2.over (D2.over st2 hs0 S.zf2) hp1 S.sep1_2) fun x2 q2 tk2 hx2 sn2 hp2 => wpAny_pure ?_)
  replace hp2 : Heap.SameBut i2 q1 q2 := hp2
  refine wpAny_pure ?_
  refine wpAny_bind (wpAny_bind (wpAny_holding ?_))
  show wpAny _ _ (Builtin.SmallTypes.nextOf (.ref i3) >>= _) _ _ ⟨q2, g, d, tk2, os⟩
  refine wpAny_bind (D3.item i _ _ _ lt3 (D3.over (D3.over (D3.over st3 hs0 S.zf3) hp1 S.sep1_3) hp2 S.sep2_3) fun x3 q3 tk3 hx3 sn3 hp3 => wpAny_pure ?_)
  replace hp3 : Heap.SameBut i3 q2 q3 := hp3
  refine wpAny_pure (wpAny_pure ?_)
  show wpAny _ _ (newTuple [x1, x2, x3] >>= _) _ _ ⟨q3, g, d, tk3, os⟩
  refine wpAny_bind (wpAny_newTuple ?_)
  have hsz : q3.objs.size = hp.objs.size := by rw [hp3.1, hp2.1, hp1.1, hs0.1]
  have hzz : IsZipHeld q3 z TI TO T true := (hp3.extBut _ _ S.zi3 (hp2.extBut _ _ S.zi2 (hp1.extBut _ _ S.zi1 hz0)))
  have hkk : ∀ c o, c ≠ z → c ≠ i1 → c ≠ i2 → c ≠ i3 → hp.get? c = some o → q3.get? c = some o := fun c o cz c1 c2 c3 e => (hp3.extBut _ _ c3 (hp2.extBut _ _ c2 (hp1.extBut _ _ c1 (hs0.extBut _ _ cz e))))
  have hj1 : St1 (i + 1) q3 := (D1.over (D1.over sn1 hp2 S.sep2_1) hp3 S.sep3_1)
  have hj2 : St2 (i + 1) q3 := (D2.over sn2 hp3 S.sep3_2)
  have hj3 : St3 (i + 1) q3 := sn3
  have ht : IsTupOf3 (q3.push { cls := .type "tuple", data := .seq #[x1, x2, x3] }) q3.objs.size x1 x2 x3 := Heap.get?_push_size _ rfl
  have hs : (q3.push { cls := .type "tuple", data := .seq #[x1, x2, x3] }).objs.size = q3.objs.size + 1 := Heap.size_push ..
  refine wpAny_pure ⟨_, rfl, ?_⟩
  show Q (.ref q3.objs.size) _
  rw [hsz] at ht hs ⊢
  exact hQ x1 x2 x3 _ tk3 hx1 hx2 hx3 (Heap.get?_push_of_some _ hzz) (D1.frame _ _ _ hj1 fun b _ o e => Heap.get?_push_of_some _ e) (D2.frame _ _ _ hj2 fun b _ o e => Heap.get?_push_of_some _ e) (D3.frame _ _ _ hj3 fun b _ o e => Heap.get?_push_of_some _ e) ht hs fun c o cz c1 c2 c3 e => Heap.get?_push_of_some _ (hkk c o cz c1 c2 c3 e)
theorem held_end3 {Q : Fin → Shared → Prop} (S : ZipSep3 z TI TO i1 i2 i3 fp1 fp2 fp3) (D1 : Draws prog w A i1 fp1 n1 P1 St1) (D2 : Draws prog w A i2 fp2 n2 P2 St2) (D3 : Draws prog w A i3 fp3 n3 P3 St3) (hz : IsZipHeld s.heap z TI TO T f) (hT : s.heap.get? T = some oT) (hTI : IsTupOf3 s.heap TI (.ref i1) (.ref i2) (.ref i3)) (st1 : St1 i s.heap) (st2 : St2 i s.heap) (st3 : St3 i s.heap) (le1 : i ≤ n1) (le2 : i ≤ n2) (le3 : i ≤ n3) (hend : i = n1 ∨ i = n2 ∨ i = n3)
    (hE : ∀ h' tk e, (∀ c o, c ≠ z → c ≠ i1 → c ≠ i2 → c ≠ i3 → s.heap.get? c = some o → h'.get? c = some o) → (∃ o, h'.get? e = some o ∧ o.cls = .type "StopIteration") → E (.ref e) { s with heap := h', toks := tk }) :
    wpAny (model prog w) A (Builtin.«zip.__next__» ⟨[.ref z], []⟩) Q E s := by
  obtain ⟨hp, g, d, tk0, os⟩ := s
  show wpAny _ _ (field (.ref z) 2 >>= _) _ _ _
  refine wpAny_bind (wpAny_field hz rfl (x := .bool false) rfl ?_)
  show wpAny _ _ (field (.ref z) 3 >>= _) _ _ _
  refine wpAny_bind (wpAny_field hz rfl (x := .ref TI) rfl (wpAny_bind (wpAny_seqItems hTI rfl ?_)))
  show wpAny _ _ (Builtin.SmallTypes.ownedTupleIsFree (.ref z) >>= _) _ _ _
  refine wpAny_bind (wpAny_tupleHeld_zip hz hT fun q0 hz0 hs0 => ?_)
  replace hs0 : Heap.SameBut z hp q0 := hs0
  simp only [Bool.false_eq_true, if_false]
  refine wpAny_bind ?_
  rw [← Array.forIn_toList]
  simp only [List.forIn_cons, List.forIn_nil]
  refine wpAny_bind (wpAny_bind (wpAny_holding ?_))
  show wpAny _ _ (Builtin.SmallTypes.nextOf (.ref i1) >>= _) _ _ ⟨q0, g, d, tk0, os⟩
  by_cases lt1 : i < n1
  case neg =>
    have hi : i = n1 := by omega
    refine wpAny_bind (D1.done ⟨q0, g, d, tk0, os⟩ _ _ (by rw [← hi]; exact (D1.over st1 hs0 S.zf1)) fun q e hq he => ?_)
    exact hE q tk0 e (fun c o cz c1 c2 c3 e => hq _ _ c1 (hs0.extBut _ _ cz e)) he
  refine wpAny_bind (D1.item i _ _ _ lt1 (D1.over st1 hs0 S.zf1) fun x1 q1 tk1 hx1 sn1 hp1 => wpAny_pure ?_)
  replace hp1 : Heap.SameBut i1 q0 q1 := hp1
  refine wpAny_pure ?_
  refine wpAny_bind (wpAny_bind (wpAny_holding ?_))
  show wpAny _ _ (Builtin.SmallTypes.nextOf (.ref i2) >>= _) _ _ ⟨q1, g, d, tk1, os⟩
  by_cases lt2 : i < n2
  case neg =>
    have hi : i = n2 := by omega
    refine wpAny_bind (D2.done ⟨q1, g, d, tk1, os⟩ _ _ (by rw [← hi]; exact (D2.over (D2.over st2 hs0 S.zf2) hp1 S.sep1_2)) fun q e hq he => ?_)
    exact hE q tk1 e (fun c o cz c1 c2 c3 e => hq _ _ c2 (hp1.extBut _ _ c1 (hs0.extBut _ _ cz e))) he
  refine wpAny_bind (D2.item i _ _ _ lt2 (D2.over (D2.over st2 hs0 S.zf2) hp1 S.sep1_2) fun x2 q2 tk2 hx2 sn2 hp2 => wpAny_pure ?_)
  replace hp2 : Heap.SameBut i2 q1 q2 := hp2
  refine wpAny_pure ?_
  refine wpAny_bind (wpAny_bind (wpAny_holding ?_))
  show wpAny _ _ (Builtin.SmallTypes.nextOf (.ref i3) >>= _) _ _ ⟨q2, g, d, tk2, os⟩
  have hi : i = n3 := by omega
  refine wpAny_bind (D3.done ⟨q2, g, d, tk2, os⟩ _ _ (by rw [← hi]; exact (D3.over (D3.over (D3.over st3 hs0 S.zf3) hp1 S.sep1_3) hp2 S.sep2_3)) fun q e hq he => ?_)
  exact hE q tk2 e (fun c o cz c1 c2 c3 e => hq _ _ c3 (hp2.extBut _ _ c2 (hp1.extBut _ _ c1 (hs0.extBut _ _ cz e)))) he
theorem next_held3 {Q : Option Value → Shared → Prop} (S : ZipSep3 z TI TO i1 i2 i3 fp1 fp2 fp3) (D1 : Draws prog w A.in1 i1 fp1 n1 P1 St1) (D2 : Draws prog w A.in1 i2 fp2 n2 P2 St2) (D3 : Draws prog w A.in1 i3 fp3 n3 P3 St3) (hz : IsZipHeld s.heap z TI TO T f) (hT : s.heap.get? T = some oT) (hTI : IsTupOf3 s.heap TI (.ref i1) (.ref i2) (.ref i3)) (st1 : St1 i s.heap) (st2 : St2 i s.heap) (st3 : St3 i s.heap) (lt1 : i < n1) (lt2 : i < n2) (lt3 : i < n3)
    (hQ : ∀ x1 x2 x3 h' tk, P1 i x1 → P2 i x2 → P3 i x3 → IsZipHeld h' z TI TO T true → St1 (i + 1) h' → St2 (i + 1) h' → St3 (i + 1) h' → IsTupOf3 h' s.heap.objs.size x1 x2 x3 → h'.objs.size = s.heap.objs.size + 1 →
      (∀ c o, c ≠ z → c ≠ i1 → c ≠ i2 → c ≠ i3 → s.heap.get? c = some o → h'.get? c = some o) → Q (some (.ref s.heap.objs.size)) { s with heap := h', toks := tk }) :
    wpAny (model prog w) A (pyNext (.ref z)) Q E s := by
  have hy : s.TypeIs (.ref z) "zip" := ⟨_, hz, rfl⟩
  unfold pyNext
  exact wpAny_bind (wpAny_attempt (wpAny_callSpecial?_slot (name := Str.ofString "__next__") hy F.slot_zip_next (wpAny_call_entry F.slot_zip_next hy F.entry_zip_next
    (held_item3 S D1 D2 D3 hz hT hTI st1 st2 st3 lt1 lt2 lt3 fun x1 x2 x3 h' tk y1 y2 y3 b0 b1 b2 b3 u1 u2 u3 => wpAny_pure (hQ x1 x2 x3 h' tk y1 y2 y3 b0 b1 b2 b3 u1 u2 u3)) (F.args_zip_next_1 _))))
theorem stop_held3 {Q : Option Value → Shared → Prop} (S : ZipSep3 z TI TO i1 i2 i3 fp1 fp2 fp3) (D1 : Draws prog w A.in1 i1 fp1 n1 P1 St1) (D2 : Draws prog w A.in1 i2 fp2 n2 P2 St2) (D3 : Draws prog w A.in1 i3 fp3 n3 P3 St3) (hz : IsZipHeld s.heap z TI TO T f) (hT : s.heap.get? T = some oT) (hTI : IsTupOf3 s.heap TI (.ref i1) (.ref i2) (.ref i3)) (st1 : St1 i s.heap) (st2 : St2 i s.heap) (st3 : St3 i s.heap) (le1 : i ≤ n1) (le2 : i ≤ n2) (le3 : i ≤ n3) (hend : i = n1 ∨ i = n2 ∨ i = n3)
    (hQ : ∀ h' tk, (∀ c o, c ≠ z → c ≠ i1 → c ≠ i2 → c ≠ i3 → s.heap.get? c = some o → h'.get? c = some o) → Q none { s with heap := h', toks := tk }) : wpAny (model prog w) A (pyNext (.ref z)) Q E s := by
  have hy : s.TypeIs (.ref z) "zip" := ⟨_, hz, rfl⟩
  unfold pyNext
  refine wpAny_bind (wpAny_attempt (wpAny_callSpecial?_slot (name := Str.ofString "__next__") hy F.slot_zip_next (wpAny_call_entry F.slot_zip_next hy F.entry_zip_next
    (held_end3 S D1 D2 D3 hz hT hTI st1 st2 st3 le1 le2 le3 hend fun h' tk e hk he => ?_) (F.args_zip_next_1 _))))
  obtain ⟨o, ho, hc⟩ := he
  refine wpAny_bind (wpAny_isInstance (T := "StopIteration") (b := true) ⟨o, ho, hc⟩ isSubtype_stop ?_)
  exact wpAny_pure (hQ _ _ hk)
end
end Zq

set_option maxHeartbeats 4000000
namespace Zq
open PySem PySem.W
/-! ### list(..) of what gives out new tuples -/
/-- z gives out n new tuples; it writes nothing but wr -/
structure Gives (prog : Program) (w : World) (A : Around) (z S : Addr) (wr : List Addr) (n : Nat) (V : Nat → List Value → Prop) (St : Nat → Heap → Prop) : Prop where
  frame : ∀ i h h', St i h → (∀ b o, b ≠ S → h.get? b = some o → h'.get? b = some o) → St i h'
  item : ∀ i (s : Shared) (Q : Option Value → Shared → Prop) (E : Value → Shared → Prop), i < n → St i s.heap → S < s.heap.objs.size →
    (∀ vs h' tk, V i vs → St (i + 1) h' → h'.get? s.heap.objs.size = some { cls := .type "tuple", data := .seq vs.toArray } → h'.objs.size = s.heap.objs.size + 1 → (∀ b o, b ∉ wr → s.heap.get? b = some o → h'.get? b = some o) →
      Q (some (.ref s.heap.objs.size)) { s with heap := h', toks := tk }) → wpAny (model prog w) A (pyNext (.ref z)) Q E s
  done : ∀ (s : Shared) (Q : Option Value → Shared → Prop) (E : Value → Shared → Prop), St n s.heap → (∀ h' tk, (∀ b o, b ∉ wr → s.heap.get? b = some o → h'.get? b = some o) → Q none { s with heap := h', toks := tk }) → wpAny (model prog w) A (pyNext (.ref z)) Q E s
  sorts : ∀ i h, St i h → ∃ o, h.get? z = some o ∧ o.cls = .type "zip"
  self : ∀ i (s : Shared) (Q : Value → Shared → Prop) (E : Value → Shared → Prop), i = 0 → St i s.heap → Q (.ref z) s → wpAny (model prog w) A (pyIter (.ref z)) Q E s
/-- the tuples so far -/
structure Laid (V : Nat → List Value → Prop) (lo : Addr) (h : Heap) (as : List Addr) : Prop where
  rise : as.Pairwise (· < ·)
  above : ∀ a ∈ as, lo ≤ a
  rows : ∀ (j : Nat) (a : Addr), as[j]? = some a → ∃ vs, V j vs ∧ h.get? a = some { cls := .type "tuple", data := .seq vs.toArray }
theorem Laid.lt {V : Nat → List Value → Prop} {lo : Addr} {h : Heap} {as : List Addr} (g : Laid V lo h as) {a : Addr} (ha : a ∈ as) : a < h.objs.size := by
  obtain ⟨j, hj⟩ := List.mem_iff_getElem?.mp ha
  obtain ⟨_, _, e⟩ := g.rows j a hj
  exact Heap.lt_size e
theorem Laid.keep {V : Nat → List Value → Prop} {lo : Addr} {h h' : Heap} {as wr : List Addr} (g : Laid V lo h as) (hw : ∀ b ∈ wr, b < lo) (k : ∀ b o, b ∉ wr → h.get? b = some o → h'.get? b = some o) : Laid V lo h' as :=
  ⟨g.rise, g.above, fun j a hj => by
    obtain ⟨vs, h1, h2⟩ := g.rows j a hj
    exact ⟨vs, h1, k a _ (fun m => Nat.lt_irrefl _ (Nat.lt_of_lt_of_le (hw a m) (g.above a (List.mem_of_getElem? hj)))) h2⟩⟩
theorem Laid.snoc {V : Nat → List Value → Prop} {lo : Addr} {h h' : Heap} {as : List Addr} {vs : List Value} (g : Laid V lo h as) (hl : lo ≤ h.objs.size) (g' : Laid V lo h' as) (hv : V as.length vs) (e : h'.get? h.objs.size = some { cls := .type "tuple", data := .seq vs.toArray }) : Laid V lo h' (as ++ [h.objs.size]) := by
  refine ⟨List.pairwise_append.mpr ⟨g.rise, List.pairwise_singleton _ _, fun a ha b hb => ?_⟩, fun a ha => ?_, fun j a hj => ?_⟩
  · rw [List.mem_singleton.mp hb]; exact g.lt ha
  · rcases List.mem_append.mp ha with ha | ha
    · exact g.above a ha
    · rw [List.mem_singleton.mp ha]; exact hl
  · by_cases hjl : j < as.length
    · rw [List.getElem?_append_left hjl] at hj
      exact g'.rows j a hj
    · rw [List.getElem?_append_right (by omega)] at hj
      have hj0 : j - as.length = 0 := by
        cases q : j - as.length with
        | zero => rfl
        | succ m => rw [q] at hj; simp at hj
      rw [hj0] at hj
      have ea : h.objs.size = a := by simpa using hj
      have ej : j = as.length := by omega
      subst ea; subst ej
      exact ⟨vs, hv, e⟩
section
variable {prog : Program} {w : World} {A : Around} {s : Shared} {R : Result → Shared → Prop} {z S lo : Addr} {wr : List Addr} {n : Nat} {V : Nat → List Value → Prop} {St : Nat → Heap → Prop}
theorem loop (W : Gives prog w A.in1 z S wr n V St) (hn : n ≤ sizeLine) (hS : S < lo) (hw : ∀ b ∈ wr, b < lo) (hSw : S ∉ wr) (res : Value) {h₁ : Heap}
    (hR : ∀ h' tk acc c as, (∀ b o, b ≠ S → b ∉ wr → h₁.get? b = some o → h'.get? b = some o) → h'.get? S = some { cls := .type "list", dict := none, data := .seq acc c, slots := #[] } → as.length = n → Laid V lo h' as →
      acc.toList = as.map Value.ref → R (.ok (.ret res)) { s with heap := h', toks := tk }) :
    ∀ (k i : Nat) (h : Heap) (tk c : Nat) (acc : Array Value) (as : List Addr), n - i = k → i ≤ n → St i h → (∀ b o, b ≠ S → b ∉ wr → h₁.get? b = some o → h.get? b = some o) →
      h.get? S = some { cls := .type "list", dict := none, data := .seq acc c, slots := #[] } → acc.toList = as.map Value.ref → as.length = i → Laid V lo h as → lo ≤ h.objs.size →
      codeAny (model prog w) A (.builtin "list.extend.loop" ⟨[.ref S, .ref z, res], []⟩) R { s with heap := h, toks := tk } := by
  intro k
  induction k with
  | zero =>
    intro i h tk c acc as hk hi hst hkeep hSh hacc hal hG hlo
    have e : i = n := by omega
    subst e
    refine codeAny_builtin F.entry_extend_loop ?_
    rw [Around.under_plainId F.plain_extend_loop _]
    show wpAny _ A.in1 (pyNext (.ref z) >>= _) _ _ _
    refine wpAny_bind (W.done { s with heap := h, toks := tk } _ _ hst fun h' tk' he => ?_)
    exact wpAny_pure (hR h' tk' acc c as (fun b o h1 h2 e => he b o h2 (hkeep b o h1 h2 e)) (he S _ hSw hSh) hal (hG.keep hw he) hacc)
  | succ k ih =>
    intro i h tk c acc as hk hi hst hkeep hSh hacc hal hG hlo
    have hlt : i < n := by omega
    have hsz : acc.size = i := by rw [← Array.length_toList, hacc, List.length_map, hal]
    refine codeAny_builtin F.entry_extend_loop ?_
    rw [Around.under_plainId F.plain_extend_loop _]
    show wpAny _ A.in1 (pyNext (.ref z) >>= _) _ _ _
    refine wpAny_bind (W.item i { s with heap := h, toks := tk } _ _ hlt hst (Heap.lt_size hSh) fun vs h' tk' hv hst' ht hz hkp => ?_)
    dsimp only at ht hz hkp ⊢
    have hS' := hkp S _ hSw hSh
    have up : ∀ b o, b ≠ S → h'.get? b = some o → (h'.update S (Obj.mapSeq (·.push (Value.ref h.objs.size)))).get? b = some o := fun b o hb e => (Heap.get?_update_other _ _ (Ne.symm hb)).trans e
    have hSl : S < h.objs.size := Heap.lt_size hSh
    have wr2 : ∀ b ∈ (S :: wr), b < lo := fun b hb => by
      rcases List.mem_cons.mp hb with rfl | hb
      · exact hS
      · exact hw b hb
    have k2 : ∀ b o, b ∉ S :: wr → h.get? b = some o → (h'.update S (Obj.mapSeq (·.push (Value.ref h.objs.size)))).get? b = some o := fun b o hb e => by
      rw [List.mem_cons, not_or] at hb
      exact up b o hb.1 (hkp b o hb.2 e)
    show wpAny _ A.in1 (updateSeq S (·.push (Value.ref h.objs.size)) >>= _) _ _ _
    refine wpAny_bind ?_
    refine wpAny_updateSeq hS' rfl (wpAny_pure ⟨plainId_quiet F.plain_extend_loop _, ih (i + 1) _ tk' _ (acc.push (Value.ref h.objs.size)) (as ++ [h.objs.size]) (by omega) hlt (W.frame _ _ _ hst' up)
      (fun b o h1 h2 e => up b o h1 (hkp b o h2 (hkeep b o h1 h2 e))) (Heap.get?_update_self _ hS' rfl) (by rw [Array.toList_push, hacc, List.map_append]; rfl) (by rw [List.length_append, hal]; rfl)
      (hG.snoc hlo (hG.keep wr2 k2) (by rw [hal]; exact hv) (up _ _ (Nat.ne_of_gt hSl) ht)) ?_⟩) (by rw [hsz]; omega) (by show (acc.push (Value.ref h.objs.size)).size ≤ sizeLine + 1; rw [Array.size_push, hsz]; omega)
    have e : (h'.update S (Obj.mapSeq (·.push (Value.ref h.objs.size)))).get? h.objs.size = _ := up _ _ (Nat.ne_of_gt hSl) ht
    exact Nat.le_of_lt (Nat.lt_of_le_of_lt hlo (Heap.lt_size e))
theorem zip_nolen : typeLookup (.type "zip") "__len__" = pure none := by rw [typeLookup_type, builtinLookup_eq_fast]; kernel_rfl
theorem zip_nohint : typeLookup (.type "zip") "__length_hint__" = pure none := by rw [typeLookup_type, builtinLookup_eq_fast]; kernel_rfl
theorem ext (W : Gives prog w A.in1 z S wr n V St) (hn : n ≤ sizeLine) (hS : S < lo) (hw : ∀ b ∈ wr, b < lo) (hSw : S ∉ wr) (hSz : S ≠ z) (res : Value) (c₀ : Nat) (hst : St 0 s.heap) (hlo : lo ≤ s.heap.objs.size)
    (hSh : s.heap.get? S = some { cls := .type "list", data := .seq #[] c₀ })
    (hR : ∀ h' tk acc c as, (∀ b o, b ≠ S → b ∉ wr → s.heap.get? b = some o → h'.get? b = some o) → h'.get? S = some { cls := .type "list", dict := none, data := .seq acc c, slots := #[] } → as.length = n → Laid V lo h' as →
      acc.toList = as.map Value.ref → R (.ok (.ret res)) { s with heap := h', toks := tk }) :
    wpAny (model prog w) A.in1 (Builtin.List.listExtendWith (.ref S) (.ref z) res)
      (fun r s' => match r with | .done f => R (.ok f) s' | .again c' => c'.quiet = true ∧ codeAny (model prog w) A c' R s') (fun e s' => R (.error e) s') s := by
  have hT : s.TypeIs (.ref z) "zip" := W.sorts 0 _ hst
  unfold Builtin.List.listExtendWith
  refine wpAny_bind (wpAny_typeOf hT ?_)
  have h1 : Builtin.List.listSameRef (.ref S) (.ref z) = false := by simp [Builtin.List.listSameRef, hSz]
  have h2 : (Value.type "zip" == Value.type "list") = false := by decide
  have h3 : (Value.type "zip" == Value.type "tuple") = false := by decide
  simp only [h1, h2, h3, Bool.or_false, Bool.false_eq_true, if_false]
  refine wpAny_bind (W.self 0 _ _ _ rfl hst ?_)
  refine wpAny_bind (wpAny_holding ?_)
  unfold Builtin.List.listLengthHint
  refine wpAny_bind (wpAny_specialOf hT zip_nolen ?_)
  show wpAny _ A.in1 (specialOf (Value.ref z) (Str.ofString "__length_hint__") >>= _) _ _ _
  refine wpAny_bind (wpAny_specialOf hT zip_nohint (wpAny_pure ?_))
  show wpAny _ A.in1 (rule "list.extend.makes-room" >>= fun _ => Builtin.List.listTouch (.ref S) >>= fun _ => again (.builtin "list.extend.loop" ⟨[.ref S, .ref z, res], []⟩)) _ _ _
  refine wpAny_bind (wpAny_rule (wpAny_bind ?_))
  show wpAny _ A.in1 (updateSeq S (·.push .none) >>= fun _ => updateSeq S (·.pop)) _ _ _
  refine wpAny_bind (wpAny_updateSeq hSh rfl ?_)
  have hS2 := Heap.get?_update_self (Obj.mapSeq (·.push Value.none)) hSh rfl
  refine wpAny_updateSeq (hz := by seq_fits) hS2 rfl ?_
  have hS3 := Heap.get?_update_self (Obj.mapSeq (·.pop)) hS2 rfl
  have oth : ∀ b o, b ≠ S → s.heap.get? b = some o → ((s.heap.update S (Obj.mapSeq (·.push Value.none))).update S (Obj.mapSeq (·.pop))).get? b = some o :=
    fun b o hb e => (Heap.get?_update_other _ _ (Ne.symm hb)).trans ((Heap.get?_update_other _ _ (Ne.symm hb)).trans e)
  have hsz : lo ≤ ((s.heap.update S (Obj.mapSeq (·.push Value.none))).update S (Obj.mapSeq (·.pop))).objs.size := by rw [Heap.size_update, Heap.size_update]; exact hlo
  exact wpAny_pure ⟨plainId_quiet F.plain_extend_loop _, loop (s := s) (h₁ := s.heap) W hn hS hw hSw res hR n 0 _ s.toks _ _ [] rfl (Nat.zero_le _) (W.frame _ _ _ hst oth) (fun b o h1 _ e => oth b o h1 e) hS3 rfl rfl
    ⟨List.Pairwise.nil, (fun _ ha => nomatch ha), (fun j a hj => by simp at hj)⟩ hsz⟩
end
section
variable {prog : Program} {w : World} {A : Around} {E : Value → Shared → Prop} {s : Shared} {z : Addr} {wr : List Addr} {n : Nat} {V : Nat → List Value → Prop} {St : Nat → Heap → Prop}
theorem call_list {Q : Value → Shared → Prop} (W : Gives prog w A.in1.in1 z s.heap.objs.size wr n V St) (hn : n ≤ sizeLine) (hw : ∀ b ∈ wr, b < s.heap.objs.size) (hz : z < s.heap.objs.size) (hst : St 0 s.heap)
    (hQ : ∀ h' tk acc c as, (∀ b o, b ∉ wr → s.heap.get? b = some o → h'.get? b = some o) → h'.get? s.heap.objs.size = some { cls := .type "list", dict := none, data := .seq acc c, slots := #[] } → as.length = n → Laid V (s.heap.objs.size + 1) h' as →
      acc.toList = as.map Value.ref → Q (.ref s.heap.objs.size) { s with heap := h', toks := tk }) :
    wpAny (model prog w) A (call (.type "list") [.ref z]) Q E s := by
  refine callType_codes (Q₁ := fun obj s₁ => obj = .ref s.heap.objs.size ∧ s₁ = { s with heap := s.heap.push { cls := .type "list", data := .seq #[] } }) F.called_list (F.typeCall_list_1 _) F.entry_list_init
    (code_list_new _ ⟨rfl, rfl⟩) fun obj s₁ h₁ => ?_
  obtain ⟨rfl, rfl⟩ := h₁
  have hS : (s.heap.push { cls := .type "list", data := .seq #[] }).get? s.heap.objs.size = some { cls := .type "list", data := .seq #[] } := Heap.get?_push_size _ rfl
  refine ⟨⟨_, hS, rfl⟩, F.args_list_init_2 _ _, ?_⟩
  show wpAny _ A.in1.in1 (do let old ← Builtin.List.listItems (.ref s.heap.objs.size); Builtin.List.listUpdate (.ref s.heap.objs.size) (fun _ => #[]); letGo old.toList.reverse; Builtin.List.listExtendWith (.ref s.heap.objs.size) (.ref z) .none) _ _ _
  refine wpAny_bind ?_
  unfold Builtin.List.listItems
  refine wpAny_bind (wpAny_seqItems hS rfl (wpAny_pure ?_))
  show wpAny _ A.in1.in1 (updateSeq s.heap.objs.size (fun _ => #[]) >>= fun _ => letGo (#[] : Array Value).toList.reverse >>= fun _ => Builtin.List.listExtendWith (.ref s.heap.objs.size) (.ref z) .none) _ _ _
  refine wpAny_bind (wpAny_updateSeq hS rfl ?_)
  have hS2 := Heap.get?_update_self (Obj.mapSeq (fun _ => (#[] : Array Value))) hS rfl
  have ne : ∀ b o, s.heap.get? b = some o → b ≠ s.heap.objs.size := fun b o e => Nat.ne_of_lt (Heap.lt_size e)
  have oth : ∀ b o, b ≠ s.heap.objs.size → s.heap.get? b = some o → ((s.heap.push { cls := .type "list", data := .seq #[] }).update s.heap.objs.size (Obj.mapSeq (fun _ => (#[] : Array Value)))).get? b = some o :=
    fun b o hb e => (Heap.get?_update_other _ _ (Ne.symm hb)).trans (Heap.get?_push_of_some _ e)
  refine wpAny_bind (wpAny_letGo ?_)
  have hsz : ((s.heap.push { cls := .type "list", data := .seq #[] }).update s.heap.objs.size (Obj.mapSeq (fun _ => (#[] : Array Value)))).objs.size = s.heap.objs.size + 1 := by rw [Heap.size_update, Heap.size_push]
  refine ext (lo := s.heap.objs.size + 1) W hn (Nat.lt_succ_self _) (fun b hb => Nat.lt_succ_of_lt (hw b hb)) (fun m => Nat.lt_irrefl _ (hw _ m)) (Nat.ne_of_gt hz) .none _ (W.frame _ _ _ hst oth) (Nat.le_of_eq hsz.symm) hS2 fun h' tk acc c as hk hS' hl hG hacc => ?_
  exact ⟨rfl, hQ h' tk acc c as (fun b o hb e => hk b o (ne b o e) hb (oth b o (ne b o e) e)) hS' hl hG hacc⟩
end
end Zq

set_option maxHeartbeats 4000000
namespace Zq
open PySem PySem.W
section
variable {prog : Program} {w : World} {A : Around} {z TI TO S i1 i2 : Addr} {fp1 fp2 : List Addr} {n1 n2 : Nat} {P1 P2 : Nat → Value → Prop} {St1 St2 : Nat → Heap → Prop}
def Zs2 (z TI TO S i1 i2 : Addr) (St1 St2 : Nat → Heap → Prop) (i : Nat) (h : Heap) : Prop := ((i = 0 ∧ IsZip h z TI TO .none ∧ ∃ a1 a2, IsTupOf2 h TO a1 a2) ∨ ∃ T f oT, IsZipHeld h z TI TO T f ∧ h.get? T = some oT ∧ T ∉ [S, z, TO, i1, i2]) ∧ IsTupOf2 h TI (.ref i1) (.ref i2) ∧ St1 i h ∧ St2 i h
theorem gives2 (Z : ZipSep2 z TI TO i1 i2 fp1 fp2) (D1 : Draws prog w A.in1 i1 fp1 n1 P1 St1) (D2 : Draws prog w A.in1 i2 fp2 n2 P2 St2) (hz : S ≠ z) (hI : S ≠ TI) (hO : S ≠ TO) (hf1 : S ∉ fp1) (hf2 : S ∉ fp2) :
    Gives prog w A z S [z, TO, i1, i2] (min n1 n2) (fun i vs => ∃ x1 x2, vs = [x1, x2] ∧ P1 i x1 ∧ P2 i x2) (Zs2 z TI TO S i1 i2 St1 St2) where
  frame := fun i h h' ⟨hd, ht, s1, s2⟩ k => by
    refine ⟨?_, k _ _ hI.symm ht, D1.frame _ _ _ s1 fun b hb o e => k b o (fun q => hf1 (q ▸ hb)) e, D2.frame _ _ _ s2 fun b hb o e => k b o (fun q => hf2 (q ▸ hb)) e⟩
    rcases hd with ⟨h0, h1, a1, a2, h2⟩ | ⟨T, f, oT, h1, h2, h3⟩
    · exact .inl ⟨h0, k _ _ hz.symm h1, a1, a2, k _ _ hO.symm h2⟩
    · exact .inr ⟨T, f, oT, k _ _ hz.symm h1, k _ _ (fun q => h3 (by rw [q]; exact List.mem_cons_self)) h2, h3⟩
  item := fun i s Q E hi ⟨hd, ht, s1, s2⟩ hS hQ => by
    have lt1 : i < n1 := by omega
    have lt2 : i < n2 := by omega
    rcases hd with ⟨h0, h1, a1, a2, h2⟩ | ⟨T, f, oT, h1, h2, h3⟩
    · have lz : z < s.heap.objs.size := Heap.lt_size h1
      have lo : TO < s.heap.objs.size := Heap.lt_size h2
      obtain ⟨o1, ho1⟩ := D1.live _ _ s1
      obtain ⟨o2, ho2⟩ := D2.live _ _ s2
      refine wpAny_pyNext_zipD2_item Z D1 D2 h1 ht h2 s1 s2 lt1 lt2 fun x1 x2 h' tk y1 y2 b1 b2 d1 d2 b5 b6 b7 => ?_
      refine hQ [x1, x2] h' tk ⟨x1, x2, rfl, y1, y2⟩ ⟨.inr ⟨_, false, _, b1, b5, fun m => ?_⟩, b7 _ _ Z.TIz Z.TITO Z.TIi1 Z.TIi2 ht, d1, d2⟩ b5 b6 fun b o hb e => ?_
      · simp only [List.mem_cons, List.mem_nil_iff, or_false] at m
        rcases m with m | m | m | m | m
        · exact Nat.ne_of_gt hS m
        · exact Nat.ne_of_gt lz m
        · exact Nat.ne_of_gt lo m
        · exact Nat.ne_of_gt (Heap.lt_size ho1) m
        · exact Nat.ne_of_gt (Heap.lt_size ho2) m
      · simp only [List.mem_cons, List.mem_nil_iff, or_false, not_or] at hb
        obtain ⟨c1, c2, e1, e2⟩ := hb
        exact b7 b o c1 c2 e1 e2 e
    · have m3 := h3
      simp only [List.mem_cons, List.mem_nil_iff, or_false, not_or] at m3
      obtain ⟨m0, m1, m2, w1, w2⟩ := m3
      refine next_held2 Z D1 D2 h1 h2 ht s1 s2 lt1 lt2 fun x1 x2 h' tk y1 y2 b1 d1 d2 b5 b6 b7 => ?_
      refine hQ [x1, x2] h' tk ⟨x1, x2, rfl, y1, y2⟩ ⟨.inr ⟨T, true, oT, b1, b7 _ _ m1 w1 w2 h2, h3⟩, b7 _ _ Z.TIz Z.TIi1 Z.TIi2 ht, d1, d2⟩ b5 b6 fun b o hb e => ?_
      simp only [List.mem_cons, List.mem_nil_iff, or_false, not_or] at hb
      obtain ⟨c1, c2, e1, e2⟩ := hb
      exact b7 b o c1 e1 e2 e
  done := fun s Q E ⟨hd, ht, s1, s2⟩ hQ => by
    have le1 : (min n1 n2) ≤ n1 := by omega
    have le2 : (min n1 n2) ≤ n2 := by omega
    have he : (min n1 n2) = n1 ∨ (min n1 n2) = n2 := by omega
    rcases hd with ⟨h0, h1, a1, a2, h2⟩ | ⟨T, f, oT, h1, h2, h3⟩
    · refine wpAny_pyNext_zipD2_end Z D1 D2 h1 ht h2 s1 s2 le1 le2 he fun h' tk b7 => hQ h' tk fun b o hb e => ?_
      simp only [List.mem_cons, List.mem_nil_iff, or_false, not_or] at hb
      obtain ⟨c1, c2, e1, e2⟩ := hb
      exact b7 b o c1 c2 e1 e2 e
    · refine stop_held2 Z D1 D2 h1 h2 ht s1 s2 le1 le2 he fun h' tk b7 => hQ h' tk fun b o hb e => ?_
      simp only [List.mem_cons, List.mem_nil_iff, or_false, not_or] at hb
      obtain ⟨c1, c2, e1, e2⟩ := hb
      exact b7 b o c1 e1 e2 e
  sorts := fun i h ⟨hd, _⟩ => by
    rcases hd with ⟨_, h1, _⟩ | ⟨T, f, oT, h1, _⟩
    · exact ⟨_, h1, rfl⟩
    · exact ⟨_, h1, rfl⟩
  self := fun i s Q E h0 ⟨hd, _⟩ hQ => by
    rcases hd with ⟨_, h1, _⟩ | ⟨T, f, oT, h1, _⟩
    · exact wpAny_pyIter_zip h1 hQ
    · have hT : s.TypeIs (.ref z) "zip" := ⟨_, h1, rfl⟩
      refine wpAny_pyIter_slot hT F.slot_zip_iter (wpAny_call_entry F.slot_zip_iter hT F.entry_zip_iter ?_ (F.args_zip_iter_1 _))
      show wpAny _ _ (ret (.ref z)) _ _ s
      exact wpAny_pure ⟨_, rfl, "zip", _, hT, F.slot_zip_next.lookup, hQ⟩
end
section
variable {prog : Program} {w : World} {A : Around} {z TI TO S i1 i2 i3 : Addr} {fp1 fp2 fp3 : List Addr} {n1 n2 n3 : Nat} {P1 P2 P3 : Nat → Value → Prop} {St1 St2 St3 : Nat → Heap → Prop}
def Zs3 (z TI TO S i1 i2 i3 : Addr) (St1 St2 St3 : Nat → Heap → Prop) (i : Nat) (h : Heap) : Prop := ((i = 0 ∧ IsZip h z TI TO .none ∧ ∃ a1 a2 a3, IsTupOf3 h TO a1 a2 a3) ∨ ∃ T f oT, IsZipHeld h z TI TO T f ∧ h.get? T = some oT ∧ T ∉ [S, z, TO, i1, i2, i3]) ∧ IsTupOf3 h TI (.ref i1) (.ref i2) (.ref i3) ∧ St1 i h ∧ St2 i h ∧ St3 i h
theorem gives3 (Z : ZipSep3 z TI TO i1 i2 i3 fp1 fp2 fp3) (D1 : Draws prog w A.in1 i1 fp1 n1 P1 St1) (D2 : Draws prog w A.in1 i2 fp2 n2 P2 St2) (D3 : Draws prog w A.in1 i3 fp3 n3 P3 St3) (hz : S ≠ z) (hI : S ≠ TI) (hO : S ≠ TO) (hf1 : S ∉ fp1) (hf2 : S ∉ fp2) (hf3 : S ∉ fp3) :
    Gives prog w A z S [z, TO, i1, i2, i3] (min (min n1 n2) n3) (fun i vs => ∃ x1 x2 x3, vs = [x1, x2, x3] ∧ P1 i x1 ∧ P2 i x2 ∧ P3 i x3) (Zs3 z TI TO S i1 i2 i3 St1 St2 St3) where
  frame := fun i h h' ⟨hd, ht, s1, s2, s3⟩ k => by
    refine ⟨?_, k _ _ hI.symm ht, D1.frame _ _ _ s1 fun b hb o e => k b o (fun q => hf1 (q ▸ hb)) e, D2.frame _ _ _ s2 fun b hb o e => k b o (fun q => hf2 (q ▸ hb)) e, D3.frame _ _ _ s3 fun b hb o e => k b o (fun q => hf3 (q ▸ hb)) e⟩
    rcases hd with ⟨h0, h1, a1, a2, a3, h2⟩ | ⟨T, f, oT, h1, h2, h3⟩
    · exact .inl ⟨h0, k _ _ hz.symm h1, a1, a2, a3, k _ _ hO.symm h2⟩
    · exact .inr ⟨T, f, oT, k _ _ hz.symm h1, k _ _ (fun q => h3 (by rw [q]; exact List.mem_cons_self)) h2, h3⟩
  item := fun i s Q E hi ⟨hd, ht, s1, s2, s3⟩ hS hQ => by
    have lt1 : i < n1 := by omega
    have lt2 : i < n2 := by omega
    have lt3 : i < n3 := by omega
    rcases hd with ⟨h0, h1, a1, a2, a3, h2⟩ | ⟨T, f, oT, h1, h2, h3⟩
    · have lz : z < s.heap.objs.size := Heap.lt_size h1
      have lo : TO < s.heap.objs.size := Heap.lt_size h2
      obtain ⟨o1, ho1⟩ := D1.live _ _ s1
      obtain ⟨o2, ho2⟩ := D2.live _ _ s2
      obtain ⟨o3, ho3⟩ := D3.live _ _ s3
      refine wpAny_pyNext_zipD3_item Z D1 D2 D3 h1 ht h2 s1 s2 s3 lt1 lt2 lt3 fun x1 x2 x3 h' tk y1 y2 y3 b1 b2 d1 d2 d3 b5 b6 b7 => ?_
      refine hQ [x1, x2, x3] h' tk ⟨x1, x2, x3, rfl, y1, y2, y3⟩ ⟨.inr ⟨_, false, _, b1, b5, fun m => ?_⟩, b7 _ _ Z.TIz Z.TITO Z.TIi1 Z.TIi2 Z.TIi3 ht, d1, d2, d3⟩ b5 b6 fun b o hb e => ?_
      · simp only [List.mem_cons, List.mem_nil_iff, or_false] at m
        rcases m with m | m | m | m | m | m
        · exact Nat.ne_of_gt hS m
        · exact Nat.ne_of_gt lz m
        · exact Nat.ne_of_gt lo m
        · exact Nat.ne_of_gt (Heap.lt_size ho1) m
        · exact Nat.ne_of_gt (Heap.lt_size ho2) m
        · exact Nat.ne_of_gt (Heap.lt_size ho3) m
      · simp only [List.mem_cons, List.mem_nil_iff, or_false, not_or] at hb
        obtain ⟨c1, c2, e1, e2, e3⟩ := hb
        exact b7 b o c1 c2 e1 e2 e3 e
    · have m3 := h3
      simp only [List.mem_cons, List.mem_nil_iff, or_false, not_or] at m3
      obtain ⟨m0, m1, m2, w1, w2, w3⟩ := m3
      refine next_held3 Z D1 D2 D3 h1 h2 ht s1 s2 s3 lt1 lt2 lt3 fun x1 x2 x3 h' tk y1 y2 y3 b1 d1 d2 d3 b5 b6 b7 => ?_
      refine hQ [x1, x2, x3] h' tk ⟨x1, x2, x3, rfl, y1, y2, y3⟩ ⟨.inr ⟨T, true, oT, b1, b7 _ _ m1 w1 w2 w3 h2, h3⟩, b7 _ _ Z.TIz Z.TIi1 Z.TIi2 Z.TIi3 ht, d1, d2, d3⟩ b5 b6 fun b o hb e => ?_
      simp only [List.mem_cons, List.mem_nil_iff, or_false, not_or] at hb
      obtain ⟨c1, c2, e1, e2, e3⟩ := hb
      exact b7 b o c1 e1 e2 e3 e
  done := fun s Q E ⟨hd, ht, s1, s2, s3⟩ hQ => by
    have le1 : (min (min n1 n2) n3) ≤ n1 := by omega
    have le2 : (min (min n1 n2) n3) ≤ n2 := by omega
    have le3 : (min (min n1 n2) n3) ≤ n3 := by omega
    have he : (min (min n1 n2) n3) = n1 ∨ (min (min n1 n2) n3) = n2 ∨ (min (min n1 n2) n3) = n3 := by omega
    rcases hd with ⟨h0, h1, a1, a2, a3, h2⟩ | ⟨T, f, oT, h1, h2, h3⟩
    · refine wpAny_pyNext_zipD3_end Z D1 D2 D3 h1 ht h2 s1 s2 s3 le1 le2 le3 he fun h' tk b7 => hQ h' tk fun b o hb e => ?_
      simp only [List.mem_cons, List.mem_nil_iff, or_false, not_or] at hb
      obtain ⟨c1, c2, e1, e2, e3⟩ := hb
      exact b7 b o c1 c2 e1 e2 e3 e
    · refine stop_held3 Z D1 D2 D3 h1 h2 ht s1 s2 s3 le1 le2 le3 he fun h' tk b7 => hQ h' tk fun b o hb e => ?_
      simp only [List.mem_cons, List.mem_nil_iff, or_false, not_or] at hb
      obtain ⟨c1, c2, e1, e2, e3⟩ := hb
      exact b7 b o c1 e1 e2 e3 e
  sorts := fun i h ⟨hd, _⟩ => by
    rcases hd with ⟨_, h1, _⟩ | ⟨T, f, oT, h1, _⟩
    · exact ⟨_, h1, rfl⟩
    · exact ⟨_, h1, rfl⟩
  self := fun i s Q E h0 ⟨hd, _⟩ hQ => by
    rcases hd with ⟨_, h1, _⟩ | ⟨T, f, oT, h1, _⟩
    · exact wpAny_pyIter_zip h1 hQ
    · have hT : s.TypeIs (.ref z) "zip" := ⟨_, h1, rfl⟩
      refine wpAny_pyIter_slot hT F.slot_zip_iter (wpAny_call_entry F.slot_zip_iter hT F.entry_zip_iter ?_ (F.args_zip_iter_1 _))
      show wpAny _ _ (ret (.ref z)) _ _ s
      exact wpAny_pure ⟨_, rfl, "zip", _, hT, F.slot_zip_next.lookup, hQ⟩
end
end Zq

set_option maxHeartbeats 4000000
namespace Lg
open PySem PySem.Spec PyProof.Rows L2
/-! ### list(zip(..)) -/
theorem addr_ne {a b : Nat} (h : a ≠ b) : (show Addr from a) ≠ (show Addr from b) := h
theorem low_out {b N : Nat} {L : List Addr} (h : b < N) (hl : ∀ x ∈ L, @LE.le Nat _ N x) : (show Addr from b) ∉ L := fun m => Nat.lt_irrefl _ (Nat.lt_of_lt_of_le h (hl b m))
def updAll (H : Hp) : List (Addr × List V) → Hp
  | [] => H
  | p :: r => updAll (upd H p.1 (.tup p.2)) r
structure NewT (H : Hp) (ps : List (Addr × List V)) (S : Addr) : Prop where
  nd : (S :: ps.map (·.1)).Nodup
  new : ∀ a ∈ S :: ps.map (·.1), H a = none
theorem NewT.out {H : Hp} {ps : List (Addr × List V)} {S : Addr} (h : NewT H ps S) : S ∉ ps.map (·.1) := (List.nodup_cons.mp h.nd).1
theorem NewT.tail {H : Hp} {ps : List (Addr × List V)} {S : Addr} (h : NewT H ps S) : (ps.map (·.1)).Nodup ∧ ∀ a ∈ ps.map (·.1), H a = none := ⟨(List.nodup_cons.mp h.nd).2, fun a ha => h.new a (List.mem_cons_of_mem _ ha)⟩
theorem updAll_ne {a : Addr} : ∀ (H : Hp) (ps : List (Addr × List V)), a ∉ ps.map (·.1) → updAll H ps a = H a
  | _, [], _ => rfl
  | H, p :: r, h => by
    rw [List.map_cons, List.mem_cons, not_or] at h
    show updAll (upd H p.1 (.tup p.2)) r a = H a
    rw [updAll_ne _ r h.2, upd_ne h.1]
theorem gr_all {K : PySem.W.Frag} {W : Wd} : ∀ {Hi H : Hp}, WI W Hi H → ∀ (ps : List (Addr × List V)) (Rs : List (List Ty)), ((ps.map (·.1)).Nodup ∧ ∀ a ∈ ps.map (·.1), H a = none) → Rs.length = ps.length → (∀ (j : Nat) p R, ps[j]? = some p → Rs[j]? = some R → TsP R p.2 Hi) →
    ∃ Hi', Gr W Hi H Hi' (updAll H ps) ∧ TsP (Rs.map (tTup K)) (ps.map fun p => .ref p.1) Hi'
  | Hi, H, w, [], [], _, _, _ => ⟨Hi, Gr.refl w, trivial⟩
  | Hi, H, w, p :: ps, R :: Rs, hn, hl, ht => by
    obtain ⟨nd, nw⟩ := hn
    rw [List.map_cons] at nd nw
    have nd := List.nodup_cons.mp nd
    have g := Gr.new (o := .tup p.2) w (nw _ List.mem_cons_self)
    obtain ⟨Hi', g', t'⟩ := gr_all (K := K) g.wi ps Rs ⟨nd.2, fun a ha => by
      rw [upd_ne (show a ≠ p.1 from fun z => nd.1 (z ▸ ha))]
      exact nw a (List.mem_cons_of_mem _ ha)⟩ (Nat.succ.inj hl) fun j q S hq hS => (ht (j + 1) q S (by simpa using hq) (by simpa using hS)).mo g.le
    exact ⟨Hi', g.trans g', ⟨⟨p.1, p.2, rfl, g'.le.sqT (SqT.of upd_same), (ht 0 p R rfl rfl).mo (g.trans g').le⟩, t'⟩⟩
  | _, _, _, [], _ :: _, _, hl, _ => nomatch hl
  | _, _, _, _ :: _, [], _, hl, _ => nomatch hl
theorem vals_refs : ∀ ps : List (Addr × List V), Vals (ps.map fun p => .ref p.1) (ps.map (Value.ref ∘ fun p => p.1))
  | [] => .nil
  | _ :: ps => .cons rfl (vals_refs ps)
theorem inv_all {X : Cx} {pins : List (Addr × Obj)} {σ : L2.St} {s : Shared} {H0 : Hp} {h2 : Heap} {tk : Nat} (I0 : Inv X pins σ H0 s) : ∀ {H : Hp}, Inv X pins σ H { s with heap := h2, toks := tk } → ∀ ps : List (Addr × List V), (ps.map (·.1)).Nodup →
    (∀ p ∈ ps, s.heap.objs.size ≤ p.1 ∧ H p.1 = none ∧ (∃ vs, Vals p.2 vs ∧ h2.get? p.1 = some { cls := .type "tuple", data := .seq vs.toArray }) ∧ p.2.length ≤ sizeLine) → Inv X pins σ (updAll H ps) { s with heap := h2, toks := tk }
  | _, I, [], _, _ => I
  | H, I, p :: ps, nd, h => by
    rw [List.map_cons] at nd
    have nd := List.nodup_cons.mp nd
    obtain ⟨h1, h3, ⟨vs, hv, hg⟩, h4⟩ := h p List.mem_cons_self
    have I' : Inv X pins σ (upd H p.1 (.tup p.2)) { s with heap := h2, toks := tk } := I.take (h' := h2) (t' := tk) (fun b ob _ e => e) (I0.fpOk h1 h3) ⟨h4, vs, hv, ⟨_, hg, rfl, 0, rfl⟩⟩
    exact inv_all I0 I' ps nd.2 fun q hq => by
      obtain ⟨k1, k2, k3⟩ := h q (List.mem_cons_of_mem _ hq)
      exact ⟨k1, by rw [upd_ne (show q.1 ≠ p.1 from fun z => nd.1 (z ▸ List.mem_map.mpr ⟨q, hq, rfl⟩))]; exact k2, k3⟩
theorem rows_of {V' : Nat → List Value → Prop} {lo : Addr} {h : Heap} {C : Nat → List V → Prop} : ∀ {as : List Addr}, Zq.Laid V' lo h as → (∀ j vs, V' j vs → ∃ row, C j row ∧ Vals row vs) →
    ∃ ps : List (Addr × List V), ps.map (·.1) = as ∧ ∀ (j : Nat) p, ps[j]? = some p → C j p.2 ∧ ∃ vs, Vals p.2 vs ∧ h.get? p.1 = some { cls := .type "tuple", data := .seq vs.toArray } := by
  intro as hG hV
  have pick : ∀ (j : Nat) (a : Addr), as[j]? = some a → ∃ row, C j row ∧ ∃ vs, Vals row vs ∧ h.get? a = some { cls := .type "tuple", data := .seq vs.toArray } := fun j a hj => by
    obtain ⟨vs, h1, h2⟩ := hG.rows j a hj
    obtain ⟨row, h3, h4⟩ := hV j vs h1
    exact ⟨row, h3, vs, h4, h2⟩
  clear hG hV
  have step : ∀ (as : List Addr) (k : Nat), (∀ (j : Nat) (a : Addr), as[j]? = some a → ∃ row, C (k + j) row ∧ ∃ vs, Vals row vs ∧ h.get? a = some { cls := .type "tuple", data := .seq vs.toArray }) →
      ∃ ps : List (Addr × List V), ps.map (·.1) = as ∧ ∀ (j : Nat) p, ps[j]? = some p → C (k + j) p.2 ∧ ∃ vs, Vals p.2 vs ∧ h.get? p.1 = some { cls := .type "tuple", data := .seq vs.toArray } := by
    intro as
    induction as with
    | nil => exact fun k _ => ⟨[], rfl, fun j p hj => by simp at hj⟩
    | cons a as ih =>
      intro k hp
      obtain ⟨row, h1, h2⟩ := hp 0 a rfl
      obtain ⟨ps, h3, h4⟩ := ih (k + 1) fun j b hj => by
        have := hp (j + 1) b (by simpa using hj)
        rw [show k + 1 + j = k + (j + 1) by omega]
        exact this
      refine ⟨(a, row) :: ps, by rw [List.map_cons, h3], fun j p hj => ?_⟩
      cases j with
      | zero =>
        have e : (a, row) = p := by simpa using hj
        subst e
        exact ⟨h1, h2⟩
      | succ j =>
        have := h4 j p (by simpa using hj)
        rw [show k + 1 + j = k + (j + 1) by omega] at this
        exact this
  obtain ⟨ps, h1, h2⟩ := step as 0 fun j a hj => by rw [Nat.zero_add]; exact pick j a hj
  exact ⟨ps, h1, fun j p hj => by have := h2 j p hj; rw [Nat.zero_add] at this; exact this⟩
/-- list(zip(..)) over 3 tuples -/
def tLz3T (K : PySem.W.Frag) (ta : TA) : TE := fun σ H Q => ta σ H fun vs H1 => ∃ a1 a2 a3 xs1 xs2 xs3, vs = [.ref a1, .ref a2, .ref a3] ∧ SqT K H1 a1 xs1 ∧ SqT K H1 a2 xs2 ∧ SqT K H1 a3 xs3 ∧ ∀ (ps : List (Addr × List V)) (S : Addr), NewT H1 ps S → ps.length = (min (min xs1.length xs2.length) xs3.length) →
  (∀ (j : Nat) (p : Addr × List V), ps[j]? = some p → ∃ x1 x2 x3, xs1[j]? = some x1 ∧ xs2[j]? = some x2 ∧ xs3[j]? = some x3 ∧ p.2 = [x1, x2, x3]) → Q (.ref S) (upd (updAll H1 ps) S (.lst (ps.map fun p => .ref p.1)))
theorem pe_lz3T {X : Cx} {e1 e2 e3 : Expr} {ta : TA} {p p' q pos : Pos} (hc : X.calm = true) (hg : Gl X "list") (hm : X.mg "list" = none) (hg' : Gl X "zip") (hm' : X.mg "zip" = none) (ha : PA X [e1, e2, e3] ta)
    (hs : starEach [e1, e2, e3] X.env = (false, eval e1 X.env) :: starEach [e2, e3] X.env) (hpl : (backTo q (starEach [e2, e3] X.env)).any (·.1) = false)
    (na : starEach [.Call (.Name "zip" p') [e1, e2, e3] [] q] X.env = (false, eval (.Call (.Name "zip" p') [e1, e2, e3] [] q) X.env) :: starEach [] X.env) :
    PE X (.Call (.Name "list" p) [.Call (.Name "zip" p') [e1, e2, e3] [] q] [] pos) (tLz3T X.K ta) := by
  refine ⟨fun pins s σ H Q I h => ?_⟩
  refine Call_ (ld_blt I hg hm PyProof.Rows.boot_list (PyProof.Rows.callWith_type1 (args_cons (Call_ (ld_blt (I.tok _) hg' hm' PyProof.Rows.boot_zip (PyProof.Rows.callWith_type1 (thn (ha.run q pins _ σ H _ (I.tok _) h) fun us s1 ⟨vs, H1, I1, r1, q1⟩ => ?_) hs hpl))) na) na))
  obtain ⟨a1, a2, a3, xs1, xs2, xs3, ex, w1, w2, w3, q1⟩ := q1
  subst ex
  cases r1 with
  | cons r1 rr =>
  cases rr with
  | cons r2 rr =>
  cases rr with
  | cons r3 rr =>
  cases rr
  cases r1
  cases r2
  cases r3
  obtain ⟨t1, v1, b1, zz1⟩ := I1.tuple w1
  have b1 : s1.heap.IsTuple a1 t1.toArray := b1
  obtain ⟨o1, ho1, ro1⟩ := id b1
  have l1 : @LT.lt Nat _ a1 s1.heap.objs.size := Heap.lt_size ho1
  obtain ⟨t2, v2, b2, zz2⟩ := I1.tuple w2
  have b2 : s1.heap.IsTuple a2 t2.toArray := b2
  obtain ⟨o2, ho2, ro2⟩ := id b2
  have l2 : @LT.lt Nat _ a2 s1.heap.objs.size := Heap.lt_size ho2
  obtain ⟨t3, v3, b3, zz3⟩ := I1.tuple w3
  have b3 : s1.heap.IsTuple a3 t3.toArray := b3
  obtain ⟨o3, ho3, ro3⟩ := id b3
  have l3 : @LT.lt Nat _ a3 s1.heap.objs.size := Heap.lt_size ho3
  have hh : X.A.handled = none := I1.ok.hd hc
  refine zip_begins3 (begins_tuple a1 t1.toArray) (begins_tuple a2 t2.toArray) (begins_tuple a3 t3.toArray) b1 b2 b3 fun h' hz hTI hTO g1 g2 g3 hsz hk => args_nil ?_
  have hsz : h'.objs.size = s1.heap.objs.size + 6 := hsz
  have nn : ∀ c : Nat, c < s1.heap.objs.size → h'.objs.size ≠ c := fun c hc z => by rw [hsz] at z; omega
  have dr : ∀ A : Around, A.handled = none → Zq.Gives X.prog X.w A (s1.heap.objs.size + 5) h'.objs.size [s1.heap.objs.size + 5, s1.heap.objs.size + 4, s1.heap.objs.size, s1.heap.objs.size + 1, s1.heap.objs.size + 2] _ _ _ := fun A hA =>
    Zq.gives3 (zip_sep3 (N := s1.heap.objs.size) (fp1 := [a1]) (fp2 := [a2]) (fp3 := [a3]) (fun b hb => by rw [List.mem_singleton.mp hb]; exact l1) (fun b hb => by rw [List.mem_singleton.mp hb]; exact l2) (fun b hb => by rw [List.mem_singleton.mp hb]; exact l3)) (Draws.tuple (A := A.in1) hA s1.heap.objs.size a1 (Nat.ne_of_lt l1) t1.toArray) (Draws.tuple (A := A.in1) hA (s1.heap.objs.size + 1) a2 (Nat.ne_of_lt (Nat.lt_of_lt_of_le l2 (Nat.le_add_right _ _))) t2.toArray) (Draws.tuple (A := A.in1) hA (s1.heap.objs.size + 2) a3 (Nat.ne_of_lt (Nat.lt_of_lt_of_le l3 (Nat.le_add_right _ _))) t3.toArray) (addr_ne (by rw [hsz]; omega)) (addr_ne (by rw [hsz]; omega)) (addr_ne (by rw [hsz]; omega)) (by simp only [List.mem_cons, List.mem_nil_iff, or_false, not_or]; exact ⟨addr_ne (by rw [hsz]; omega), nn _ l1⟩) (by simp only [List.mem_cons, List.mem_nil_iff, or_false, not_or]; exact ⟨addr_ne (by rw [hsz]; omega), nn _ l2⟩) (by simp only [List.mem_cons, List.mem_nil_iff, or_false, not_or]; exact ⟨addr_ne (by rw [hsz]; omega), nn _ l3⟩)
  have hle : (min (min t1.toArray.size t2.toArray.size) t3.toArray.size) ≤ sizeLine := Nat.le_trans (by simp only [List.size_toArray]; omega) (v1.length ▸ zz1 : t1.length ≤ sizeLine)
  refine Zq.call_list (s := { s1 with heap := h' }) (dr _ hh) hle (fun b hb => ?_) (by show _ < h'.objs.size; rw [hsz]; omega) ⟨.inl ⟨rfl, hz, _, _, _, hTO⟩, hTI, ⟨⟨_, g1, rfl, rfl⟩, ⟨o1, hk _ _ ho1, ro1⟩⟩, ⟨⟨_, g2, rfl, rfl⟩, ⟨o2, hk _ _ ho2, ro2⟩⟩, ⟨⟨_, g3, rfl, rfl⟩, ⟨o3, hk _ _ ho3, ro3⟩⟩⟩ fun h2 tk acc c as hk2 hS hal hG hacc => ?_
  · simp only [List.mem_cons, List.mem_nil_iff, or_false] at hb
    show @LT.lt Nat _ b h'.objs.size
    rw [hsz]
    rcases hb with hb | hb | hb | hb | hb <;> (rw [hb]; first | exact Nat.lt_add_of_pos_right (by decide) | exact Nat.add_lt_add_left (by decide) _)
  have low : ∀ b o, s1.heap.get? b = some o → h2.get? b = some o := fun b o e => hk2 b o (low_out (Heap.lt_size e) (by intro x hx; simp only [List.mem_cons, List.mem_nil_iff, or_false] at hx; rcases hx with hx | hx | hx | hx | hx <;> (rw [hx]; first | exact Nat.le_refl _ | exact Nat.le_add_right _ _))) (hk b o e)
  have I2 : Inv X pins σ H1 { s1 with heap := h2, toks := tk } := I1.kept (t' := tk) low
  have hG' := hG
  have hrow : ∀ (j : Nat) (vs : List Value), (∃ x1 x2 x3, vs = [x1, x2, x3] ∧ t1.toArray[j]? = some x1 ∧ t2.toArray[j]? = some x2 ∧ t3.toArray[j]? = some x3) → ∃ row, (∃ x1 x2 x3, xs1[j]? = some x1 ∧ xs2[j]? = some x2 ∧ xs3[j]? = some x3 ∧ row = [x1, x2, x3]) ∧ Vals row vs := fun j vs ⟨u1, u2, u3, ev, d1, d2, d3⟩ => by
    obtain ⟨y1, q1, z1⟩ := L2.DX.pget v1 (by simpa using d1)
    obtain ⟨y2, q2, z2⟩ := L2.DX.pget v2 (by simpa using d2)
    obtain ⟨y3, q3, z3⟩ := L2.DX.pget v3 (by simpa using d3)
    exact ⟨[y1, y2, y3], ⟨y1, y2, y3, q1, q2, q3, rfl⟩, by subst ev; exact (.cons z1 (.cons z2 (.cons z3 .nil)))⟩
  obtain ⟨ps, e1, e2⟩ := rows_of (h := h2) (lo := h'.objs.size + 1) (C := fun j row => ∃ x1 x2 x3, xs1[j]? = some x1 ∧ xs2[j]? = some x2 ∧ xs3[j]? = some x3 ∧ row = [x1, x2, x3]) hG hrow
  · have hf : h'.objs.size < h2.objs.size := Heap.lt_size hS
    have fr : ∀ a ∈ as, s1.heap.objs.size ≤ a := fun a ha => by have := hG.above a ha; have : h'.objs.size + 1 ≤ a := this; omega
    have nds : h'.objs.size ∉ ps.map (·.1) := fun m => by rw [e1] at m; have := hG.above _ m; have : h'.objs.size + 1 ≤ h'.objs.size := this; omega
    have nda : (ps.map (·.1)).Nodup := by rw [e1]; exact hG.rise.imp fun h => Nat.ne_of_lt h
    have fre : ∀ a ∈ ps.map (·.1), H1 a = none := fun a ha => I1.hok.fresh (fr a (e1 ▸ ha))
    have hS0 : H1 h'.objs.size = none := I1.hok.fresh (show s1.heap.objs.size ≤ h'.objs.size by rw [hsz]; omega)
    have I3 := inv_all (h2 := h2) (tk := tk) I1 I2 ps nda (fun p hp => ⟨fr _ (e1 ▸ List.mem_map.mpr ⟨p, hp, rfl⟩), fre _ (List.mem_map.mpr ⟨p, hp, rfl⟩), by
      obtain ⟨j, hj⟩ := List.mem_iff_getElem?.mp hp
      obtain ⟨⟨_, _, _, _, _, _, q3⟩, q2⟩ := e2 j p hj
      exact ⟨q2, by rw [q3, sizeLine_eq]; exact Nat.le_of_ble_eq_true rfl⟩⟩)
    have hlen : ps.length = as.length := by rw [← e1, List.length_map]
    have hn : ps.length = (min (min xs1.length xs2.length) xs3.length) := by
      rw [hlen, hal]
      simp only [List.size_toArray]
      rw [v1.length, v2.length, v3.length]
    have hS1 : updAll H1 ps h'.objs.size = none := by rw [updAll_ne _ _ nds]; exact hS0
    refine ⟨.ref h'.objs.size, _, I3.take (h' := h2) (t' := tk) (fun b ob _ e => e) (I1.fpOk (show s1.heap.objs.size ≤ h'.objs.size by rw [hsz]; omega) hS1) (show ObjOk X.prog X.w _ h2 h'.objs.size (.lst (ps.map fun p => .ref p.1)) from ⟨?_, acc.toList, c, ?_, ?_⟩), rfl, q1 ps h'.objs.size ⟨List.nodup_cons.mpr ⟨nds, nda⟩, fun a ha => ?_⟩ hn fun j p hj => (e2 j p hj).1⟩
    · rw [List.length_map, hlen, hal]; exact hle
    · rw [hacc, ← e1, List.map_map]
      exact vals_refs ps
    · rw [Array.toArray_toList]; exact hS
    · rcases List.mem_cons.mp ha with rfl | ha
      · exact hS0
      · exact fre a ha
theorem xn_lz3T {c : Cst} {sc : Scope} {G : Gm} {e1 e2 e3 : Expr} {T1 T2 T3 : Ty} {Us1 Us2 Us3 : List Ty} {Rs : List (List Ty)} {p p' q pos : Pos} (hm : c.b.mg "list" = none) (hm' : c.b.mg "zip" = none) (s1 : TpK c.b.K T1 Us1) (s2 : TpK c.b.K T2 Us2) (s3 : TpK c.b.K T3 Us3) (h1 : XE c sc G e1 T1) (h2 : XE c sc G e2 T2) (h3 : XE c sc G e3 T3)
    (hl : Rs.length = (min (min Us1.length Us2.length) Us3.length)) (hr : ∀ (j : Nat) (R : List Ty), Rs[j]? = some R → ∃ A1 A2 A3, Us1[j]? = some A1 ∧ Us2[j]? = some A2 ∧ Us3[j]? = some A3 ∧ R = [A1, A2, A3])
    (hg : sc.names.lookup ("list" : Str) = some .globalImplicit := by rfl) (hg' : sc.names.lookup ("zip" : Str) = some .globalImplicit := by rfl)
    (k1 : ∀ env, starEach [e1, e2, e3] env = (false, eval e1 env) :: starEach [e2, e3] env := by intro _; rfl) (k2 : ∀ env, starEach [e2, e3] env = (false, eval e2 env) :: starEach [e3] env := by intro _; rfl) (k3 : ∀ env, starEach [e3] env = (false, eval e3 env) :: starEach [] env := by intro _; rfl) (hpl : ∀ env, (backTo q (starEach [e2, e3] env)).any (·.1) = false := by intro _; rfl)
    (na : ∀ env, starEach [.Call (.Name "zip" p') [e1, e2, e3] [] q] env = (false, eval (.Call (.Name "zip" p') [e1, e2, e3] [] q) env) :: starEach [] env := by intro _; rfl) :
    XN c sc G (.Call (.Name "list" p) [.Call (.Name "zip" p') [e1, e2, e3] [] q] [] pos) (Rs.map (tTup c.b.K)) := fun X C σ Hi H w g => by
  refine eW_of (pe_lz3T C.calm (C.glo hg) (by rw [C.hm]; exact hm) (C.glo hg') (by rw [C.hm]; exact hm') (pa_cons eW_pe (pa_cons eW_pe (pa_cons eW_pe pa_nil (k3 _)) (k2 _)) (k1 _)) (k1 _) (hpl _) (na _)) ?_
  refine h1.use C w g fun y1 Hi1 H1 g1 d1 => h2.use C g1.wi (g.mo g1.le) fun y2 Hi2 H2 g2 d2 => h3.use C g2.wi (g.mo (g1.le.trans g2.le)) fun y3 Hi3 H3 g3 d3 => ?_
  obtain ⟨a1, xs1, rfl, q1, u1⟩ := s1 y1 Hi3 (T1.mo (g2.le.trans g3.le) d1)
  obtain ⟨a2, xs2, rfl, q2, u2⟩ := s2 y2 Hi3 (T2.mo g3.le d2)
  obtain ⟨a3, xs3, rfl, q3, u3⟩ := s3 y3 Hi3 d3
  refine ⟨a1, a2, a3, xs1, xs2, xs3, rfl, C.hK ▸ (Le.of g3.wi.same).sqT q1, C.hK ▸ (Le.of g3.wi.same).sqT q2, C.hK ▸ (Le.of g3.wi.same).sqT q3, fun ps S hN hL hP => ?_⟩
  have hRl : Rs.length = ps.length := by rw [hl, hL, u1.len, u2.len, u3.len]
  have hrow : ∀ (j : Nat) (p : Addr × List V) (R : List Ty), ps[j]? = some p → Rs[j]? = some R → TsP R p.2 Hi3 := fun j p R hj hR => by
    obtain ⟨x1, x2, x3, f1, f2, f3, e0⟩ := hP j p hj
    obtain ⟨B1, B2, B3, m1, m2, m3, e9⟩ := hr j R hR
    obtain ⟨z1, j1, n1⟩ := u1.get m1
    rw [f1] at j1
    cases j1
    obtain ⟨z2, j2, n2⟩ := u2.get m2
    rw [f2] at j2
    cases j2
    obtain ⟨z3, j3, n3⟩ := u3.get m3
    rw [f3] at j3
    cases j3
    rw [e0, e9]
    exact ⟨n1, n2, n3, trivial⟩
  obtain ⟨Hi9, g9, t9⟩ := gr_all (K := c.b.K) g3.wi ps Rs hN.tail hRl hrow
  exact RN.new (((g1.trans g2).trans g3).trans g9) w (by rw [updAll_ne _ _ hN.out]; exact hN.new _ List.mem_cons_self) t9
/-- list(zip(..)) over 2 lists -/
def tLz2L (K : PySem.W.Frag) (ta : TA) : TE := fun σ H Q => ta σ H fun vs H1 => ∃ a1 a2 xs1 xs2, vs = [.ref a1, .ref a2] ∧ SqL K H1 a1 xs1 ∧ SqL K H1 a2 xs2 ∧ ∀ (ps : List (Addr × List V)) (S : Addr), NewT H1 ps S → ps.length = (min xs1.length xs2.length) →
  (∀ (j : Nat) (p : Addr × List V), ps[j]? = some p → ∃ x1 x2, xs1[j]? = some x1 ∧ xs2[j]? = some x2 ∧ p.2 = [x1, x2]) → Q (.ref S) (upd (updAll H1 ps) S (.lst (ps.map fun p => .ref p.1)))
theorem pe_lz2L {X : Cx} {e1 e2 : Expr} {ta : TA} {p p' q pos : Pos} (hc : X.calm = true) (hg : Gl X "list") (hm : X.mg "list" = none) (hg' : Gl X "zip") (hm' : X.mg "zip" = none) (ha : PA X [e1, e2] ta)
    (hs : starEach [e1, e2] X.env = (false, eval e1 X.env) :: starEach [e2] X.env) (hpl : (backTo q (starEach [e2] X.env)).any (·.1) = false)
    (na : starEach [.Call (.Name "zip" p') [e1, e2] [] q] X.env = (false, eval (.Call (.Name "zip" p') [e1, e2] [] q) X.env) :: starEach [] X.env) :
    PE X (.Call (.Name "list" p) [.Call (.Name "zip" p') [e1, e2] [] q] [] pos) (tLz2L X.K ta) := by
  refine ⟨fun pins s σ H Q I h => ?_⟩
  refine Call_ (ld_blt I hg hm PyProof.Rows.boot_list (PyProof.Rows.callWith_type1 (args_cons (Call_ (ld_blt (I.tok _) hg' hm' PyProof.Rows.boot_zip (PyProof.Rows.callWith_type1 (thn (ha.run q pins _ σ H _ (I.tok _) h) fun us s1 ⟨vs, H1, I1, r1, q1⟩ => ?_) hs hpl))) na) na))
  obtain ⟨a1, a2, xs1, xs2, ex, w1, w2, q1⟩ := q1
  subst ex
  cases r1 with
  | cons r1 rr =>
  cases rr with
  | cons r2 rr =>
  cases rr
  cases r1
  cases r2
  obtain ⟨t1, v1, b1, zz1⟩ := I1.list w1
  have b1 : s1.heap.IsList a1 t1.toArray := b1.isList
  obtain ⟨o1, ho1, ro1⟩ := id b1
  have l1 : @LT.lt Nat _ a1 s1.heap.objs.size := Heap.lt_size ho1
  obtain ⟨t2, v2, b2, zz2⟩ := I1.list w2
  have b2 : s1.heap.IsList a2 t2.toArray := b2.isList
  obtain ⟨o2, ho2, ro2⟩ := id b2
  have l2 : @LT.lt Nat _ a2 s1.heap.objs.size := Heap.lt_size ho2
  have hh : X.A.handled = none := I1.ok.hd hc
  refine zip_begins2 (begins_list a1 t1.toArray) (begins_list a2 t2.toArray) b1 b2 fun h' hz hTI hTO g1 g2 hsz hk => args_nil ?_
  have hsz : h'.objs.size = s1.heap.objs.size + 5 := hsz
  have nn : ∀ c : Nat, c < s1.heap.objs.size → h'.objs.size ≠ c := fun c hc z => by rw [hsz] at z; omega
  have dr : ∀ A : Around, A.handled = none → Zq.Gives X.prog X.w A (s1.heap.objs.size + 4) h'.objs.size [s1.heap.objs.size + 4, s1.heap.objs.size + 3, s1.heap.objs.size, s1.heap.objs.size + 1] _ _ _ := fun A hA =>
    Zq.gives2 (zip_sep2 (N := s1.heap.objs.size) (fp1 := [a1]) (fp2 := [a2]) (fun b hb => by rw [List.mem_singleton.mp hb]; exact l1) (fun b hb => by rw [List.mem_singleton.mp hb]; exact l2)) (Draws.list (A := A.in1) hA s1.heap.objs.size a1 (Nat.ne_of_lt l1) t1.toArray) (Draws.list (A := A.in1) hA (s1.heap.objs.size + 1) a2 (Nat.ne_of_lt (Nat.lt_of_lt_of_le l2 (Nat.le_add_right _ _))) t2.toArray) (addr_ne (by rw [hsz]; omega)) (addr_ne (by rw [hsz]; omega)) (addr_ne (by rw [hsz]; omega)) (by simp only [List.mem_cons, List.mem_nil_iff, or_false, not_or]; exact ⟨addr_ne (by rw [hsz]; omega), nn _ l1⟩) (by simp only [List.mem_cons, List.mem_nil_iff, or_false, not_or]; exact ⟨addr_ne (by rw [hsz]; omega), nn _ l2⟩)
  have hle : (min t1.toArray.size t2.toArray.size) ≤ sizeLine := Nat.le_trans (by simp only [List.size_toArray]; omega) (v1.length ▸ zz1 : t1.length ≤ sizeLine)
  refine Zq.call_list (s := { s1 with heap := h' }) (dr _ hh) hle (fun b hb => ?_) (by show _ < h'.objs.size; rw [hsz]; omega) ⟨.inl ⟨rfl, hz, _, _,  hTO⟩, hTI, ⟨⟨_, g1, rfl, rfl⟩, ⟨o1, hk _ _ ho1, ro1⟩⟩, ⟨⟨_, g2, rfl, rfl⟩, ⟨o2, hk _ _ ho2, ro2⟩⟩⟩ fun h2 tk acc c as hk2 hS hal hG hacc => ?_
  · simp only [List.mem_cons, List.mem_nil_iff, or_false] at hb
    show @LT.lt Nat _ b h'.objs.size
    rw [hsz]
    rcases hb with hb | hb | hb | hb <;> (rw [hb]; first | exact Nat.lt_add_of_pos_right (by decide) | exact Nat.add_lt_add_left (by decide) _)
  have low : ∀ b o, s1.heap.get? b = some o → h2.get? b = some o := fun b o e => hk2 b o (low_out (Heap.lt_size e) (by intro x hx; simp only [List.mem_cons, List.mem_nil_iff, or_false] at hx; rcases hx with hx | hx | hx | hx <;> (rw [hx]; first | exact Nat.le_refl _ | exact Nat.le_add_right _ _))) (hk b o e)
  have I2 : Inv X pins σ H1 { s1 with heap := h2, toks := tk } := I1.kept (t' := tk) low
  have hG' := hG
  have hrow : ∀ (j : Nat) (vs : List Value), (∃ x1 x2, vs = [x1, x2] ∧ t1.toArray[j]? = some x1 ∧ t2.toArray[j]? = some x2) → ∃ row, (∃ x1 x2, xs1[j]? = some x1 ∧ xs2[j]? = some x2 ∧ row = [x1, x2]) ∧ Vals row vs := fun j vs ⟨u1, u2, ev, d1, d2⟩ => by
    obtain ⟨y1, q1, z1⟩ := L2.DX.pget v1 (by simpa using d1)
    obtain ⟨y2, q2, z2⟩ := L2.DX.pget v2 (by simpa using d2)
    exact ⟨[y1, y2], ⟨y1, y2, q1, q2, rfl⟩, by subst ev; exact (.cons z1 (.cons z2 .nil))⟩
  obtain ⟨ps, e1, e2⟩ := rows_of (h := h2) (lo := h'.objs.size + 1) (C := fun j row => ∃ x1 x2, xs1[j]? = some x1 ∧ xs2[j]? = some x2 ∧ row = [x1, x2]) hG hrow
  · have hf : h'.objs.size < h2.objs.size := Heap.lt_size hS
    have fr : ∀ a ∈ as, s1.heap.objs.size ≤ a := fun a ha => by have := hG.above a ha; have : h'.objs.size + 1 ≤ a := this; omega
    have nds : h'.objs.size ∉ ps.map (·.1) := fun m => by rw [e1] at m; have := hG.above _ m; have : h'.objs.size + 1 ≤ h'.objs.size := this; omega
    have nda : (ps.map (·.1)).Nodup := by rw [e1]; exact hG.rise.imp fun h => Nat.ne_of_lt h
    have fre : ∀ a ∈ ps.map (·.1), H1 a = none := fun a ha => I1.hok.fresh (fr a (e1 ▸ ha))
    have hS0 : H1 h'.objs.size = none := I1.hok.fresh (show s1.heap.objs.size ≤ h'.objs.size by rw [hsz]; omega)
    have I3 := inv_all (h2 := h2) (tk := tk) I1 I2 ps nda (fun p hp => ⟨fr _ (e1 ▸ List.mem_map.mpr ⟨p, hp, rfl⟩), fre _ (List.mem_map.mpr ⟨p, hp, rfl⟩), by
      obtain ⟨j, hj⟩ := List.mem_iff_getElem?.mp hp
      obtain ⟨⟨_, _, _, _, q3⟩, q2⟩ := e2 j p hj
      exact ⟨q2, by rw [q3, sizeLine_eq]; exact Nat.le_of_ble_eq_true rfl⟩⟩)
    have hlen : ps.length = as.length := by rw [← e1, List.length_map]
    have hn : ps.length = (min xs1.length xs2.length) := by
      rw [hlen, hal]
      simp only [List.size_toArray]
      rw [v1.length, v2.length]
    have hS1 : updAll H1 ps h'.objs.size = none := by rw [updAll_ne _ _ nds]; exact hS0
    refine ⟨.ref h'.objs.size, _, I3.take (h' := h2) (t' := tk) (fun b ob _ e => e) (I1.fpOk (show s1.heap.objs.size ≤ h'.objs.size by rw [hsz]; omega) hS1) (show ObjOk X.prog X.w _ h2 h'.objs.size (.lst (ps.map fun p => .ref p.1)) from ⟨?_, acc.toList, c, ?_, ?_⟩), rfl, q1 ps h'.objs.size ⟨List.nodup_cons.mpr ⟨nds, nda⟩, fun a ha => ?_⟩ hn fun j p hj => (e2 j p hj).1⟩
    · rw [List.length_map, hlen, hal]; exact hle
    · rw [hacc, ← e1, List.map_map]
      exact vals_refs ps
    · rw [Array.toArray_toList]; exact hS
    · rcases List.mem_cons.mp ha with rfl | ha
      · exact hS0
      · exact fre a ha
theorem xn_lz2L {c : Cst} {sc : Scope} {G : Gm} {e1 e2 : Expr} {T1 T2 : Ty} {Us1 Us2 : List Ty} {Rs : List (List Ty)} {p p' q pos : Pos} (hm : c.b.mg "list" = none) (hm' : c.b.mg "zip" = none) (s1 : LsK c.b.K T1 Us1) (s2 : LsK c.b.K T2 Us2) (h1 : XE c sc G e1 T1) (h2 : XE c sc G e2 T2)
    (hl : Rs.length = (min Us1.length Us2.length)) (hr : ∀ (j : Nat) (R : List Ty), Rs[j]? = some R → ∃ A1 A2, Us1[j]? = some A1 ∧ Us2[j]? = some A2 ∧ R = [A1, A2])
    (hg : sc.names.lookup ("list" : Str) = some .globalImplicit := by rfl) (hg' : sc.names.lookup ("zip" : Str) = some .globalImplicit := by rfl)
    (k1 : ∀ env, starEach [e1, e2] env = (false, eval e1 env) :: starEach [e2] env := by intro _; rfl) (k2 : ∀ env, starEach [e2] env = (false, eval e2 env) :: starEach [] env := by intro _; rfl) (hpl : ∀ env, (backTo q (starEach [e2] env)).any (·.1) = false := by intro _; rfl)
    (na : ∀ env, starEach [.Call (.Name "zip" p') [e1, e2] [] q] env = (false, eval (.Call (.Name "zip" p') [e1, e2] [] q) env) :: starEach [] env := by intro _; rfl) :
    XN c sc G (.Call (.Name "list" p) [.Call (.Name "zip" p') [e1, e2] [] q] [] pos) (Rs.map (tTup c.b.K)) := fun X C σ Hi H w g => by
  refine eW_of (pe_lz2L C.calm (C.glo hg) (by rw [C.hm]; exact hm) (C.glo hg') (by rw [C.hm]; exact hm') (pa_cons eW_pe (pa_cons eW_pe pa_nil (k2 _)) (k1 _)) (k1 _) (hpl _) (na _)) ?_
  refine h1.use C w g fun y1 Hi1 H1 g1 d1 => h2.use C g1.wi (g.mo g1.le) fun y2 Hi2 H2 g2 d2 => ?_
  obtain ⟨a1, xs1, rfl, q1, u1⟩ := s1 y1 Hi2 (T1.mo g2.le d1)
  obtain ⟨a2, xs2, rfl, q2, u2⟩ := s2 y2 Hi2 d2
  refine ⟨a1, a2, xs1, xs2, rfl, C.hK ▸ (Le.of g2.wi.same).sqL q1, C.hK ▸ (Le.of g2.wi.same).sqL q2, fun ps S hN hL hP => ?_⟩
  have hRl : Rs.length = ps.length := by rw [hl, hL, u1.len, u2.len]
  have hrow : ∀ (j : Nat) (p : Addr × List V) (R : List Ty), ps[j]? = some p → Rs[j]? = some R → TsP R p.2 Hi2 := fun j p R hj hR => by
    obtain ⟨x1, x2, f1, f2, e0⟩ := hP j p hj
    obtain ⟨B1, B2, m1, m2, e9⟩ := hr j R hR
    obtain ⟨z1, j1, n1⟩ := u1.get m1
    rw [f1] at j1
    cases j1
    obtain ⟨z2, j2, n2⟩ := u2.get m2
    rw [f2] at j2
    cases j2
    rw [e0, e9]
    exact ⟨n1, n2, trivial⟩
  obtain ⟨Hi9, g9, t9⟩ := gr_all (K := c.b.K) g2.wi ps Rs hN.tail hRl hrow
  exact RN.new ((g1.trans g2).trans g9) w (by rw [updAll_ne _ _ hN.out]; exact hN.new _ List.mem_cons_self) t9
end Lg

set_option maxHeartbeats 4000000
namespace Zq
open PySem PySem.Spec PyProof.Rows L2
/-! ### set(list of ints), with its order -/
/-- a new set -/
abbrev nso (w : World) : Obj := { cls := .type "set", dict := none, data := .set #[] 0 (.fresh 0 0 (!w.params.followText "set-order")) }
section
variable {P : Program} {w : World} {A : Around} {E : Value → Shared → Prop} {s : Shared}
theorem init_setL {l : Addr} {items : Array Value} (ns : List Int) {B : Around} {R : Result → Shared → Prop} (hh : A.handled = none) (hl : s.heap.IsList l items) (hit : IntsAre items.toList ns) (hb : ns.length + 1 < scanBound)
    (h : ∀ h' tk c, SetR w h' s.heap.objs.size (fun j => decide (j ∈ ns)) c → c ≤ ns.length → (∀ b o, s.heap.get? b = some o → h'.get? b = some o) → R (.ok (.ret .none)) { s with heap := h', toks := tk }) :
    wpAny (model P w) A (Builtin.«set.__init__» ⟨[.ref s.heap.objs.size, .ref l], []⟩)
      (fun r s' => match r with | .done f => R (.ok f) s' | .again c' => c'.quiet = true ∧ codeAny (model P w) B c' R s') (fun e s' => R (.error e) s') { s with heap := s.heap.push (nso w) } := by
  have hn : items.size = ns.length := by
    have q := IntsAre.length hit
    rwa [Array.length_toList] at q
  have new : (s.heap.push (nso w)).get? s.heap.objs.size = some (nso w) := Heap.get?_push_size _ rfl
  obtain ⟨⟨ocls, odict, odata, oslots⟩, ho, hc, nl, hd⟩ := hl
  simp only at hc hd
  subst hc hd
  have lt : l < s.heap.objs.size := Heap.lt_size ho
  have ho2 : (s.heap.push (nso w)).get? l = some { cls := .type "list", dict := odict, data := .seq items nl, slots := oslots } := Heap.get?_push_of_some _ ho
  have hl2 : (s.heap.push (nso w)).IsList l items := ⟨_, ho2, rfl, nl, rfl⟩
  have f1 := F.sub_list_set
  have f2 := F.sub_list_frozenset
  have f3 : (Value.type "list" == Value.type "dict") = false := by decide
  have hsz : (s.heap.push (nso w)).objs.size = s.heap.objs.size + 1 := Heap.size_push ..
  unfold Builtin.«set.__init__» noKeywords Builtin.Frozenset.updateFrom
  generalize hPI : pyIter = PI
  wp_walk
  subst hPI
  refine wpAny_pyIter_list hl2 (wpAny_bind (wpAny_runValue ?_))
  have hv : ∀ (i : Nat) (v : Value), items[i]? = some v → ∃ k t, ns[i]? = some k ∧ v = .int k t := fun i v hv => by
    have hi : i < ns.length := by rw [← hn]; exact (Array.getElem?_eq_some_iff.mp hv).1
    obtain ⟨t, e⟩ := IntsAre.int_at hit i v (by rw [Array.getElem?_toList]; exact hv)
    exact ⟨ns[i], t, List.getElem?_eq_getElem hi, by rw [e, List.getD_eq_getElem?_getD, List.getElem?_eq_getElem hi] <;> rfl⟩
  have hlI : l ≠ (s.heap.push (nso w)).objs.size := by rw [hsz]; exact Nat.ne_of_lt (Nat.lt_succ_of_lt lt)
  have out : s.heap.objs.size ∉ [(s.heap.push (nso w)).objs.size, l] := by
    rw [hsz]
    simp only [List.mem_cons, List.not_mem_nil, or_false, not_or]
    exact ⟨Nat.ne_of_lt (Nat.lt_succ_self _), Nat.ne_of_gt lt⟩
  have new2 : ((s.heap.push (nso w)).push { cls := .type "list_iterator", data := .fields #[.ref l, .int 0 0] }).get? s.heap.objs.size = some (nso w) := Heap.get?_push_of_some _ new
  refine set_update_ints ((Walks.list (by simp [hh]) _ l hlI items).toS) s.heap.objs.size out ns hn hb hv (items.size - 0) 0 _ (by omega) (Nat.zero_le _) ⟨⟨_, Heap.get?_push_size _ rfl, rfl, rfl⟩, hl2.push _⟩ ⟨0, Nat.le_refl 0, setR_new_at new2⟩ ?_
  rintro ⟨h', g2, d2, tk', os2⟩ c' hm hc' hS'
  have e1 : g2 = s.gens := hm.gens
  have e2 : d2 = s.drawn := hm.drawn
  have e3 : os2 = s.os := hm.os
  subst e1 e2 e3
  rw [hn] at hc'
  show wpAny _ _ _ _ _ _
  refine wpAny_pure ?_
  show wpAny _ _ (ret Value.none) _ _ _
  refine wpAny_pure (h h' tk' c' hS' hc' fun b o e => ?_)
  have hb0 : b < s.heap.objs.size := Heap.lt_size e
  refine hm.heap b o ?_ (Heap.get?_push_of_some _ (Heap.get?_push_of_some _ e))
  rw [hsz]
  simp only [List.mem_cons, List.not_mem_nil, or_false, not_or]
  exact ⟨Nat.ne_of_lt hb0, Nat.ne_of_lt (Nat.lt_succ_of_lt hb0)⟩
theorem call_setL {l : Addr} {items : Array Value} (ns : List Int) {Q : Value → Shared → Prop} (hh : A.handled = none) (hl : s.heap.IsList l items) (hit : IntsAre items.toList ns) (hb : ns.length + 1 < scanBound)
    (h : ∀ (h' : Heap) (tk c : Nat), SetR w h' s.heap.objs.size (fun j => decide (j ∈ ns)) c → c ≤ ns.length → (∀ b o, s.heap.get? b = some o → h'.get? b = some o) → Q (.ref s.heap.objs.size) { s with heap := h', toks := tk }) :
    wpAny (model P w) A (call (.type "set") [.ref l]) Q E s := by
  obtain ⟨c0, tl0, g0⟩ := F.called_set.mro
  have g1 := F.called_set.made
  have g2 := F.called_set.sub
  refine wpAny_call (codeAny_of_tree ?_)
  show wpAny _ _ (callAny (.type "set") _) _ _ _
  refine wpAny_pure ⟨Code.quiet_builtin _ (by decide +kernel), codeAny_builtin F.entry_type_call ?_⟩
  rw [Around.under_plain (weight_type_call_type "set" [.ref l] []) rfl]
  have g3 := F.called_set.notType
  have g4 := F.called_set.canCreate
  have g5 := F.typeCall_set_1 (.ref l)
  repeat (any_goals (first | assumption | wp_step))
  refine codeAny_mono (code_set_led1 (.ref l) (E := E) (Q₁ := fun obj s₁ => obj = .ref s.heap.objs.size ∧ s₁ = { s with heap := s.heap.push (nso w) }) ⟨rfl, rfl⟩) fun r s₁ hr => ?_
  cases r with
  | error e => exact hr
  | ok fl =>
    cases fl with
    | ret obj =>
      obtain ⟨rfl, rfl⟩ := hr
      have new : (s.heap.push (nso w)).get? s.heap.objs.size = some (nso w) := Heap.get?_push_size _ rfl
      have hT : Shared.TypeIs { s with heap := s.heap.push (nso w) } (.ref s.heap.objs.size) "set" := ⟨_, new, rfl⟩
      have g6 := F.called_set.init.lookup
      have g7 := F.called_set.init.bind (.ref s.heap.objs.size)
      repeat (any_goals (first | assumption | wp_step))
      refine codeAny_mono (codeAny_call_builtin (R := wants (fun r s₂ => r = .none ∧ ∃ h' tk c, s₂ = { s with heap := h', toks := tk } ∧ SetR w h' s.heap.objs.size (fun j => decide (j ∈ ns)) c ∧ c ≤ ns.length ∧ (∀ b o, s.heap.get? b = some o → h'.get? b = some o)) E)
        F.called_set.init.plain F.entry_set_init (check_set_init_1 hT (init_setL (s := s) ns (by simp [hh]) hl hit hb fun h' tk c h1 h2 h3 => ⟨rfl, h', tk, c, rfl, h1, h2, h3⟩))) fun q s₂ hq => ?_
      cases q with
      | error e => exact hq
      | ok fq =>
        cases fq with
        | ret r =>
          obtain ⟨rfl, h', tk, c, rfl, h1, h2, h3⟩ := hq
          repeat (any_goals (first | assumption | wp_step))
          exact h _ _ _ h1 h2 h3
        | _ => exact hq.elim
    | _ => exact hr.elim
end
end Zq

set_option maxHeartbeats 4000000
namespace Zq
open PySem PySem.Spec PyProof.Rows L2
/-! ### enumerate over a tuple -/
/-- an iterator, and an enumerate over it -/
abbrev enh (h : Heap) (o : Obj) : Heap := (h.push o).push { cls := .type "enumerate", data := .fields #[.none, .bool false, .ref h.objs.size, rawInt 0, .none, .none] }
theorem meets_en1 {v : Value} {o : Obj} {H : Heap → Prop} (B : Begins v o H) :
    Meets (Builtin.«enumerate.__new__» ⟨[.type "enumerate", v], []⟩) (fun _ R s => H s.heap ∧ R (.ok (.ret (.ref (s.heap.push o).objs.size))) { s with heap := enh s.heap o }) :=
  .of_wp fun prog w A R s ⟨h1, h⟩ => by
    obtain ⟨hp, g, d, tk, os⟩ := s
    have f0 := sub_enumerate
    have f1 : ∀ {A' : Around} {E : Value → Shared → Prop} {Q : Value → Shared → Prop}, Q (.ref hp.objs.size) ⟨hp.push o, g, d, tk, os⟩ → wpAny (model prog w) A' (pyIter v) Q E ⟨hp, g, d, tk, os⟩ := fun q => B.iter _ _ _ _ ⟨hp, g, d, tk, os⟩ _ h1 q
    wp_walk using f1
    refine wpAny_stack_any fun st => wpAny_pure ?_
    split
    · rename_i c _ _ _ _ _
      cases (c == Value.type "enumerate") <;> (wp_walk using f1; exact ⟨_, rfl, h⟩)
    · wp_walk using f1
      exact ⟨_, rfl, h⟩
section
variable {prog : Program} {w : World} {A : Around} {E : Value → Shared → Prop} {s : Shared}
theorem begin_en1 {v : Value} {o : Obj} {H : Heap → Prop} {Q : Value → Shared → Prop} (B : Begins v o H) (h1 : H s.heap)
    (h : ∀ h', IsEnum h' (s.heap.objs.size + 1) s.heap.objs.size 0 .none → h'.get? s.heap.objs.size = some o → h'.objs.size = s.heap.objs.size + 2 → (∀ b u, s.heap.get? b = some u → h'.get? b = some u) → Q (.ref (s.heap.objs.size + 1)) { s with heap := h' }) :
    wpAny (model prog w) A (call (.type "enumerate") [v]) Q E s := by
  refine callType_new F.called_enumerate (by decide) (F.typeCall_enumerate_1 _) (F.newCall_enumerate_1 _) (fun obj => F.args_object_init_2 obj _) F.entry_enumerate_new (meets_en1 B) ⟨h1, ?_⟩
  have z : (s.heap.push o).objs.size = s.heap.objs.size + 1 := Heap.size_push ..
  have e : IsEnum (enh s.heap o) (s.heap.push o).objs.size s.heap.objs.size 0 .none := Heap.get?_push_size _ rfl
  show _ ∧ _
  rw [z] at e ⊢
  exact ⟨⟨_, e, rfl⟩, h _ e (Heap.get?_push_of_some _ (Heap.get?_push_size _ B.free)) (by rw [Heap.size_push, z]) fun b u x => Heap.get?_push_of_some _ (Heap.get?_push_of_some _ x)⟩
end
/-- the tuple at a, its items in new pairs -/
def IteT (K : PySem.W.Frag) (a : Addr) : It :=
  ⟨fun i H => ∃ (xs : List V) (x : V), SqT K H a xs ∧ xs[i]? = some x, fun i H v H' => ∃ T x, v = .ref T ∧ H T = none ∧ H' = upd H T (.tup [.int (i : Nat), x]) ∧ ∀ xs, SqT K H a xs → xs[i]? = some x, fun i H => ∃ xs : List V, SqT K H a xs ∧ xs.length ≤ i⟩
theorem turn_enT {P : Program} {w : World} {K : PySem.W.Frag} {elts : List Expr} {kk : Nat} {tpos : Pos} (a e it : Addr) (n1 : e ≠ it) (n2 : e ≠ a) (n3 : a ≠ it) :
    Turn P w K (.Tuple elts kk tpos) (IteT K a) [e, it] e (fun i h => (∃ old, IsEnum h e it ((i : Nat) : Int) old) ∧ h.IsTupleIter it a i) where
  mem := List.mem_cons_self
  obj := fun i h st b hb => by
    obtain ⟨⟨old, he⟩, ⟨o, ho, _, hd⟩⟩ := st
    rcases List.mem_cons.mp hb with z | z
    · rw [z]
      exact ⟨_, he, fun v q => nomatch q⟩
    · rw [List.mem_singleton.mp z]
      exact ⟨o, ho, fun v q => by rw [hd] at q; cases q⟩
  keep := fun i h h' st k => by
    obtain ⟨⟨old, he⟩, hi⟩ := st
    exact ⟨⟨old, k e List.mem_cons_self _ he⟩, hi.at fun o q => k it (List.mem_cons_of_mem _ List.mem_cons_self) o q⟩
  item := by
    rintro X rfl rfl rfl hc i pins s σ H E I hf ⟨⟨old, he⟩, hit⟩ ⟨xs, x, hq, hx⟩
    obtain ⟨its, rv, p, hz⟩ := I.tuple hq
    obtain ⟨u, hu, ru⟩ := rv.get hx
    have le : e < s.heap.objs.size := Heap.lt_size he
    have li : it < s.heap.objs.size := by obtain ⟨_, q, _⟩ := hit; exact Heap.lt_size q
    have hi : i < its.toArray.size := by
      rw [List.size_toArray]
      exact (List.getElem?_eq_some_iff.mp hu).1
    refine wpAny_pyNext_enum_itemD (Draws.tuple (A := X.A.in1) (I.ok.hd hc) it a n3 its.toArray) he ⟨hit, p⟩ hi n1 (by simp only [List.mem_cons, List.not_mem_nil, or_false, not_or]; exact ⟨n1, n2⟩) fun u' h' tk hu' ho st' hT hsz hk => ?_
    have e0 : u' = u := by
      have : its[i]? = some u' := by simpa using hu'
      rw [hu] at this
      exact (Option.some.inj this).symm
    subst e0
    refine ⟨_, rfl, wpAny_letOwnedTupleGo_enum (s := { s with heap := h', toks := tk + 1 }) ho fun h2 he2 sb => ?_⟩
    have hT2 : h2.get? s.heap.objs.size = some { cls := .type "tuple", data := .seq #[.int i tk, u'] } := (sb.2 _ (Nat.ne_of_gt le)).trans hT
    have kk : ∀ b ob, b ∉ [e, it] → s.heap.get? b = some ob → h2.get? b = some ob := fun b ob hb q => by
      simp only [List.mem_cons, List.not_mem_nil, or_false, not_or] at hb
      exact (sb.2 b hb.1).trans (hk b ob hb.1 hb.2 q)
    have I1 : Inv X pins σ (upd H s.heap.objs.size (.tup [.int (i : Nat), x])) { s with heap := h2, toks := tk + 1 } :=
      I.turnedNew (ch := [e, it]) kk hf (Nat.le_refl _) ⟨by show 2 ≤ sizeLine; decide, [.int i tk, u'], .cons ⟨_, rfl⟩ (.cons ru .nil), ⟨_, hT2, rfl, _, rfl⟩⟩
    refine ⟨.ref s.heap.objs.size, _, I1, rfl, ⟨_, x, rfl, I.hok.fresh (Nat.le_refl _), rfl, fun ys hy => I.tuple_inj hq hy ▸ hx⟩, ⟨⟨u', ?_⟩, st'.1.at fun o q => (sb.2 it (Ne.symm n1)).trans q⟩, fun b hb => ?_⟩
    · rw [show ((i + 1 : Nat) : Int) = (i : Int) + 1 by omega]
      exact he2
    · have lb : b < s.heap.objs.size := by
        rcases List.mem_cons.mp hb with z | z
        · exact z ▸ le
        · exact List.mem_singleton.mp z ▸ li
      rw [upd_ne (Nat.ne_of_lt lb)]
      exact (hf b hb).1
  done := by
    rintro X rfl rfl rfl hc i pins s σ H E I hf ⟨⟨old, he⟩, hit⟩ ⟨xs, hq, hx⟩
    obtain ⟨its, rv, p, hz⟩ := I.tuple hq
    obtain ⟨f0, f1, f2, f3, f4, f5⟩ := hf it (by simp)
    have hl := rv.length
    by_cases hin : i = its.toArray.size
    · subst hin
      exact wpAny_pyNext_enum_endD (Draws.tuple (A := X.A.in1) (I.ok.hd hc) it a n3 its.toArray) he ⟨hit, p⟩ fun h' eb => ⟨rfl, I.turned (t' := s.toks) (fun b o hb q => eb b o hb q) f0 f1 f3 f4 f5⟩
    · have h0 : its.toArray[i]? = none := by simp; omega
      have D0 : Draws X.prog X.w X.A.in1 it [it, a] i (fun _ _ => False) (fun j h => j = i ∧ h.IsTupleIter it a i ∧ h.IsTuple a its.toArray) :=
        ⟨fun _ _ st => let ⟨o, ho, _⟩ := st.2.1; ⟨o, ho⟩, fun _ _ _ st hk => ⟨st.1, st.2.1.at fun o e => hk it (by simp) o e, st.2.2.at fun o e => hk a (by simp) o e⟩, fun j s Q E hj st _ => absurd st.1 (Nat.ne_of_lt hj),
          fun s Q E st hE => wpAny_nextOf_tuple_end (I.ok.hd hc) st.2.1 st.2.2 h0 hE⟩
      exact wpAny_pyNext_enum_endD D0 he ⟨rfl, hit, p⟩ fun h' eb => ⟨rfl, I.turned (t' := s.toks) (fun b o hb q => eb b o hb q) f0 f1 f3 f4 f5⟩
  self := fun A i s Q E ⟨⟨_, he⟩, _⟩ h => wpAny_pyIter_enum he h
def iEnT (K : PySem.W.Frag) (ta : TA) : TI := fun σ H R => ta σ H fun vs H1 => ∃ a xs, vs = [.ref a] ∧ SqT K H1 a xs ∧ R (IteT K a) H1
theorem pi_enT {X : Cx} {e : Expr} {ta : TA} {p pos tpos : Pos} {elts : List Expr} {kk : Nat} (hg : Gl X "enumerate") (hm : X.mg "enumerate" = none) (ha : PA X [e] ta) (hs : starEach [e] X.env = [(false, eval e X.env)]) :
    PI X (.Tuple elts kk tpos) (.Call (.Name "enumerate" p) [e] [] pos) (iEnT X.K ta) := by
  refine ⟨fun pins s σ H R I h => ?_⟩
  refine Call_ (ld_blt I hg hm boot_enumerate (callWith_type1 (thn (ha.run pos pins s σ H _ I h) fun us s1 ⟨vs, H1, I1, r1, a, xs, ex, hq, q⟩ => ?_) hs rfl))
  subst ex
  cases r1 with
  | cons r rr =>
    cases rr
    cases r
    obtain ⟨its, rv, p', hz⟩ := I1.tuple hq
    have b1 : s1.heap.IsTuple a its.toArray := p'
    obtain ⟨o1, ho1, _⟩ := id b1
    have l1 : @LT.lt Nat _ a s1.heap.objs.size := Heap.lt_size ho1
    refine begin_en1 (begins_tuple a its.toArray) b1 fun h' he hit hsz hk => wpAny_pyIter_enum he ?_
    have I2 : Inv X pins σ H1 { s1 with heap := h' } := I1.kept (t' := s1.toks) hk
    refine ⟨s1.heap.objs.size + 1, [s1.heap.objs.size + 1, s1.heap.objs.size], _, _, H1, rfl, I2, turn_enT a (s1.heap.objs.size + 1) s1.heap.objs.size (Nat.succ_ne_self _) (Nat.ne_of_gt (Nat.lt_succ_of_lt l1)) (Nat.ne_of_lt l1), ⟨⟨.none, he⟩, ⟨_, hit, rfl, rfl⟩⟩, fun b hb => ?_, q⟩
    have hle : @LE.le Nat _ s1.heap.objs.size b := by
      rcases List.mem_cons.mp hb with z | z
      · rw [z]; exact Nat.le_add_right _ _
      · rw [List.mem_singleton.mp z]; exact Nat.le_refl _
    exact I1.fpOk hle (I1.hok.fresh hle)
end Zq
namespace Lg
open PySem PySem.Spec PyProof.Rows L2
section
variable {c : Cst} {sc : Scope} {G : Gm} {a : Expr} {T1 : Ty} {Ts : List Ty} {pos : Pos}
theorem xi_enumT {elts : List Expr} {kk : Nat} {tpos p : Pos} (hm : c.b.mg "enumerate" = none) (h1 : TpK c.b.K T1 Ts) (ha : XE c sc G a T1) (hg : sc.names.lookup ("enumerate" : Str) = some .globalImplicit := by rfl)
    (hs : ∀ env, starEach [a] env = [(false, eval a env)] := by intro _; rfl) :
    XI c sc G (.Tuple elts kk tpos) (.Call (.Name "enumerate" p) [a] [] pos) Ts.length (fun i => tTup c.b.K [tInt (i : Nat), tyAt Ts i]) := fun X C σ Hi H w g => by
  refine iW_of (Zq.pi_enT (C.glo hg) (by rw [C.hm]; exact hm) (pa_cons eW_pe pa_nil (hs _)) (hs _)) (ha.use C w g fun x Hi1 H1 g1 t1 => ?_)
  obtain ⟨l, xs, rfl, hl, ts⟩ := h1 x Hi1 t1
  refine ⟨l, xs, rfl, C.hK ▸ (Le.of g1.wi.same).sqT hl, Hi1, g1, fun Hi3 H3 l3 w3 => ?_⟩
  have q1 : SqT X.K H3 l xs := C.hK ▸ (Le.of w3.same).sqT (l3.sqT hl)
  have e1 := ts.len
  refine ⟨fun i hi => ?_, xs, q1, by omega⟩
  refine ⟨⟨xs, _, q1, List.getElem?_eq_getElem (by omega)⟩, fun v H' ⟨T, x, e, hT, e', f1⟩ => ?_⟩
  subst e; subst e'
  exact pair_ok w3 hT rfl (yat_ok w3 (ts.mo l3) (by omega) (f1 xs q1))
theorem xl_enumT {α : Type} {xs : List α} {F : α → Ty} {elts : List Expr} {kk : Nat} {tpos p : Pos} (hm : c.b.mg "enumerate" = none) (h1 : TpK c.b.K T1 (xs.map F)) (ha : XE c sc G a T1) (hg : sc.names.lookup ("enumerate" : Str) = some .globalImplicit := by rfl)
    (hs : ∀ env, starEach [a] env = [(false, eval a env)] := by intro _; rfl) :
    XL c sc G (.Tuple elts kk tpos) (.Call (.Name "enumerate" p) [a] [] pos) xs.zipIdx (fun p => tTup c.b.K [tInt (p.2 : Nat), F p.1]) :=
  (xi_enumT hm h1 ha hg hs).congr (by rw [List.length_zipIdx, List.length_map]) fun i hi => by
    rw [List.length_zipIdx] at hi
    rw [tyAt_map, tyO_at (List.getElem?_eq_getElem hi), tyO_at (zipIdx_at i hi)]
end
end Lg

set_option maxHeartbeats 4000000
namespace Lg
open PySem PySem.Spec PyProof.Rows L2
/-! ### sorted(set(..)) -/
def ins (x : Int) : List Int → List Int
  | [] => [x]
  | y :: r => if x < y then x :: y :: r else if x = y then y :: r else y :: ins x r
/-- the members, rising -/
def srt (l : List Int) : List Int := l.foldr ins []
theorem ins_mem {x k : Int} : ∀ {l : List Int}, k ∈ ins x l ↔ k = x ∨ k ∈ l
  | [] => by simp [ins]
  | y :: r => by
    unfold ins
    split
    · simp
    · split
      · rename_i h; subst h; simp
      · rw [List.mem_cons, List.mem_cons, ins_mem]
        constructor
        · rintro (h | h | h)
          · exact .inr (.inl h)
          · exact .inl h
          · exact .inr (.inr h)
        · rintro (h | h | h)
          · exact .inr (.inl h)
          · exact .inl h
          · exact .inr (.inr h)
theorem ins_rise {x : Int} : ∀ {l : List Int}, l.Pairwise (· < ·) → (ins x l).Pairwise (· < ·)
  | [], _ => by simp [ins]
  | y :: r, h => by
    obtain ⟨h1, h2⟩ := List.pairwise_cons.mp h
    unfold ins
    split
    · rename_i hx
      refine List.pairwise_cons.mpr ⟨fun z hz => ?_, h⟩
      rcases List.mem_cons.mp hz with rfl | hz
      · exact hx
      · have := h1 z hz; omega
    · split
      · exact h
      · rename_i hx hy
        refine List.pairwise_cons.mpr ⟨fun z hz => ?_, ins_rise h2⟩
        rcases ins_mem.mp hz with rfl | hz
        · omega
        · exact h1 z hz
theorem srt_rise (l : List Int) : (srt l).Pairwise (· < ·) := by
  induction l with
  | nil => exact List.Pairwise.nil
  | cons x l ih => exact ins_rise ih
theorem srt_mem {l : List Int} {k : Int} : k ∈ srt l ↔ k ∈ l := by
  induction l with
  | nil => exact Iff.rfl
  | cons x l ih =>
    show k ∈ ins x (srt l) ↔ _
    rw [ins_mem, ih, List.mem_cons]
/-- rising lists of the same members are one -/
theorem rise_eq : ∀ {l m : List Int}, l.Pairwise (· < ·) → m.Pairwise (· < ·) → (∀ k, k ∈ l ↔ k ∈ m) → l = m
  | [], [], _, _, _ => rfl
  | [], y :: _, _, _, h => by have := (h y).mpr List.mem_cons_self; simp at this
  | x :: _, [], _, _, h => by have := (h x).mp List.mem_cons_self; simp at this
  | x :: l, y :: m, hl, hm, h => by
    obtain ⟨h1, h2⟩ := List.pairwise_cons.mp hl
    obtain ⟨h3, h4⟩ := List.pairwise_cons.mp hm
    have hxy : x = y := by
      have a := (h x).mp List.mem_cons_self
      have b := (h y).mpr List.mem_cons_self
      rcases List.mem_cons.mp a with a | a
      · exact a
      · rcases List.mem_cons.mp b with b | b
        · exact b.symm
        · have := h3 x a; have := h1 y b; omega
    subst hxy
    rw [rise_eq h2 h4 fun k => ?_]
    constructor
    · intro hk
      rcases List.mem_cons.mp ((h k).mp (List.mem_cons_of_mem _ hk)) with z | z
      · have := h1 k hk; omega
      · exact z
    · intro hk
      rcases List.mem_cons.mp ((h k).mpr (List.mem_cons_of_mem _ hk)) with z | z
      · have := h3 k hk; omega
      · exact z
def tSsl (K : PySem.W.Frag) (ta : TE) : TE := fun σ H Q => ta σ H fun x H1 => ∃ (l : Addr) (ns : List Int), x = .ref l ∧ SqL K H1 l (ns.map V.int) ∧ ns.length < 64 ∧ ∀ p, H1 p = none → Q (.ref p) (upd H1 p (.lst ((srt ns).map V.int)))
theorem pe_ssl {X : Cx} {a : Expr} {ta : TE} {p p2 q pos : Pos} (hc : X.calm = true) (hg : Gl X "sorted") (hm : X.mg "sorted" = none) (hg2 : Gl X "set") (hm2 : X.mg "set" = none) (ha : PE X a ta)
    (na : starEach [a] X.env = (false, eval a X.env) :: starEach [] X.env) (nb : starEach [.Call (.Name "set" p2) [a] [] q] X.env = (false, eval (.Call (.Name "set" p2) [a] [] q) X.env) :: starEach [] X.env) :
    PE X (.Call (.Name "sorted" p) [.Call (.Name "set" p2) [a] [] q] [] pos) (tSsl X.K ta) := by
  refine ⟨fun pins s σ H Q I h => ?_⟩
  refine Call_ (ld_blt I hg hm (by decide +kernel : bootBuiltins "sorted" = some (.builtin "sorted")) (callWith_builtin1 (args_cons (Call_ (ld_blt I hg2 hm2 boot_set (callWith_type1 (args_cons (thn (ha.run pins s σ H _ I h) fun v s1 ⟨x, H1, I1, r1, l, ns, ex, hq, h64, q1⟩ => args_nil ?_) na) na rfl))) nb) nb rfl))
  subst ex
  cases r1
  obtain ⟨its, rv, pl, hz⟩ := I1.list hq
  have hi : IntsAre its.toArray.toList ns := by
    have : its.toArray.toList = its := rfl
    rw [this]
    exact ints_of_vals rv
  refine Zq.call_setL ns (I1.ok.hd hc) pl.isList hi (by unfold scanBound; omega) fun h' tk c R1 hcn k => args_nil ?_
  have I2 : Inv X pins σ H1 { s1 with heap := h', toks := tk } := I1.kept (t' := tk) k
  refine sorted_set (s := { s1 with heap := h', toks := tk }) R1 (I1.ok.hd hc) (by omega) fun s' w out c2 ms k2 g o hp hg' hi' hs hmm hl => ?_
  have e : ms = srt ns := rise_eq hs (srt_rise ns) fun j => by rw [hmm j, srt_mem]; exact decide_eq_true_iff
  subst e
  have hw : H1 w = none := I2.hok.fresh hp
  have hlen : ((srt ns).map V.int).length ≤ sizeLine := by rw [List.length_map, hl, sizeLine_eq]; omega
  have J : Inv X pins σ (upd H1 w (.lst ((srt ns).map V.int))) { ({ s1 with heap := h', toks := tk } : Shared) with heap := s'.heap, gens := s'.gens, drawn := s'.drawn, toks := s'.toks } :=
    I2.call (ch := []) (Un.laid k2 hp hw) (I2.hok.laid k2 hp ⟨hlen, out.toList, c2, vals_of_ints hi', hg'⟩) (by rw [g]; exact I2.bare) (fun _ z => nomatch z)
  have es : s' = { s1 with heap := s'.heap, gens := s'.gens, drawn := s'.drawn, toks := s'.toks } := by
    cases s'
    cases s1
    cases o
    rfl
  rw [es]
  exact ⟨.ref w, _, J, rfl, q1 w hw⟩
section
variable {c : Cst} {sc : Scope} {G : Gm} {a : Expr} {T T1 : Ty} {pos : Pos}
theorem xn_ssl {is : List Int} {p p2 q : Pos} (hm : c.b.mg "sorted" = none) (hm2 : c.b.mg "set" = none) (hS : LsK c.b.K T1 (is.map tInt)) (ha : XE c sc G a T1) (h64 : is.length < 64) (hg : sc.names.lookup ("sorted" : Str) = some .globalImplicit := by rfl) (hg2 : sc.names.lookup ("set" : Str) = some .globalImplicit := by rfl)
    (na : ∀ env, starEach [a] env = (false, eval a env) :: starEach [] env := by intro _; rfl) (nb : ∀ env, starEach [.Call (.Name "set" p2) [a] [] q] env = (false, eval (.Call (.Name "set" p2) [a] [] q) env) :: starEach [] env := by intro _; rfl) :
    XN c sc G (.Call (.Name "sorted" p) [.Call (.Name "set" p2) [a] [] q] [] pos) ((srt is).map tInt) := fun X C σ Hi H w g => by
  refine eW_of (pe_ssl C.calm (C.glo hg) (by rw [C.hm]; exact hm) (C.glo hg2) (by rw [C.hm]; exact hm2) eW_pe (na _) (nb _)) (ha.use C w g fun x Hi1 H1 g1 t1 => ?_)
  obtain ⟨l, xs, rfl, hl, ts⟩ := hS x Hi1 t1
  have e := ints_of_TsP ts
  subst e
  exact ⟨l, is, rfl, C.hK ▸ (Le.of g1.wi.same).sqL hl, h64, fun p hp => RN.new g1 w hp (TsP_of_ints _)⟩
end
/-! ### dict(..) of pairs with tuple keys -/
theorem putAll_new {κ : Type} [DecidableEq κ] : ∀ (more kvs : List (κ × V)), ((kvs ++ more).map (·.1)).Nodup → more.foldl (fun acc kv => putK acc kv.1 kv.2) kvs = kvs ++ more
  | [], kvs, _ => by simp
  | p :: r, kvs, nd => by
    have hn : valV kvs p.1 = none := by
      cases e : valV kvs p.1 with
      | none => rfl
      | some v =>
        have hi : (valV kvs p.1).isSome = true := by rw [e]; rfl
        rw [← valV_any] at hi
        obtain ⟨kv, hk, he⟩ := List.any_eq_true.mp hi
        rw [List.map_append, List.map_cons] at nd
        exact ((List.nodup_append.mp nd).2.2 kv.1 (List.mem_map.mpr ⟨kv, hk, rfl⟩) p.1 List.mem_cons_self (of_decide_eq_true he)).elim
    show r.foldl _ (putK kvs p.1 p.2) = _
    rw [putK_new _ hn, putAll_new r (kvs ++ [(p.1, p.2)]) (by simpa using nd)]
    simp
theorem kt_all {H : Hp} : ∀ {more : List (List Key × V)} {ps : List (List Key × Addr × Value)} {kvs : List (List Key × V)} {xs : List (List Key × Addr × Value)}, KT H more ps → KT H kvs xs → KT H (more.foldl (fun acc kv => putK acc kv.1 kv.2) kvs) (storedAllH xs ps)
  | _, _, _, _, .nil, r => r
  | _, _, kvs, xs, .cons (a := p) (b := q) (l₁ := m) (l₂ := ps) h t, r => by
    have := r.put p.1 h.2.1 h.2.2
    rw [h.1] at this
    have e : (p :: m).foldl (fun acc kv => putK acc kv.1 kv.2) kvs = m.foldl (fun acc kv => putK acc kv.1 kv.2) (putK kvs q.1 p.2) := by rw [List.foldl_cons, h.1]
    rw [e]
    show KT H _ (storedAllH (storedH xs q.1 q.2.1 q.2.2) ps)
    exact kt_all t this
/-- a pair of a key and a value, as the tuple at p -/
structure PrT (K : PySem.W.Frag) (H : Hp) (p : Addr) (e : List Key × V) : Prop where
  at_ : ∃ b, SqT K H p [.ref b, e.2] ∧ H b = some (.tup (e.1.map kV))
theorem prs_of {X : Cx} {pins : List (Addr × Obj)} {σ : L2.St} {H : Hp} {s : Shared} (I : Inv X pins σ H s) : ∀ {ps : List Addr} {kvs : List (List Key × V)}, Paired (PrT X.K H) ps kvs →
    ∃ qs : List (List Key × Addr × Value), KT H kvs qs ∧ qs.length = ps.length ∧ ∀ (j : Nat) q, qs[j]? = some q → ∃ T, ps[j]? = some T ∧ IsTup s.heap T #[.ref q.2.1, q.2.2]
  | _, _, .nil => ⟨[], .nil, rfl, fun j q e => by simp at e⟩
  | _, _, .cons (a := p) (b := e) h t => by
    obtain ⟨qs, r, hl, hp⟩ := prs_of I t
    obtain ⟨b, h1, h2⟩ := h.at_
    obtain ⟨its, rv, ht, _⟩ := I.tuple h1
    obtain ⟨u, y, ei, ru, ry⟩ := vals2 rv
    subst ei
    cases ru
    refine ⟨(e.1, b, y) :: qs, .cons ⟨rfl, h2, ry⟩ r, by rw [List.length_cons, List.length_cons, hl], fun j q hj => ?_⟩
    cases j with
    | zero =>
      have e' : (e.1, b, y) = q := by simpa using hj
      subst e'
      exact ⟨p, rfl, ht⟩
    | succ j =>
      obtain ⟨T, e1, e2⟩ := hp j q (by simpa using hj)
      exact ⟨T, by simpa using e1, e2⟩
theorem cr_dictT {X : Cx} (hc : X.calm = true) (hu : X.A.units + 64 < cLine) : CallR X (.type "dict") (fun xs H Q => ∃ (a : Addr) (ps : List Addr) (kvs : List (List Key × V)), xs = [.ref a] ∧ SqL X.K H a (ps.map V.ref) ∧ Paired (PrT X.K H) ps kvs ∧ (kvs.map (·.1)).Nodup ∧
    ∀ p, H p = none → Q (.ref p) (upd H p (.dT kvs))) := by
  rintro pins s σ H xs us Q I r ⟨a, ps, kvs, rfl, hq, hp, nd, q⟩
  obtain ⟨u, rfl, rx⟩ := vals1 r
  cases rx
  obtain ⟨its, rv, pl, hz⟩ := I.list hq
  have ei := refs_at rv
  subst ei
  rw [List.length_map] at hz
  obtain ⟨qs, rel, hl, hpr⟩ := prs_of I hp
  obtain ⟨o, n, ho, hcl, hd, hdat⟩ := pl
  have ok0 : PlainSeq "list" s.heap a (ps.map Value.ref).toArray ∧ PairItems s.heap (ps.map Value.ref).toArray (fun j => ps.getD j 0) (qs.map fun q => (Value.ref q.2.1, q.2.2)) := by
    refine ⟨⟨o, n, ho, hcl, hd, hdat⟩, by simp [hl], fun j k v hj => ?_⟩
    rw [List.getElem?_map] at hj
    cases hqj : qs[j]? with
    | none => rw [hqj] at hj; cases hj
    | some x =>
      rw [hqj] at hj
      have hj : (Value.ref x.2.1, x.2.2) = (k, v) := Option.some.inj hj
      obtain ⟨T, e1, e2⟩ := hpr j x hqj
      cases hj
      have e3 : ps.getD j 0 = T := by rw [List.getD_eq_getElem?_getD, e1]; rfl
      show _ = some (Value.ref (ps.getD j 0)) ∧ PairAt _ (ps.getD j 0) _ _
      rw [e3]
      exact ⟨by simp [e1], .inl e2⟩
  have hav : PairsHaveH (tupleKind (mixKind X.prog X.w)) (qs.map fun q => (Value.ref q.2.1, q.2.2)).length (PairRel (qs.map fun q => (Value.ref q.2.1, q.2.2))) qs := by
    refine ⟨by rw [List.length_map], fun i key v hi => ?_⟩
    have hi : (qs.map fun q => (Value.ref q.2.1, q.2.2))[i]? = some (key, v) := hi
    rw [List.getElem?_map] at hi
    cases hqi : qs[i]? with
    | none => rw [hqi] at hi; cases hi
    | some x =>
      rw [hqi] at hi
      have hi : (Value.ref x.2.1, x.2.2) = (key, v) := Option.some.inj hi
      cases hi
      exact ⟨x.1, x.2.1, rfl, rfl⟩
  have ne : ∀ b o, s.heap.get? b = some o → b ≠ s.heap.objs.size := fun b o e => Nat.ne_of_lt (Heap.lt_size e)
  have stay : KeysStay (tupleKind (mixKind X.prog X.w)) s.heap s.heap.objs.size [] qs := fun h' hk x hx => by
    have J : Inv X pins σ H { s with heap := h', toks := s.toks } := I.kept (t' := s.toks) fun b ob e => hk b ob (ne b ob e) (fun z => nomatch z) e
    have all : ∀ {l : List (List Key × V)} {m : List (List Key × Addr × Value)}, KT H l m → ∀ x ∈ m, (tupleKind (mixKind X.prog X.w)).is h' x.1 x.2.1 := by
      intro l m q
      induction q with
      | nil => exact fun x hx => nomatch hx
      | cons hq t ih =>
        intro x hx
        rcases List.mem_cons.mp hx with e | hx
        · rw [e, ← hq.1]
          exact key_of J.hok hq.2.1
        · exact ih x hx
    exact all rel x hx
  have hroom : X.A.in1.units + 1 < cLine := by
    have : X.A.in1.units ≤ X.A.units + 1 := by first | exact Nat.le_refl _ | simp [Around.in1]
    omega
  have hkl : kvs.length = ps.length := by rw [← hl]; exact Paired.length rel
  refine call_dict_pairsH (knd := tupleKind (mixKind X.prog X.w)) (PairArg.list a _ (fun j => ps.getD j 0) (qs.map fun q => (Value.ref q.2.1, q.2.2))) (I.ok.hd hc) (tupleKind_room_in1 hroom) ok0 hav stay (by rw [List.length_map, hl]; exact hz) fun h' tk hd' k => ?_
  have k' : ∀ b ob, s.heap.get? b = some ob → h'.get? b = some ob := fun b ob e => k b ob (fun z => nomatch z) e
  have hall := kt_all rel (kvs := []) (xs := []) .nil
  rw [putAll_new kvs [] (by simpa using nd), List.nil_append] at hall
  have hm : (s.heap.objs.size == sysModules) = false := beq_eq_false_iff_ne.mpr (Nat.ne_of_gt I.big)
  have hn : H s.heap.objs.size = none := I.hok.fresh (Nat.le_refl _)
  obtain ⟨ob, es, ep, g1, g2, g3, g4, g5, g6⟩ := hd'
  exact ⟨.ref s.heap.objs.size, upd H s.heap.objs.size (.dT kvs), I.laid (t' := tk) k' (Nat.le_refl _) (show ObjOk X.prog X.w _ _ _ (.dT kvs) from ⟨by rw [hkl]; exact hz, hm, _, hall.keeps (fun b ys e => by rw [upd_ne (ne_of_none e hn)]; exact e), ob, es, ep, g1, g2, g3, g4, g6⟩), rfl, q _ hn⟩
theorem cb_dictT {c : Cst} {α : Type} {xs : List α} {ky : α → List Key} {F : α → Ty} (nd : (xs.map ky).Nodup) : CbK c (.type "dict") [tLst (xs.map fun x => tTup c.b.K [tKey (ky x), F x])] (tDT (xs.map fun x => (ky x, F x))) := fun _ X C => ⟨_, cr_dictT C.calm C.hu64, fun vs Hi H w t Q k => by
  obtain ⟨x, rfl, a, vs, rfl, h, ts⟩ := tsp1 t
  have go : ∀ (ys : List α) (vs : List V), TsP (ys.map fun x => tTup c.b.K [tKey (ky x), F x]) vs Hi → ∃ (ps : List Addr) (kvs : List (List Key × V)), vs = ps.map V.ref ∧ Paired (PrT c.b.K Hi) ps kvs ∧ KvP (ys.map fun x => (ky x, F x)) kvs Hi ∧ kvs.map (·.1) = ys.map ky := by
    intro ys
    induction ys with
    | nil =>
      intro vs ts
      cases vs with
      | nil => exact ⟨[], [], rfl, .nil, trivial, rfl⟩
      | cons _ _ => exact ts.elim
    | cons y ys ih =>
      intro vs ts
      cases vs with
      | nil => exact ts.elim
      | cons v vs =>
        obtain ⟨⟨p, zs, rfl, hp, tz⟩, tr⟩ := ts
        obtain ⟨ps, kvs, rfl, h1, h2, h3⟩ := ih vs tr
        obtain ⟨k1, v1, rfl, ⟨b, rfl, hb⟩, tv⟩ := tsp2 tz
        exact ⟨p :: ps, (ky y, v1) :: kvs, rfl, .cons ⟨b, hp, hb⟩ h1, ⟨rfl, tv, h2⟩, by rw [List.map_cons, h3]; rfl⟩
  obtain ⟨ps, kvs, rfl, h1, h2, h3⟩ := go xs vs ts
  refine ⟨a, ps, kvs, rfl, C.hK ▸ sqL_of (w.same _ _ h), C.hK ▸ Paired.mapP h1 (fun p e ⟨b, q1, q2⟩ => ⟨b, (Le.of w.same).sqT q1, w.same _ _ q2⟩), by rw [h3]; exact nd, fun p hp => k _ _ _ (Gr.new w hp) ⟨p, _, kvs, rfl, upd_same, rfl, h2.mo (Gr.new (o := .dT kvs) w hp).le⟩⟩⟩
end Lg

set_option maxHeartbeats 4000000
namespace Lg
open PySem PySem.Spec PyProof.Rows L2
/-! ### a loop over a dict's tuple keys -/
/-- an object changes its lock: nothing else does -/
theorem lock_le {Hi : Hp} {d : Addr} {o o' : HO} (h : Hi d = some o) (s : strip o' = strip o) : Le Hi (upd Hi d o') := fun a u e => by
  by_cases z : a = d
  · subst z
    rw [h] at e; cases e
    exact ⟨o', upd_same, s⟩
  · exact ⟨u, by rw [upd_ne z]; exact e, rfl⟩
theorem lock_wi {W : Wd} {Hi H : Hp} {d : Addr} {o o' : HO} (w : WI W Hi H) (h : Hi d = some o) (s : strip o' = strip o) : WI W (upd Hi d o') (upd H d o') := by
  refine ⟨same_upd2 w.same, w.nd, fun c hc => ?_⟩
  obtain ⟨h1, kvs, h2, h3, h4⟩ := w.ch c hc
  have ne : c.a ≠ d := fun z => by rw [z, h] at h1; cases h1
  exact ⟨by rw [upd_ne ne]; exact h1, kvs, by rw [upd_ne ne]; exact h2, h3, fun kv hk => ⟨(h4 kv hk).1, (c.S kv.1).mo (lock_le h s) (h4 kv hk).2⟩⟩
section
variable {c : Cst} {sc : Scope} {G : Gm} {X : Cx} {e : Expr} {T : Ty} {σ : L2.St} {Hi H Hi0 H0 : Hp} {pos : Pos} {O : List Own} {rest body : List Stmt} {N : L2.St → Hp → Prop} {tg iter : Expr} {js : List Nat}
theorem cutH_own {W : Wd} {a : Addr} (k : OwnOk W H0 Hi H O) (h : Hi a ≠ none) : ¬ a ∈ O.map Own.a := fun m => by
  obtain ⟨o, ho, rfl⟩ := List.mem_map.mp m
  exact h (k.at_ o ho).2.1
theorem re_inW {W : Wd} (w : WI W Hi H) (k : OwnOk W H0 Hi H O) : Gr W Hi (cutH H O) Hi H ∧ OwnOk W (cutH H O) Hi H O :=
  ⟨⟨Le.refl _, w, fun a o h _ => cutH_some h, fun _ _ h _ _ => h, fun c hc kvs h => ⟨kvs, cutH_some h, fun _ q => q⟩⟩, k.nd, fun o ho => by
    obtain ⟨h1, h2, h3, h4⟩ := k.at_ o ho
    exact ⟨h1, h2, cutH_in (List.mem_map.mpr ⟨o, ho, rfl⟩), h4⟩⟩
/-- the loop itself, the dict at d locked -/
theorem forK_run {ks : List (List Key × Ty)} {d : Addr} {ob : Obj} {kvs : List (List Key × V)} {D : Ends} (Us : List Key × Ty → List Ty) (Gi : Nat → Gm) (Oi : Nat → List Own) (C : CtxOk c sc X) (w : WI c.W Hi H) (s : GS (Gi 0) σ Hi) (k : OwnOk c.W H0 Hi H (Oi 0)) (hd : Hi d = some (.frz ob (.dT kvs))) (hkv : KvP ks kvs Hi)
    (hi : eW X iter σ H (fun v H3 => v = .ref d ∧ H3 = H)) (hg : ∀ x, x ∈ ks → XG c sc tg (tKey x.1) js (Us x))
    (hb : ∀ i x, ks[i]? = some x → ∀ Hi0 H0, XB c sc Hi0 H0 (SS c.W Hi0 H0 (gset (Gi i) js (Us x)) (Oi i)) body (SS c.W Hi0 H0 (Gi (i + 1)) (Oi (i + 1))) tBot)
    (hn : ∀ σ' Hi' H', Gr c.W Hi (cutH H (Oi 0)) Hi' H' → H' d = some (.frz ob (.dT kvs)) → Hi' d = some (.frz ob (.dT kvs)) → GS (Gi ks.length) σ' Hi' → OwnOk c.W (cutH H (Oi 0)) Hi' H' (Oi ks.length) → D.nx σ' H')
    (hs : ∀ env x, foldedSetIterable iter env x = pure x) : sW X (.For tg iter body [] pos) D σ H := by
  have hdH := w.same _ _ hd
  have kl := hkv.len
  refine sW_of (ps_for (never_of C) C.calm (pi_keys eW_pe) gW_pg bW_ps (hs _)) ?_
  refine eW_mono hi fun v H1 ⟨e1, e2⟩ => ?_
  have e2 := e2.symm
  subst e1; subst e2
  refine ⟨d, ob, rfl, .inr ⟨kvs, hdH, ?_⟩⟩
  obtain ⟨gb, kb⟩ := re_inW w k
  refine ⟨fun i m σ' H' => m = ks.length - i ∧ i ≤ ks.length ∧ ∃ Hi', Gr c.W Hi (cutH H (Oi 0)) Hi' H' ∧ H' d = some (.frz ob (.dT kvs)) ∧ Hi' d = some (.frz ob (.dT kvs)) ∧ GS (Gi i) σ' Hi' ∧ OwnOk c.W (cutH H (Oi 0)) Hi' H' (Oi i), ⟨ks.length, by omega, Nat.zero_le _, Hi, gb, hdH, hd, s, kb⟩, ?_⟩
  rintro i m σ2 H2 ⟨rfl, hin, Hi2, g2, d2, d2', s2, k2⟩
  by_cases hlt : i < ks.length
  · have hx : ks[i]? = some ks[i] := List.getElem?_eq_getElem hlt
    refine .inr ⟨⟨d2, by omega⟩, fun σ' H' => ∃ Hi', Gr c.W Hi (cutH H (Oi 0)) Hi' H' ∧ H' d = some (.frz ob (.dT kvs)) ∧ Hi' d = some (.frz ob (.dT kvs)) ∧ GS (Gi (i + 1)) σ' Hi' ∧ OwnOk c.W (cutH H (Oi 0)) Hi' H' (Oi (i + 1)), fun σ' H' q => ⟨ks.length - (i + 1), by omega, rfl, hlt, q⟩, fun x H3 ⟨e3, ky, vy, q, hq, ex, hqq⟩ => ?_⟩
    subst e3; subst ex
    obtain ⟨Hi3, g3, hq3⟩ := Gr.adopt g2.wi hqq
    have d3' : Hi3 d = some (.frz ob (.dT kvs)) := by
      obtain ⟨o', ho', so⟩ := g3.le d _ d2'
      have := g3.wi.same _ _ ho'
      rw [d2] at this
      cases this
      exact ho'
    have g03 := g2.trans g3
    have k3 := k2.gr g3
    have s3 := s2.mo g3.le
    have ek : ky = (ks[i]).1 := by
      have : ∀ {l : List (List Key × Ty)} {m : List (List Key × V)} {H : Hp} {j : Nat} {x : List Key × Ty} {y : List Key × V}, KvP l m H → l[j]? = some x → m[j]? = some y → y.1 = x.1 := by
        intro l
        induction l with
        | nil => intro m H j x y _ h1 _; simp at h1
        | cons a l ih =>
          intro m H j x y h h1 h2
          cases m with
          | nil => exact h.elim
          | cons b m =>
            obtain ⟨q1, q2, q3⟩ := h
            cases j with
            | zero =>
              have h1 : a = x := by simpa using h1
              have h2 : b = y := by simpa using h2
              subst h1; subst h2
              exact q1.symm
            | succ j => exact ih q3 (by simpa using h1) (by simpa using h2)
      exact this hkv hx hq
    refine hg _ (List.getElem_mem hlt) X C σ2 Hi3 H3 (.ref q) g03.wi ⟨q, rfl, ek ▸ hq3⟩ _ fun vs tvs => ?_
    have gs : GS (gset (Gi i) js (Us ks[i])) (setAll σ2 js vs) Hi3 := s3.setAll tvs
    obtain ⟨gc, kc⟩ := re_in g03 k3
    refine bW_mono (hb i _ hx Hi3 (cutH H3 (Oi i)) X C _ H3 ⟨Hi3, gc, gs, kc⟩) (fun σ' H' ⟨Hi', q1, q2, q3⟩ => ?_) (fun v H' ⟨Hi', q1, q2⟩ => (q2 : False).elim) (fun _ _ (q : False) => q.elim) (fun _ _ (q : False) => q.elim)
    have dn : ∀ c' ∈ c.W, c'.a ≠ d := fun c' hc z => by
      have := (g03.wi.ch c' hc).1
      rw [z, d3'] at this; cases this
    have d4 : H' d = some (.frz ob (.dT kvs)) := q1.keep d _ (by rw [cutH_out (cutH_own k3 (by rw [d3']; exact fun z => nomatch z))]; exact d2) dn
    have d4' : Hi' d = some (.frz ob (.dT kvs)) := by
      obtain ⟨o', ho', so⟩ := q1.le d _ d3'
      have := q1.wi.same _ _ ho'
      rw [d4] at this
      cases this
      exact ho'
    exact ⟨Hi', re_out g03 k3 q1, d4, d4', q2, re_own g03 k3 q3⟩
  · have e' : i = ks.length := by omega
    subst e'
    exact .inl ⟨⟨d2, by omega⟩, hn σ2 Hi2 H2 g2 d2 d2' s2 k2⟩
/-- for x in a dict told by ks -/
theorem xb_forK {ks : List (List Key × Ty)} (Us : List Key × Ty → List Ty) (Gi : Nat → Gm) (Oi : Nat → List Own) (h0 : GLe G (Gi 0)) (ho : O = Oi 0)
    (hsel : ∀ σ Hi, GS G σ Hi → ∃ d, (tDT ks).p (.ref d) Hi ∧ ∀ X, CtxOk c sc X → ∀ Hi2 H2, Le Hi Hi2 → WI c.W Hi2 H2 → eW X iter σ H2 (fun v H3 => v = .ref d ∧ H3 = H2)) (hg : ∀ x, x ∈ ks → XG c sc tg (tKey x.1) js (Us x))
    (hb : ∀ i x, ks[i]? = some x → ∀ Hi0 H0, XB c sc Hi0 H0 (SS c.W Hi0 H0 (gset (Gi i) js (Us x)) (Oi i)) body (SS c.W Hi0 H0 (Gi (i + 1)) (Oi (i + 1))) tBot)
    (h : XB c sc Hi0 H0 (SS c.W Hi0 H0 (Gi ks.length) (Oi ks.length)) rest N T) (hs : ∀ env x, foldedSetIterable iter env x = pure x := by intro _ _; rfl) :
    XB c sc Hi0 H0 (SS c.W Hi0 H0 G O) (.For tg iter body [] pos :: rest) N T := fun X C σ H ⟨Hi, g, s, k⟩ => by
  subst ho
  obtain ⟨d, ⟨d', o, kvs, ed, hd, hst, hkv⟩, hi⟩ := hsel σ Hi s
  cases ed
  have w := g.wi
  have hdH := w.same _ _ hd
  have fin : ∀ (ob : Obj) (u : HO), (u = .dT kvs ∨ u = .frz ob (.dT kvs)) → Hi d = some u → ∀ σ' Hi' H', Gr c.W (upd Hi d (.frz ob (.dT kvs))) (cutH (upd H d (.frz ob (.dT kvs))) (Oi 0)) Hi' H' → H' d = some (.frz ob (.dT kvs)) → Hi' d = some (.frz ob (.dT kvs)) → GS (Gi ks.length) σ' Hi' →
      OwnOk c.W (cutH (upd H d (.frz ob (.dT kvs))) (Oi 0)) Hi' H' (Oi ks.length) → SS c.W Hi0 H0 (Gi ks.length) (Oi ks.length) σ' (upd H' d u) := by
    intro ob u hu hdu σ' Hi' H' g' d1 d1' s' k'
    have su : strip u = .dT kvs := by rcases hu with rfl | rfl <;> rfl
    have sl : strip (.frz ob (.dT kvs)) = strip u := by rw [su]; rfl
    have l1 := lock_le hdu sl
    have l2 := lock_le d1' sl.symm
    have w2 := lock_wi g'.wi d1' sl.symm
    have nd : ∀ c' ∈ c.W, c'.a ≠ d := fun c' hc z => by
      have := (w.ch c' hc).1
      rw [z, hdu] at this; cases this
    have hne : Hi d ≠ none := by rw [hdu]; exact fun z => nomatch z
    have od := cutH_own k hne
    have hdu2 : H d = some u := w.same _ _ hdu
    have kp : ∀ a o, H a = some o → a ≠ d → ¬ a ∈ (Oi 0).map Own.a → cutH (upd H d (.frz ob (.dT kvs))) (Oi 0) a = some o := fun a o e ne no => by
      rw [cutH_out no, upd_ne ne]; exact e
    refine ⟨upd Hi' d u, ⟨(g.le.trans l1).trans (g'.le.trans l2), w2, fun a o e n => ?_, fun a o e n t => ?_, fun c' hc kv e => ?_⟩, s'.mo l2, k'.nd, fun x hx => ?_⟩
    · have ea := g.keep a o e n
      by_cases z : a = d
      · subst z
        rw [upd_same]
        rw [hdu2] at ea
        exact ea
      · rw [upd_ne z]
        exact g'.keep a o (kp a o ea z (k.out (by rw [e]; exact fun z => nomatch z))) n
    · have n0 : H0 a ≠ none := by rw [n]; exact fun z => nomatch z
      have ea := g.off a o e n t
      have z : a ≠ d := fun z => by rw [z, hdu] at ea; cases ea
      obtain ⟨o', e', t'⟩ := g.solid n t
      rw [upd_ne z]
      exact g'.off a o' (by rw [upd_ne z]; exact ea) (kp a o' e' z (k.out n0)) t'
    · have n0 : H0 c'.a ≠ none := by rw [e]; exact fun z => nomatch z
      obtain ⟨k1, h1, q1⟩ := g.grow c' hc kv e
      obtain ⟨k2, h2, q2⟩ := g'.grow c' hc k1 (kp _ _ h1 (nd c' hc) (k.out n0))
      exact ⟨k2, by rw [upd_ne (nd c' hc)]; exact h2, fun x z => q2 x (q1 x z)⟩
    · obtain ⟨⟨v, q1, q2⟩, q3, q4, q5⟩ := k'.at_ x hx
      have z : x.a ≠ d := fun z => by rw [z, d1'] at q3; cases q3
      refine ⟨⟨v, by rw [upd_ne z]; exact q1, x.mo l2 q2⟩, by rw [upd_ne z]; exact q3, ?_, q5⟩
      cases e : H0 x.a with
      | none => rfl
      | some y =>
        have n0 : H0 x.a ≠ none := by rw [e]; exact fun z => nomatch z
        obtain ⟨y', ey⟩ := Option.ne_none_iff_exists'.mp (g.there n0)
        rw [kp _ _ ey z (k.out n0)] at q4
        cases q4
  have kl : ∀ (ob : Obj) (u : HO), Hi d = some u → strip u = .dT kvs → OwnOk c.W H0 (upd Hi d (.frz ob (.dT kvs))) (upd H d (.frz ob (.dT kvs))) (Oi 0) := fun ob u hdu su => ⟨k.nd, fun x hx => by
    obtain ⟨⟨v, q1, q2⟩, q3, q4, q5⟩ := k.at_ x hx
    have z : x.a ≠ d := fun z => by rw [z, hdu] at q3; cases q3
    exact ⟨⟨v, by rw [upd_ne z]; exact q1, x.mo (lock_le hdu (by rw [su]; rfl)) q2⟩, by rw [upd_ne z]; exact q3, q4, q5⟩⟩
  rcases strip_rd hst with z | ⟨ob, z⟩
  · subst z
    refine bW_cons (ps_lock sW_ps) ⟨d, .dT kvs, hdH, True.intro, fun od => ?_⟩
    have sl : strip (.frz od (.dT kvs)) = strip (.dT kvs) := rfl
    refine forK_run (ks := ks) (Hi := upd Hi d (.frz od (.dT kvs))) Us Gi Oi C (lock_wi w hd sl) ((s.mo (lock_le hd sl)).le h0) (kl od _ hd rfl) upd_same (hkv.mo (lock_le hd sl)) (hi X C _ _ (lock_le hd sl) (lock_wi w hd sl)) hg hb (fun σ' Hi' H' g' d1 d1' s' k' => ?_) hs
    · exact ⟨d1, h X C σ' _ (fin od _ (.inl rfl) hd σ' Hi' H' g' d1 d1' s' k')⟩
  · subst z
    have eu : upd Hi d (.frz ob (.dT kvs)) = Hi := by
      funext a
      by_cases q : a = d
      · rw [q, upd_same, hd]
      · rw [upd_ne q]
    have eh : upd H d (.frz ob (.dT kvs)) = H := by
      funext a
      by_cases q : a = d
      · rw [q, upd_same, hdH]
      · rw [upd_ne q]
    refine bW_cons sW_ps (forK_run (ks := ks) (Hi := Hi) (H0 := H0) Us Gi Oi C w (s.le h0) k hd hkv (hi X C _ _ (Le.refl _) w) hg hb (fun σ' Hi' H' g' d1 d1' s' k' => ?_) hs)
    · have := fin ob _ (.inr rfl) hd σ' Hi' H' (by rw [eu, eh]; exact g') d1 d1' s' (by rw [eh]; exact k')
      have e3 : upd H' d (.frz ob (.dT kvs)) = H' := by
        funext a
        by_cases q : a = d
        · rw [q, upd_same, d1]
        · rw [upd_ne q]
      rw [e3] at this
      exact h X C σ' _ this
end
end Lg
namespace Lg
open PySem PySem.Spec PyProof.Rows L2
section
variable {c : Cst} {sc : Scope} {G : Gm} {pos p2 p3 : Pos}
theorem sel_v {ks : List (List Key × Ty)} {x : Str} (i : Nat) (hG : G[i]? = some (some (tDT ks))) (hN : c.N[i]? = some x) (hv : visB sc x = true) (hd : (x == ("__debug__" : Str)) = false := by decide +kernel) (hcd : (x == ("__classdict__" : Str)) = false := by decide +kernel) :
    ∀ σ Hi, GS G σ Hi → ∃ d, (tDT ks).p (.ref d) Hi ∧ ∀ X, CtxOk c sc X → ∀ Hi2 H2, Le Hi Hi2 → WI c.W Hi2 H2 → eW X (.Name x pos) σ H2 (fun v H3 => v = .ref d ∧ H3 = H2) := fun σ Hi s => by
  obtain ⟨v, h1, d, o, kvs, rfl, h2⟩ := s.get hG
  exact ⟨d, ⟨d, o, kvs, rfl, h2⟩, fun X C Hi2 H2 _ _ => eW_of (pe_var (i := i) (by rw [C.hN]; exact hN) (C.vis x (vis_of hv)) hd hcd) ⟨_, h1, rfl, rfl⟩⟩
theorem sel_0 {ks : List (List Key × Ty)} {Ts : List Ty} {x : Str} {j : Nat} (i : Nat) (hG : G[i]? = some (some (tLst (tDT ks :: Ts)))) (hN : c.N[i]? = some x) (hv : visB sc x = true) (hd : (x == ("__debug__" : Str)) = false := by decide +kernel) (hcd : (x == ("__classdict__" : Str)) = false := by decide +kernel) :
    ∀ σ Hi, GS G σ Hi → ∃ d, (tDT ks).p (.ref d) Hi ∧ ∀ X, CtxOk c sc X → ∀ Hi2 H2, Le Hi Hi2 → WI c.W Hi2 H2 → eW X (.Subscript (.Name x p2) (.Constant (.int 0) j p3) pos) σ H2 (fun v H3 => v = .ref d ∧ H3 = H2) := fun σ Hi s => by
  obtain ⟨v, h1, l, xs, rfl, h2, h3⟩ := s.get hG
  obtain ⟨y, h4, d, o, kvs, rfl, h5⟩ := h3.get (i := 0) rfl
  refine ⟨d, ⟨d, o, kvs, rfl, h5⟩, fun X C Hi2 H2 le w => eW_of (pe_ix ix_seq (pe_var (i := i) (by rw [C.hN]; exact hN) (C.vis x (vis_of hv)) hd hcd) pe_int (fun _ _ => rfl)) ⟨_, h1, ?_⟩⟩
  exact .inl ⟨l, xs, 0, .ref d, rfl, rfl, sqL_of (w.same _ _ (le.solid solid_lst h2)), atI_of (n := 0) rfl h4, rfl, rfl⟩
end
end Lg

set_option maxHeartbeats 4000000
namespace Lg
open PySem PySem.Spec PyProof.Rows L2
/-! ### a comprehension of two clauses -/
section
variable {c : Cst} {sc : Scope} {G : Gm} {X : Cx} {σ : L2.St} {Hi H : Hp} {pos : Pos} {α β : Type}
def iU (c : Cst) (sc : Scope) (tg iter : Expr) : TI := fun σ H R => ∀ X, CtxOk c sc X → iW X tg iter σ H R
/-- what the first i give -/
def flat2 (xs : List α) (ys : α → List β) (p : α → β → Bool) (R : α → β → Ty) (i : Nat) : List Ty := (xs.take i).flatMap fun x => ((ys x).filter (p x)).map (R x)
theorem flat2_succ {xs : List α} {ys : α → List β} {p : α → β → Bool} {R : α → β → Ty} {i : Nat} {x : α} (h : xs[i]? = some x) : flat2 xs ys p R (i + 1) = flat2 xs ys p R i ++ ((ys x).filter (p x)).map (R x) := by
  unfold flat2
  rw [List.take_succ, h, List.flatMap_append]
  simp
theorem flat2_len {xs : List α} {ys : α → List β} {p : α → β → Bool} {R : α → β → Ty} {M : Nat} (hM : ∀ x ∈ xs, (ys x).length ≤ M) : ∀ i, (flat2 xs ys p R i).length ≤ i * M
  | 0 => by simp [flat2]
  | i + 1 => by
    have ih := flat2_len (p := p) (R := R) hM i
    cases h : xs[i]? with
    | none =>
      have e : flat2 xs ys p R (i + 1) = flat2 xs ys p R i := by
        unfold flat2
        rw [List.take_succ, h]
        simp
      rw [e]
      exact Nat.le_trans ih (Nat.mul_le_mul_right _ (Nat.le_succ _))
    | some x =>
      rw [flat2_succ h, List.length_append, List.length_map, Nat.succ_mul]
      have h1 := List.length_filter_le (p x) (ys x)
      have h2 := hM x (List.mem_of_getElem? h)
      omega
structure XC2 (c : Cst) (sc : Scope) (G : Gm) (elt tg iter tg1 iter1 : Expr) (ifs1 : List Expr) (scope : Scope) (own : List (Str × Nat)) (vs1 : List Nat) (xs : List α) (ys : α → List β) (p : α → β → Bool) (R : α → β → Ty) : Prop where
  d : c.d = true
  ok : BlkOk c.N sc scope own
  ex : ∃ (F : α → Ty) (F1 : α → β → Ty) (js js1 : List Nat) (Us : α → List Ty) (Us1 : α → β → List Ty) (M : Nat), XL c sc G tg iter xs F ∧ (∀ j ∈ js, j ∈ own.map (·.2)) ∧ (∀ j ∈ js1, j ∈ vs1) ∧ (∀ j ∈ vs1, j ∈ own.map (·.2)) ∧ (∀ x ∈ xs, (ys x).length ≤ M) ∧ xs.length * M ≤ 100000 ∧
    (∀ x ∈ xs, XG c.inb scope tg (F x) js (Us x)) ∧ (∀ x ∈ xs, XL c.inb scope (gset (gwipe G (own.map (·.2))) js (Us x)) tg1 iter1 (ys x) (F1 x)) ∧ (∀ x ∈ xs, ∀ y ∈ ys x, XG c.inb scope tg1 (F1 x y) js1 (Us1 x y)) ∧
    (∀ x ∈ xs, ∀ y ∈ ys x, XTs c.inb scope (gset (gwipe (gset (gwipe G (own.map (·.2))) js (Us x)) vs1) js1 (Us1 x y)) ifs1 (p x y)) ∧
    ∀ x ∈ xs, ∀ y ∈ ys x, p x y = true → XE c.inb scope (gset (gwipe (gset (gwipe G (own.map (·.2))) js (Us x)) vs1) js1 (Us1 x y)) elt (R x y)
theorem lc2_t {elt tg iter tg1 iter1 : Expr} {ifs1 : List Expr} {scope : Scope} {own : List (Str × Nat)} {vs1 : List Nat} {xs : List α} {ys : α → List β} {p : α → β → Bool} {R : α → β → Ty} (L : XC2 c sc G elt tg iter tg1 iter1 ifs1 scope own vs1 xs ys p R) (C : CtxOk c sc X) (w : WI c.W Hi H) (g : GS G σ Hi) :
    tLc2 (iW X tg iter) (gU c.inb scope tg) (tU c.inb scope []) (iU c.inb scope tg1 iter1) (gU c.inb scope tg1) (tU c.inb scope ifs1) (eU c.inb scope elt) (own.map (·.2)) vs1 σ H (RN c.W Hi H (flat2 xs ys p R xs.length)) := by
  obtain ⟨F, F1, js, js1, Us, Us1, M, hi, hjs, hjs1, hv, hM, hl, hg, hi1, hg1, ht1, he⟩ := L.ex
  refine fun pins s I => (iW_pi (X := X)).run pins s σ H _ I fun pins s I => ?_
  refine thn (hi X C σ Hi H w g pins s I) fun v s1 h1 => thn h1 fun itv s2 ⟨ita, fp, tn, J, H1, e, I2, T, st, fr, Hi1, g1, ok⟩ => ⟨ita, fp, tn, J, H1, e, I2, T, st, fr, fun D hD => ?_⟩
  have hD0 : H D = none := by
    cases e : H D with
    | none => rfl
    | some o =>
      by_cases hc : ∀ c' ∈ c.W, c'.a ≠ D
      · rw [g1.keep D o e hc] at hD; cases hD
      · exact (hc (g1.wi.off hD)).elim
  have hDi := g1.wi.none hD
  have hDc := g1.wi.off hD
  refine ⟨fun i m H' => m = xs.length - i ∧ i ≤ xs.length ∧ ∃ Hi' acc, Gr c.W Hi H Hi' H' ∧ Le Hi1 Hi' ∧ H' D = some (.lst acc) ∧ Hi' D = none ∧ TsP (flat2 xs ys p R i) acc Hi', ⟨xs.length, by omega, Nat.zero_le _, Hi1, [], g1.put hD0 hDi hDc, Le.refl _, upd_same, hDi, trivial⟩, ?_⟩
  rintro i m H2 ⟨rfl, hin, Hi2, acc, g2, l2, hx, hDi2, tx⟩
  obtain ⟨go, stop⟩ := ok Hi2 H2 l2 g2.wi
  by_cases hlt : i < xs.length
  · obtain ⟨go1, yld⟩ := go i hlt
    have hxi : xs[i]? = some xs[i] := List.getElem?_eq_getElem hlt
    have hmx : xs[i] ∈ xs := List.getElem_mem hlt
    refine .inr ⟨go1, fun H' => ∃ Hi' acc, Gr c.W Hi H Hi' H' ∧ Le Hi1 Hi' ∧ H' D = some (.lst acc) ∧ Hi' D = none ∧ TsP (flat2 xs ys p R (i + 1)) acc Hi', fun H' ⟨Hi', acc, q⟩ => ⟨xs.length - (i + 1), by omega, rfl, hlt, Hi', acc, q⟩, fun x H3 hy => ?_⟩
    obtain ⟨Hi3, g3, tx3⟩ := yld x H3 hy
    rw [tyO_at hxi] at tx3
    intro X' C'
    refine hg _ hmx X' C' (L2.wipe σ (own.map (·.2))) Hi3 H3 x g3.wi tx3 _ fun vs tvs => ?_
    refine ⟨(wipe_setAll hjs).trans wipe_wipe, fun X2 C2 pins' s' I' => (pts_nil (X := X2)).run pins' s' _ _ _ I' ?_⟩
    unfold tYes
    simp only [if_true]
    have gs : GS (gset (gwipe G (own.map (·.2))) js (Us xs[i])) (setAll (L2.wipe σ (own.map (·.2))) js vs) Hi3 := ((g.mo (g2.trans g3).le).wipe _).setAll tvs
    generalize setAll (L2.wipe σ (own.map (·.2))) js vs = σ2 at gs
    intro X3 C3 pins3 s3 I3
    have hD3 : H3 D = some (.lst acc) := g3.keep D _ hx hDc
    have hDi3 : Hi3 D = none := g3.off D _ hDi2 hx (fun _ z => nomatch z)
    have g23 := g2.trans g3
    refine thn (hi1 _ hmx X3 C3 σ2 Hi3 H3 g3.wi gs pins3 s3 I3) fun v4 s4 h4 => thn h4 fun itv4 s5 ⟨ita1, fp1, tn1, J1, H4, e4, I4, T4, st4, fr4, Hi4, g4, ok4⟩ => ⟨ita1, fp1, tn1, J1, H4, e4, I4, T4, st4, fr4, ?_⟩
    have hD4 : H4 D = some (.lst acc) := g4.keep D _ hD3 hDc
    have hDi4 : Hi4 D = none := g4.off D _ hDi3 hD3 (fun _ z => nomatch z)
    have g24 := g23.trans g4
    refine ⟨fun j k H' => k = (ys xs[i]).length - j ∧ j ≤ (ys xs[i]).length ∧ ∃ Hi' acc, Gr c.W Hi H Hi' H' ∧ Le Hi1 Hi' ∧ Le Hi4 Hi' ∧ H' D = some (.lst acc) ∧ Hi' D = none ∧ TsP (flat2 xs ys p R i ++ (((ys xs[i]).take j).filter (p xs[i])).map (R xs[i])) acc Hi',
      ⟨_, rfl, Nat.zero_le _, Hi4, acc, g24, l2.trans (g3.le.trans g4.le), Le.refl _, hD4, hDi4, by simpa using tx.mo (g3.le.trans g4.le)⟩, ?_⟩
    rintro j k H5 ⟨rfl, hjn, Hi5, acc5, g5, l5, l45, hx5, hDi5, tx5⟩
    obtain ⟨go4, stop4⟩ := ok4 Hi5 H5 l45 g5.wi
    by_cases hlj : j < (ys xs[i]).length
    · obtain ⟨go5, yld5⟩ := go4 j hlj
      have hyj : (ys xs[i])[j]? = some (ys xs[i])[j] := List.getElem?_eq_getElem hlj
      have hmy : (ys xs[i])[j] ∈ ys xs[i] := List.getElem_mem hlj
      generalize hy0 : (ys xs[i])[j] = y0 at hyj hmy
      refine .inr ⟨go5, fun H' => ∃ Hi' acc, Gr c.W Hi H Hi' H' ∧ Le Hi1 Hi' ∧ Le Hi4 Hi' ∧ H' D = some (.lst acc) ∧ Hi' D = none ∧ TsP (flat2 xs ys p R i ++ (((ys xs[i]).take (j + 1)).filter (p xs[i])).map (R xs[i])) acc Hi', fun H' ⟨Hi', acc, q⟩ => ⟨(ys xs[i]).length - (j + 1), by omega, rfl, hlj, Hi', acc, q⟩, fun x6 H6 hy6 => ?_⟩
      obtain ⟨Hi6, g6, tx6⟩ := yld5 x6 H6 hy6
      rw [tyO_at hyj] at tx6
      intro X7 C7
      have le36 : Le Hi3 Hi6 := g4.le.trans (l45.trans g6.le)
      refine hg1 _ hmx _ hmy X7 C7 (L2.wipe σ2 vs1) Hi6 H6 x6 g6.wi tx6 _ fun us tus => ?_
      refine ⟨(wipe_setAll hjs1).trans wipe_wipe, fun X8 C8 => ?_⟩
      have gs6 : GS (gset (gwipe (gset (gwipe G (own.map (·.2))) js (Us xs[i])) vs1) js1 (Us1 xs[i] y0)) (setAll (L2.wipe σ2 vs1) js1 us) Hi6 := ((gs.mo le36).wipe _).setAll tus
      intro pins8 s8 I8
      refine thn (ht1 _ hmx _ hmy X8 C8 _ Hi6 H6 g6.wi gs6 pins8 s8 I8) fun b' s9 ⟨H7, I9, eb, Hi7, g7⟩ => ⟨H7, I9, ?_⟩
      subst eb
      have hD6 : H6 D = some (.lst acc5) := g6.keep D _ hx5 hDc
      have hDi6 : Hi6 D = none := g6.off D _ hDi5 hx5 (fun _ z => nomatch z)
      have hD7 : H7 D = some (.lst acc5) := g7.keep D _ hD6 hDc
      have hDi7 : Hi7 D = none := g7.off D _ hDi6 hD6 (fun _ z => nomatch z)
      have g57 := (g5.trans g6).trans g7
      have tk : (ys xs[i]).take (j + 1) = (ys xs[i]).take j ++ [y0] := by rw [List.take_succ, hyj]; rfl
      cases hf : p xs[i] y0 with
      | false =>
        rw [if_neg Bool.false_ne_true]
        refine ⟨Hi7, acc5, g57, l5.trans (g6.le.trans g7.le), l45.trans (g6.le.trans g7.le), hD7, hDi7, ?_⟩
        rw [tk, List.filter_append, List.filter_cons, if_neg (by rw [hf]; decide), List.filter_nil, List.append_nil]
        exact tx5.mo (g6.le.trans g7.le)
      | true =>
        rw [if_pos rfl]
        intro X9 C9
        refine (he _ hmx _ hmy hf).use C9 g7.wi (gs6.mo g7.le) fun z Hi8 H8 g8 tz => ?_
        have hD8 : H8 D = some (.lst acc5) := g8.keep D _ hD7 hDc
        have hDi8 : Hi8 D = none := g8.off D _ hDi7 hD7 (fun _ z => nomatch z)
        have hlen : acc5.length < 100001 := by
          rw [tx5.len, List.length_append, List.length_map]
          have a1 := flat2_len (p := p) (R := R) hM i
          have a2 := List.length_filter_le (p xs[i]) ((ys xs[i]).take j)
          have a3 : ((ys xs[i]).take j).length ≤ M := by rw [List.length_take]; have := hM _ hmx; omega
          have a4 : (i + 1) * M ≤ xs.length * M := Nat.mul_le_mul_right _ hlt
          rw [Nat.succ_mul] at a4
          omega
        refine ⟨acc5, hD8, Nat.lt_of_lt_of_le hlen (by decide), Hi8, acc5 ++ [z], (g57.trans g8).put hD0 hDi8 hDc, l5.trans (g6.le.trans (g7.le.trans g8.le)), l45.trans (g6.le.trans (g7.le.trans g8.le)), upd_same, hDi8, ?_⟩
        rw [tk, List.filter_append, List.filter_cons, if_pos hf, List.filter_nil, List.map_append, ← List.append_assoc]
        exact (tx5.mo (g6.le.trans (g7.le.trans g8.le))).app ⟨tz, trivial⟩
    · have e' : j = (ys xs[i]).length := by omega
      subst e'
      refine .inl ⟨stop4, Hi5, acc5, g5, l5, hx5, hDi5, ?_⟩
      rw [flat2_succ hxi]
      rw [List.take_length] at tx5
      exact tx5
  · have e' : i = xs.length := by omega
    subst e'
    exact .inl ⟨stop, D, acc, Hi2, rfl, hD0, hx, hDi2, hDc, g2, tx⟩
theorem xn_lc2 {elt tg iter tg1 iter1 : Expr} {ifs1 : List Expr} {scope : Scope} {own : List (Str × Nat)} {vs1 : List Nat} {xs : List α} {ys : α → List β} {p : α → β → Bool} {R : α → β → Ty} (L : XC2 c sc G elt tg iter tg1 iter1 ifs1 scope own vs1 xs ys p R)
    (hs : ∀ env x, foldedSetIterable iter env x = pure x := by intro _ _; rfl) (hs1 : ∀ env x, foldedSetIterable iter1 env x = pure x := by intro _ _; rfl) :
    XN c sc G (.ListComp elt [⟨tg, iter, [], 0⟩, ⟨tg1, iter1, ifs1, 0⟩] scope pos) (flat2 xs ys p R xs.length) := fun X C σ Hi H w g => by
  have ok : BlkOk X.N X.env.scope scope own := by rw [C.hN, C.hd L.d]; exact L.ok
  obtain ⟨_, _, _, _, _, _, _, _, _, _, hv, _⟩ := L.ex
  exact eW_of (pe_lc2 C.calm (C.hN ▸ C.nd) iW_pi ok hv (fun s H a cl fp => ⟨fun pins s' σ' H' v u Q I r h => h _ (ctx_blk C s H a cl fp) pins s' u I r⟩) (fun s H a cl fp => ⟨fun pins s' σ' H' Q I h => h _ (ctx_blk C s H a cl fp) pins s' I⟩)
    (fun s H a cl fp => ⟨fun pins s' σ' H' R I h => h _ (ctx_blk C s H a cl fp) pins s' I⟩) (fun s H a cl fp => ⟨fun pins s' σ' H' v u Q I r h => h _ (ctx_blk C s H a cl fp) pins s' u I r⟩) (fun s H a cl fp => ⟨fun pins s' σ' H' Q I h => h _ (ctx_blk C s H a cl fp) pins s' I⟩)
    (fun s H a cl fp => ⟨fun pins s' σ' H' Q I h => h _ (ctx_blk C s H a cl fp) pins s' I⟩) (hs _) hs1) (lc2_t L C w g)
end
end Lg

set_option maxHeartbeats 4000000
namespace Lg
open PySem PySem.Spec PyProof.Rows L2
/-! ### one's own object is lent -/
noncomputable def delp (Hi : Hp) (p : Addr) : Hp := fun a => @ite _ (a = p) (Classical.propDecidable _) none (Hi a)
theorem delp_same {Hi : Hp} {p : Addr} : delp Hi p p = none := by unfold delp; rw [if_pos rfl]
theorem delp_ne {Hi : Hp} {p a : Addr} (h : a ≠ p) : delp Hi p a = Hi a := by unfold delp; rw [if_neg h]
/-- what does not hang on an object of a sort -/
def Free (P : HO → Prop) (T : Ty) : Prop := ∀ v Hi p u, P u → Hi p = some u → T.p v Hi → T.p v (delp Hi p)
def isD (u : HO) : Prop := ∃ kvs, u = .dK kvs
def isL (u : HO) : Prop := ∃ xs, u = .lst xs
theorem fr_tInt {P : HO → Prop} {i : Int} : Free P (tInt i) := fun _ _ _ _ _ _ h => h
theorem fr_tRef {P : HO → Prop} {a : Addr} : Free P (tRef a) := fun _ _ _ _ _ _ h => h
theorem fr_tBl {P : HO → Prop} {b : Bool} : Free P (tBl b) := fun _ _ _ _ _ _ h => h
theorem fr_all {P : HO → Prop} {Hi : Hp} {p : Addr} {u : HO} (hu : P u) (hp : Hi p = some u) : ∀ {Ts : List Ty} {vs : List V}, (∀ T ∈ Ts, Free P T) → TsP Ts vs Hi → TsP Ts vs (delp Hi p)
  | [], [], _, _ => trivial
  | T :: Ts, v :: vs, h, ⟨h1, h2⟩ => ⟨h T List.mem_cons_self v Hi p u hu hp h1, fr_all hu hp (fun T hT => h T (List.mem_cons_of_mem _ hT)) h2⟩
  | [], _ :: _, _, h => h.elim
  | _ :: _, [], _, h => h.elim
def noTup (P : HO → Prop) : Prop := ∀ u, P u → (∀ xs, u ≠ .tup xs) ∧ ∀ o xs, u ≠ .frz o (.tup xs)
theorem nt_D : noTup isD := fun u ⟨_, e⟩ => by subst e; exact ⟨(fun _ z => nomatch z), (fun _ _ z => nomatch z)⟩
theorem nt_L : noTup isL := fun u ⟨_, e⟩ => by subst e; exact ⟨(fun _ z => nomatch z), (fun _ _ z => nomatch z)⟩
theorem fr_tTup {P : HO → Prop} {K : PySem.W.Frag} {Ts : List Ty} (np : noTup P) (h : ∀ T ∈ Ts, Free P T) : Free P (tTup K Ts) := fun v Hi p u hu hp ⟨a, xs, e, hs, ht⟩ => by
  refine ⟨a, xs, e, ?_, fr_all hu hp h ht⟩
  rcases hs with (hs | ⟨o, hs⟩) | hs
  · exact .inl (.inl (by rw [delp_ne fun z => by rw [z, hp] at hs; cases hs; exact (np _ hu).1 _ rfl]; exact hs))
  · exact .inl (.inr ⟨o, by rw [delp_ne fun z => by rw [z, hp] at hs; cases hs; exact (np _ hu).2 _ _ rfl]; exact hs⟩)
  · exact .inr hs
theorem fr_tLst {Ts : List Ty} (h : ∀ T ∈ Ts, Free isD T) : Free isD (tLst Ts) := fun v Hi p u hu hp ⟨a, xs, e, hs, ht⟩ => by
  refine ⟨a, xs, e, ?_, fr_all hu hp h ht⟩
  rw [delp_ne fun z => by
    rw [z, hp] at hs
    cases hs
    obtain ⟨_, e⟩ := hu
    cases e]
  exact hs
section
variable {c : Cst} {sc : Scope} {G G' : Gm} {X : Cx} {e a b o i : Expr} {T T1 T2 Tp : Ty} {σ : L2.St} {Hi H Hi0 H0 Hi2 H2 : Hp} {pos : Pos} {Ts Us : List Ty} {O : List Own} {rest body : List Stmt} {N M : L2.St → Hp → Prop}
theorem unlend {p : Addr} {u : HO} (hp : Hi p = none) (hH : H p = some u) (g : Gr [] (upd Hi p u) H Hi2 H2) : Gr [] Hi H (delp Hi2 p) H2 ∧ H2 p = some u ∧ ∃ u', Hi2 p = some u' ∧ u' = u := by
  have h2 : H2 p = some u := g.keep p u hH (fun _ h => nomatch h)
  obtain ⟨u', e1, _⟩ := g.le p u upd_same
  have e2 : u' = u := by
    have := g.wi.same p u' e1
    rw [h2] at this
    exact (Option.some.inj this).symm
  refine ⟨⟨fun q w hq => ?_, ⟨fun q w hq => ?_, g.wi.nd, fun _ h => nomatch h⟩, g.keep, fun q w hq hw ht => ?_, fun _ h => nomatch h⟩, h2, u', e1, e2⟩
  · have ne : q ≠ p := ne_of_none hq hp
    rw [delp_ne ne]
    exact g.le q w (by rw [upd_ne ne]; exact hq)
  · have ne : q ≠ p := fun z => by rw [z, delp_same] at hq; cases hq
    rw [delp_ne ne] at hq
    exact g.wi.same q w hq
  · by_cases ne : q = p
    · rw [ne]; exact delp_same
    · rw [delp_ne ne]
      exact g.off q w (by rw [upd_ne ne]; exact hq) hw ht
/-- an expression in the state of a block -/
def XS (c : Cst) (sc : Scope) (G : Gm) (O : List Own) (e : Expr) (T : Ty) : Prop := ∀ X, CtxOk c sc X → ∀ σ Hi H Hi0 H0, Gr c.W Hi0 H0 Hi H → GS G σ Hi → OwnOk c.W H0 Hi H O → eW X e σ H (fun v H' => ∃ Hi', Gr c.W Hi H Hi' H' ∧ T.p v Hi')
theorem xs_of (h : XE c sc G e T) : XS c sc G O e T := fun X C σ Hi H Hi0 H0 g s k => h X C σ Hi H g.wi s
/-- the k-th of one's own is read where slot i names it -/
theorem xs_lend {ow : Own} {P : HO → Prop} (j k : Nat) (hW : c.W = []) (hO : O[k]? = some ow) (hG : G[j]? = some (some (tRef ow.a))) (hs : SealK ow Tp) (hP : ∀ u H, ow.q u H → P u) (hf : Free P T) (h : XE c sc (G.set j (some Tp)) e T) : XS c sc G O e T := fun X C σ Hi H Hi0 H0 g s w => by
  obtain ⟨⟨u, hu, hq⟩, hn, h0, _⟩ := w.at_ ow (own_mem hO)
  have le : Le Hi (upd Hi ow.a u) := Le.of (same_new hn)
  rw [hW] at g ⊢
  have w1 : WI c.W (upd Hi ow.a u) H := by
    rw [hW]
    exact g.wi.seal hu hn (fun _ h => nomatch h)
  obtain ⟨v, e1, e2⟩ := s.get hG
  have s1 : GS (G.set j (some Tp)) σ (upd Hi ow.a u) := by
    have := GS.set (v := v) (show Tp.p v (upd Hi ow.a u) by cases (show v = .ref ow.a from e2); exact hs u Hi hq hn) j (s.mo le)
    have e3 : σ.set j (some v) = σ := by
      apply List.ext_getElem?
      intro m
      by_cases hm : j = m
      · subst hm
        rw [e1, List.getElem?_set_self (List.getElem?_eq_some_iff.mp e1).1]
      · rw [List.getElem?_set_ne hm]
    rw [e3] at this
    exact this
  refine h.use C w1 s1 fun y Hi2 H2 g2 t2 => ?_
  rw [hW] at g2
  obtain ⟨g3, h3, u', e4, e5⟩ := unlend hn hu g2
  exact ⟨_, g3, hf y Hi2 ow.a u' (e5 ▸ hP u Hi hq) e4 t2⟩
def XTS (c : Cst) (sc : Scope) (G : Gm) (O : List Own) (e : Expr) (b : Bool) : Prop := ∀ X, CtxOk c sc X → ∀ σ Hi H Hi0 H0, Gr c.W Hi0 H0 Hi H → GS G σ Hi → OwnOk c.W H0 Hi H O → tW X e σ H (fun b' H' => b' = b ∧ ∃ Hi', Gr c.W Hi H Hi' H')
theorem xtt_of {b : Bool} (h : XT c sc G e b) : XTS c sc G O e b := fun X C σ Hi H Hi0 H0 g s k => h X C σ Hi H g.wi s
theorem xtt_lend {ow : Own} {b : Bool} (j k : Nat) (hW : c.W = []) (hO : O[k]? = some ow) (hG : G[j]? = some (some (tRef ow.a))) (hs : SealK ow Tp) (h : XT c sc (G.set j (some Tp)) e b) : XTS c sc G O e b := fun X C σ Hi H Hi0 H0 g s w => by
  obtain ⟨⟨u, hu, hq⟩, hn, h0, _⟩ := w.at_ ow (own_mem hO)
  have le : Le Hi (upd Hi ow.a u) := Le.of (same_new hn)
  rw [hW] at g ⊢
  have w1 : WI c.W (upd Hi ow.a u) H := by
    rw [hW]
    exact g.wi.seal hu hn (fun _ h => nomatch h)
  obtain ⟨v, e1, e2⟩ := s.get hG
  have s1 : GS (G.set j (some Tp)) σ (upd Hi ow.a u) := by
    have := GS.set (v := v) (show Tp.p v (upd Hi ow.a u) by cases (show v = .ref ow.a from e2); exact hs u Hi hq hn) j (s.mo le)
    have e3 : σ.set j (some v) = σ := by
      apply List.ext_getElem?
      intro m
      by_cases hm : j = m
      · subst hm
        rw [e1, List.getElem?_set_self (List.getElem?_eq_some_iff.mp e1).1]
      · rw [List.getElem?_set_ne hm]
    rw [e3] at this
    exact this
  refine h.use C w1 s1 fun Hi2 H2 g2 => ?_
  rw [hW] at g2
  exact ⟨rfl, _, (unlend hn hu g2).1⟩
theorem XS.use {Q : VK} (h : XS c sc G O e T) (C : CtxOk c sc X) (g : Gr c.W Hi0 H0 Hi H) (s : GS G σ Hi) (w : OwnOk c.W H0 Hi H O) (k : ∀ v Hi' H', Gr c.W Hi H Hi' H' → T.p v Hi' → Q v H') : eW X e σ H Q :=
  eW_mono (h X C σ Hi H Hi0 H0 g s w) fun v H' ⟨Hi', g', t'⟩ => k v Hi' H' g' t'
theorem xb_asgS (i : Nat) {x : Str} {p' : Pos} (he : XS c sc G O e T1) (h : XB c sc Hi0 H0 (SS c.W Hi0 H0 (G.set i (some T1)) O) rest N T) (hN : c.N[i]? = some x := by rfl) (hx : Loc' sc x := by first | exact Or.inl rfl | exact Or.inr rfl)
    (hs : ∀ env, swapsWith e (some (.Name x p')) pos.line env = pure false := by intro _; rfl) : XB c sc Hi0 H0 (SS c.W Hi0 H0 G O) (.Assign [.Name x p'] e pos :: rest) N T := fun X C σ H ⟨Hi, g, s, k⟩ =>
  bW_cons (ps_set (i := i) (C.hN ▸ C.nd) (by rw [C.hN]; exact hN) (C.sto x hx).1 eW_pe (hs _) (C.sto x hx).2) (he.use C g s k fun v Hi' H' g' t' =>
    h X C _ H' ⟨Hi', g.trans g', (s.mo g'.le).set t' i, k.gr g'⟩)
theorem xb_appS (k : Nat) {w : Addr} {apos cpos : Pos} (ho : XS c sc G O o (tRef w)) (he : XS c sc G O e T1) (hO : O[k]? = some (oLst w Ts)) (hl : Ts.length < 100000) (h : XB c sc Hi0 H0 (SS c.W Hi0 H0 G (O.set k (oLst w (Ts ++ [T1])))) rest N T)
    (hbase : ∀ env, attributeBase o "append" env (eval o env) = eval o env := by intro _; rfl)
    (hfew : ∀ env, ((backTo cpos (starEach [e] env)).all (fun x => !x.1) && (backToKw cpos (keywordEach [] env)).all (fun x => x.1.isSome) && decide ([e].length + ([] : List Keyword).length + (if ([] : List Keyword).isEmpty then 0 else 1) < 30)) = true := by intro _; rfl)
    (hline : (apos.endLine == cpos.line) = true := by rfl) (hs : ∀ env, starEach [e] env = (false, eval e env) :: starEach [] env := by intro _; rfl) (hplain : ∀ env, (backTo cpos (starEach [] env)).any (·.1) = false := by intro _; rfl)
    (hsw : ∀ env, swapsWith (.Call (.Attribute o "append" apos) [e] [] cpos) none pos.line env = pure false := by intro _; rfl) :
    XB c sc Hi0 H0 (SS c.W Hi0 H0 G O) (.Expr (.Call (.Attribute o "append" apos) [e] [] cpos) pos :: rest) N T := fun X C σ H ⟨Hi, g, s, w'⟩ => by
  refine bW_cons (ps_expr (pe_bm PySem.F.plainAttrs_list PySem.F.slot_list_append PySem.F.type_list_append mt_append eW_pe (pa_cons eW_pe pa_nil (hs _)) (hbase _) (hfew _) hline (hs _) (hplain _)) (hsw _)) ?_
  refine ho.use C g s w' fun x Hi1 H1 g1 t1 => ?_
  have w1 := w'.gr g1
  obtain ⟨⟨u, hu, xs, rfl, ts⟩, h2, h3, h4⟩ := w1.at_ _ (own_mem hO)
  cases (show x = .ref w from t1)
  refine ⟨.inl ⟨rfl, xs, SqL.of hu⟩, ?_⟩
  refine he.use C (g.trans g1) (s.mo g1.le) w1 fun y Hi2 H2 g2 t2 => ?_
  have hu2 : H2 w = some (.lst xs) := g2.keep _ _ hu h4
  refine ⟨w, xs, y, rfl, rfl, hu2, ?_, ?_⟩
  · rw [ts.len]
    exact Nat.lt_of_lt_of_le hl (by decide)
  · exact h X C σ _ (ss_put hO rfl ((g.trans g1).trans g2) (s.mo (g1.le.trans g2.le)) (w1.gr g2) ⟨_, rfl, (ts.mo g2.le).app ⟨t2, trivial⟩⟩)
/-- o.extend([..]) -/
theorem xb_ext (k : Nat) {w : Addr} {apos cpos : Pos} (ho : XE c sc G o (tRef w)) (he : XE c sc G e (tLst Us)) (hO : O[k]? = some (oLst w Ts)) (hl : Ts.length + Us.length ≤ 100000) (h : XB c sc Hi0 H0 (SS c.W Hi0 H0 G (O.set k (oLst w (Ts ++ Us)))) rest N T)
    (hbase : ∀ env, attributeBase o "extend" env (eval o env) = eval o env := by intro _; rfl)
    (hfew : ∀ env, ((backTo cpos (starEach [e] env)).all (fun x => !x.1) && (backToKw cpos (keywordEach [] env)).all (fun x => x.1.isSome) && decide ([e].length + ([] : List Keyword).length + (if ([] : List Keyword).isEmpty then 0 else 1) < 30)) = true := by intro _; rfl)
    (hline : (apos.endLine == cpos.line) = true := by rfl) (hs : ∀ env, starEach [e] env = (false, eval e env) :: starEach [] env := by intro _; rfl) (hplain : ∀ env, (backTo cpos (starEach [] env)).any (·.1) = false := by intro _; rfl)
    (hsw : ∀ env, swapsWith (.Call (.Attribute o "extend" apos) [e] [] cpos) none pos.line env = pure false := by intro _; rfl) :
    XB c sc Hi0 H0 (SS c.W Hi0 H0 G O) (.Expr (.Call (.Attribute o "extend" apos) [e] [] cpos) pos :: rest) N T := fun X C σ H ⟨Hi, g, s, w'⟩ => by
  refine bW_cons (ps_expr (pe_bm PySem.F.plainAttrs_list PySem.F.slot_list_extend PySem.F.type_list_extend mt_extend eW_pe (pa_cons eW_pe pa_nil (hs _)) (hbase _) (hfew _) hline (hs _) (hplain _)) (hsw _)) ?_
  refine ho.use C g.wi s fun x Hi1 H1 g1 t1 => ?_
  have w1 := w'.gr g1
  obtain ⟨⟨u, hu, xs, rfl, ts⟩, h2, h3, h4⟩ := w1.at_ _ (own_mem hO)
  cases (show x = .ref w from t1)
  refine ⟨.inl ⟨rfl, xs, SqL.of hu⟩, ?_⟩
  refine he.use C g1.wi (s.mo g1.le) fun y Hi2 H2 g2 t2 => ?_
  have hu2 : H2 w = some (.lst xs) := g2.keep _ _ hu h4
  obtain ⟨b, zs, rfl, hb, tz⟩ := t2
  refine ⟨w, b, xs, zs, rfl, rfl, hu2, g2.wi.same _ _ hb, ?_, ?_⟩
  · rw [ts.len, tz.len]
    exact size_small hl
  · exact h X C σ _ (ss_put hO rfl ((g.trans g1).trans g2) (s.mo (g1.le.trans g2.le)) (w1.gr g2) ⟨_, rfl, (ts.mo g2.le).app tz⟩)
theorem seqIx {j : Int} {n : Nat} (h0 : 0 ≤ j) (h1 : j < n) : seqIndex? j n = some j.toNat := by
  unfold seqIndex?
  have e : ¬ j < 0 := by omega
  simp only [e, if_false]
  rw [if_pos (by simp [h0, h1])]
theorem map_erase {α γ : Type} (f : α → γ) : ∀ (l : List α) (n : Nat), (l.map f).eraseIdx n = (l.eraseIdx n).map f
  | [], n => by simp
  | _ :: l, 0 => rfl
  | a :: l, n + 1 => by simp [map_erase f l n]
/-- x = xs[o.pop(e)] -/
theorem xb_popget (i k : Nat) {x : Str} {w : Addr} {apos cpos p' p2 : Pos} {is : List Int} {j m : Int} (ha : XE c sc G a (tLst Us)) (ho : XE c sc G o (tRef w)) (he : XS c sc G O e (tInt j)) (hO : O[k]? = some (oLst w (is.map tInt))) (h0 : 0 ≤ j) (h1 : j < is.length) (h2 : j < 100000) (hj : is[j.toNat]? = some m) (hm : 0 ≤ m) (hT : Us[m.toNat]? = some T1)
    (h : XB c sc Hi0 H0 (SS c.W Hi0 H0 (G.set i (some T1)) (O.set k (oLst w ((is.eraseIdx j.toNat).map tInt)))) rest N T) (hN : c.N[i]? = some x := by rfl) (hx : Loc' sc x := by first | exact Or.inl rfl | exact Or.inr rfl)
    (hbase : ∀ env, attributeBase o "pop" env (eval o env) = eval o env := by intro _; rfl)
    (hfew : ∀ env, ((backTo cpos (starEach [e] env)).all (fun x => !x.1) && (backToKw cpos (keywordEach [] env)).all (fun x => x.1.isSome) && decide ([e].length + ([] : List Keyword).length + (if ([] : List Keyword).isEmpty then 0 else 1) < 30)) = true := by intro _; rfl)
    (hline : (apos.endLine == cpos.line) = true := by rfl) (hs : ∀ env, starEach [e] env = (false, eval e env) :: starEach [] env := by intro _; rfl) (hplain : ∀ env, (backTo cpos (starEach [] env)).any (·.1) = false := by intro _; rfl)
    (hsw : ∀ env, swapsWith (.Subscript a (.Call (.Attribute o "pop" apos) [e] [] cpos) p2) (some (.Name x p')) pos.line env = pure false := by intro _; rfl) (hpi : PlainIx (.Call (.Attribute o "pop" apos) [e] [] cpos) := by intro _ _; rfl) :
    XB c sc Hi0 H0 (SS c.W Hi0 H0 G O) (.Assign [.Name x p'] (.Subscript a (.Call (.Attribute o "pop" apos) [e] [] cpos) p2) pos :: rest) N T := fun X C σ H ⟨Hi, g, s, w'⟩ => by
  refine bW_cons (ps_set (i := i) (C.hN ▸ C.nd) (by rw [C.hN]; exact hN) (C.sto x hx).1 (pe_ix ix_seq eW_pe (pe_bm PySem.F.plainAttrs_list PySem.F.slot_list_pop PySem.F.type_list_pop mt_popAt eW_pe (pa_cons eW_pe pa_nil (hs _)) (hbase _) (hfew _) hline (hs _) (hplain _)) hpi) (hsw _) (C.sto x hx).2) ?_
  refine ha.use C g.wi s fun v0 Hi9 H9 g9 t9 => ?_
  refine ho.use C g9.wi (s.mo g9.le) fun x1 Hi1 H1 g1 t1 => ?_
  have g91 := g9.trans g1
  have w1 := w'.gr g91
  obtain ⟨⟨u, hu, xs, rfl, ts⟩, q2, q3, q4⟩ := w1.at_ _ (own_mem hO)
  cases (show x1 = .ref w from t1)
  refine ⟨.inl ⟨rfl, xs, SqL.of hu⟩, ?_⟩
  refine he.use C (g.trans g91) (s.mo g91.le) w1 fun y Hi2 H2 g2 t2 => ?_
  cases (show y = .int j from t2)
  have hu2 : H2 w = some (.lst xs) := g2.keep _ _ hu q4
  have ex := ints_of_TsP ts
  subst ex
  have hl : ((is.map V.int).length : Nat) = is.length := List.length_map _
  refine ⟨w, is.map V.int, j, j.toNat, .int m, rfl, rfl, hu2, by omega, by omega, by rw [hl]; exact seqIx h0 h1, by rw [List.getElem?_map, hj]; rfl, ?_⟩
  have g92 := g91.trans g2
  obtain ⟨l, zs, rfl, hz, tz⟩ := (tLst Us).mo (g1.le.trans g2.le) t9
  obtain ⟨r, hr, tr⟩ := tz.get hT
  have w2 := w'.gr g92
  have er : TsP ((is.eraseIdx j.toNat).map tInt) ((is.map V.int).eraseIdx j.toNat) Hi2 := by
    have q := (TsP_of_ints (H := Hi2) is).erase j.toNat
    rw [map_erase] at q
    exact q
  have hlw : l ≠ w := fun z => by
    have := (w2.at_ _ (own_mem hO)).2.1
    have this : Hi2 w = none := this
    rw [← z, hz] at this
    cases this
  refine .inl ⟨l, zs, m, r, rfl, rfl, sqL_of ?_, atI_of (n := m.toNat) (by omega) hr, ?_⟩
  · show upd H2 w _ l = _
    rw [upd_ne hlw]
    exact g2.wi.same _ _ hz
  · exact h X C _ _ (ss_put (o := oLst w (is.map tInt)) (o' := oLst w ((is.eraseIdx j.toNat).map tInt)) hO rfl (g.trans g92) ((s.mo g92.le).set tr i) w2 ⟨_, rfl, er⟩)
end
end Lg

set_option maxHeartbeats 4000000
namespace Lg
open PySem PySem.Spec PyProof.Rows L2
section
variable {c : Cst} {sc : Scope} {G G' : Gm} {X : Cx} {e a b o i : Expr} {T T1 T2 Tp : Ty} {σ : L2.St} {Hi H Hi0 H0 Hi2 H2 : Hp} {pos : Pos} {Ts Us : List Ty} {O : List Own} {rest body : List Stmt} {N M : L2.St → Hp → Prop}
theorem xb_whileS {α : Type} {t : Expr} {body : List Stmt} (Gi : α → Gm) (Oi : α → List Own) (μ : α → Nat) (b : α → Bool) (a0 : α) (h0 : GLe G (Gi a0)) (ho : O = Oi a0) (ht : ∀ a, XTS c sc (Gi a) (Oi a) t (b a))
    (hb : ∀ a, b a = true → XB c sc Hi0 H0 (SS c.W Hi0 H0 (Gi a) (Oi a)) body (fun σ H => ∃ a', μ a' < μ a ∧ SS c.W Hi0 H0 (Gi a') (Oi a') σ H) T) (h : ∀ a, b a = false → XB c sc Hi0 H0 (SS c.W Hi0 H0 (Gi a) (Oi a)) rest N T) :
    XB c sc Hi0 H0 (SS c.W Hi0 H0 G O) (.While t body [] pos :: rest) N T := fun X C σ H h1 => by
  subst ho
  refine bW_cons (ps_while (never_of C) tW_pt bW_ps) ?_
  refine ⟨fun m σ' H' => ∃ a, m = μ a ∧ SS c.W Hi0 H0 (Gi a) (Oi a) σ' H', ⟨_, a0, rfl, h1.le h0⟩, ?_⟩
  rintro m σ2 H2 ⟨a, rfl, Hi2, g2, s2, k2⟩
  refine tW_mono (ht a X C σ2 Hi2 H2 _ _ g2 s2 k2) fun b' H3 ⟨eb, Hi3, g3⟩ => ?_
  subst eb
  have a3 : SS c.W Hi0 H0 (Gi a) (Oi a) σ2 H3 := ⟨Hi3, g2.trans g3, s2.mo g3.le, k2.gr g3⟩
  cases e : b a with
  | true =>
    rw [if_pos rfl]
    refine ⟨fun σ' H' => ∃ a', μ a' < μ a ∧ SS c.W Hi0 H0 (Gi a') (Oi a') σ' H', fun σ' H' ⟨a', l, q⟩ => ⟨μ a', l, a', rfl, q⟩, ?_⟩
    exact bW_mono (hb a e X C σ2 H3 a3) (fun _ _ q => q) (fun _ _ q => q) (fun _ _ (q : False) => q.elim) (fun _ _ (q : False) => q.elim)
  | false =>
    rw [if_neg Bool.false_ne_true]
    exact h a e X C σ2 H3 a3
theorem xb_dputKS (k : Nat) {w : Addr} {ks : List (Key × Ty)} {z : Str} {tp : Pos} (he : XS c sc G O e T1) (ho : XE c sc G o (tRef w)) (hi : XE c sc G i (tStr z)) (hO : O[k]? = some (oDK w ks)) (hn : (Sum.inr z : Key) ∉ ks.map (·.1)) (hl : ks.length < 100000) (h : XB c sc Hi0 H0 (SS c.W Hi0 H0 G (O.set k (oDK w (ks ++ [(Sum.inr z, T1)])))) rest N T)
    (hs : ∀ env, swapsWith e (some (.Subscript o i tp)) pos.line env = pure false := by intro _; rfl) :
    XB c sc Hi0 H0 (SS c.W Hi0 H0 G O) (.Assign [.Subscript o i tp] e pos :: rest) N T := fun X C σ H ⟨Hi, g, s, w'⟩ => by
  refine bW_cons (ps_dput C.hu eW_pe eW_pe eW_pe (hs _)) ?_
  refine he.use C g s w' fun v Hi1 H1 g1 t1 => ho.use C g1.wi (s.mo g1.le) fun x Hi2 H2 g2 t2 => hi.use C g2.wi (s.mo (g1.le.trans g2.le)) fun y Hi3 H3 g3 t3 => ?_
  have g13 := (g1.trans g2).trans g3
  obtain ⟨⟨u, hu, kvs, rfl, ts⟩, h2, h3, h4⟩ := (w'.gr g13).at_ _ (own_mem hO)
  cases (show x = .ref w from t2)
  cases (show y = .str z from t3)
  refine ⟨w, _, rfl, DPut.k (k := Sum.inr z) hu (Nat.lt_of_lt_of_le (by rw [ts.len]; exact hl) (by decide)), ?_⟩
  rw [putK_new _ (kvp_none ts hn)]
  exact h X C σ _ (ss_put hO rfl (g.trans g13) (s.mo g13.le) (w'.gr g13) ⟨_, rfl, kvp_snoc (T1.mo (g2.le.trans g3.le) t1) ts⟩)
/-- o[z] = [..], the list one's own -/
theorem xb_dputNew (k : Nat) {w : Addr} {ks : List (Key × Ty)} {z : Str} {tp : Pos} (he : XN c sc G e Ts) (ho : XE c sc G o (tRef w)) (hi : XE c sc G i (tStr z)) (hO : O[k]? = some (oDK w ks)) (hn : (Sum.inr z : Key) ∉ ks.map (·.1)) (hl : ks.length < 100000)
    (h : ∀ p, XB c sc Hi0 H0 (SS c.W Hi0 H0 G (oLst p Ts :: O.set k (oDK w (ks ++ [(Sum.inr z, tRef p)])))) rest N T)
    (hs : ∀ env, swapsWith e (some (.Subscript o i tp)) pos.line env = pure false := by intro _; rfl) :
    XB c sc Hi0 H0 (SS c.W Hi0 H0 G O) (.Assign [.Subscript o i tp] e pos :: rest) N T := fun X C σ H ⟨Hi, g, s, w'⟩ => by
  refine bW_cons (ps_dput C.hu eW_pe eW_pe eW_pe (hs _)) ?_
  refine eW_mono (he X C σ Hi H g.wi s) fun v H1 r => ?_
  obtain ⟨p, rfl, Hi1, g1, s1, w1⟩ := r.own g w' s (G.length + 7)
  have eσ : ∀ τ : L2.St, GS (G.set (G.length + 7) (some (tRef p))) τ Hi1 → GS G τ Hi1 := fun τ h => by
    rw [List.set_eq_of_length_le (by omega)] at h; exact h
  have s1 := eσ _ s1
  have e2 : σ.set (G.length + 7) (some (V.ref p)) = σ := by
    have : ∀ (G : Gm) (τ : L2.St), GS G τ Hi → τ.length = G.length := by
      intro G
      induction G with
      | nil => intro τ h; cases τ with
        | nil => rfl
        | cons _ _ => exact h.elim
      | cons x G ih => intro τ h; cases τ with
        | nil => cases x <;> exact h.elim
        | cons y τ => cases x with
          | none => exact congrArg Nat.succ (ih τ h)
          | some T => exact congrArg Nat.succ (ih τ h.2)
    rw [List.set_eq_of_length_le (by rw [this G σ s]; omega)]
  rw [e2] at s1
  refine ho.use C g1.wi s1 fun x Hi2 H2 g2 t2 => hi.use C g2.wi (s1.mo g2.le) fun y Hi3 H3 g3 t3 => ?_
  have g23 := g2.trans g3
  have w3 := w1.gr g23
  have hO' : (oLst p Ts :: O)[k + 1]? = some (oDK w ks) := by simpa using hO
  obtain ⟨⟨u, hu, kvs, rfl, ts⟩, h2, h3, h4⟩ := w3.at_ _ (own_mem hO')
  cases (show x = .ref w from t2)
  cases (show y = .str z from t3)
  refine ⟨w, _, rfl, DPut.k (k := Sum.inr z) hu (Nat.lt_of_lt_of_le (by rw [ts.len]; exact hl) (by decide)), ?_⟩
  rw [putK_new _ (kvp_none ts hn)]
  have := ss_put (o' := oDK w (ks ++ [(Sum.inr z, tRef p)])) hO' rfl (g1.trans g23) (s1.mo g23.le) w3 ⟨_, rfl, kvp_snoc (T := tRef p) (v := .ref p) rfl ts⟩
  exact h p X C σ _ this
/-- x = {z1: e1, z2: e2}: one's own -/
theorem xb_disp2 (j : Nat) {x : Str} {p' dp : Pos} {k1 k2 e1 e2 : Expr} {z1 z2 : Str} (h1 : XE c sc G k1 (tStr z1)) (h2 : XE c sc G e1 T1) (h3 : XE c sc G k2 (tStr z2)) (h4 : XE c sc G e2 T2) (hne : ¬ z1 = z2)
    (h : ∀ p, XB c sc Hi0 H0 (SS c.W Hi0 H0 (G.set j (some (tRef p))) (oDK p [(Sum.inr z1, T1), (Sum.inr z2, T2)] :: O)) rest N T) (hN : c.N[j]? = some x := by rfl) (hx : Loc' sc x := by first | exact Or.inl rfl | exact Or.inr rfl)
    (hs : ∀ env, swapsWith (.Dict [some k1, some k2] [e1, e2] dp) (some (.Name x p')) pos.line env = pure false := by intro _; rfl) :
    XB c sc Hi0 H0 (SS c.W Hi0 H0 G O) (.Assign [.Name x p'] (.Dict [some k1, some k2] [e1, e2] dp) pos :: rest) N T := fun X C σ H ⟨Hi, g, s, w⟩ => by
  refine bW_cons (ps_set (i := j) (C.hN ▸ C.nd) (by rw [C.hN]; exact hN) (C.sto x hx).1 (pe_disp (pps_cons eW_pe eW_pe (pps_cons eW_pe eW_pe pps_nil)) rfl rfl (by simp) (by simp)) (hs _) (C.sto x hx).2) ?_
  intro p hp
  have hd : SS c.W Hi0 H0 (G.set (G.length + 7) (some (tRef p))) (oDK p [] :: O) (σ.set (G.length + 7) (some (.ref p))) (upd H p (.dK [])) := ss_own (o := oDK p []) (u := .dK []) rfl g hp s w ⟨[], rfl, trivial⟩ (G.length + 7)
  obtain ⟨Hi1, g1, s1, w1⟩ := hd
  have e0 : G.set (G.length + 7) (some (tRef p)) = G := List.set_eq_of_length_le (by omega)
  have hlen : ∀ (G : Gm) (τ : L2.St), GS G τ Hi → τ.length = G.length := by
    intro G
    induction G with
    | nil => intro τ h; cases τ with
      | nil => rfl
      | cons _ _ => exact h.elim
    | cons x G ih => intro τ h; cases τ with
      | nil => cases x <;> exact h.elim
      | cons y τ => cases x with
        | none => exact congrArg Nat.succ (ih τ h)
        | some T => exact congrArg Nat.succ (ih τ h.2)
  have e00 : σ.set (G.length + 7) (some (V.ref p)) = σ := List.set_eq_of_length_le (by rw [hlen G σ s]; omega)
  rw [e0, e00] at s1
  show eW X k1 σ _ _
  refine h1.use C g1.wi s1 fun v1 Hi2 H2 g2 t1 => h2.use C g2.wi (s1.mo g2.le) fun v2 Hi3 H3 g3 t2 => ?_
  have g23 := g2.trans g3
  show eW X k2 σ _ _
  refine h3.use C g3.wi (s1.mo g23.le) fun v3 Hi4 H4 g4 t3 => h4.use C g4.wi (s1.mo (g23.trans g4).le) fun v4 Hi5 H5 g5 t4 => ?_
  have g25 := (g23.trans g4).trans g5
  have w5 := w1.gr g25
  obtain ⟨⟨u, hu, kvs, rfl, ts⟩, q2, q3, q4⟩ := w5.at_ (oDK p []) List.mem_cons_self
  have ek : kvs = [] := List.length_eq_zero_iff.mp ts.len
  subst ek
  cases (show v1 = .str z1 from t1)
  cases (show v3 = .str z2 from t3)
  refine ⟨hu, [(Sum.inr z1, v2), (Sum.inr z2, v4)], rfl, by simp, ?_⟩
  have em : mergeK [] [(Sum.inr z1, v2), (Sum.inr z2, v4)] = [((Sum.inr z1 : Key), v2), (Sum.inr z2, v4)] := by
    show putK (putK [] (Sum.inr z1) v2) (Sum.inr z2) v4 = _
    rw [putK_new (kvs := []) v2 rfl, List.nil_append, putK_new]
    · rfl
    · rw [valV_neg (p := (Sum.inr z1, v2)) (fun z => hne (Sum.inr.inj z))]
      rfl
  rw [em]
  have st := ss_put (k := 0) (o' := oDK p [(Sum.inr z1, T1), (Sum.inr z2, T2)]) (O := oDK p [] :: O) rfl rfl (g1.trans g25) ((s1.mo g25.le).set (T := tRef p) (v := .ref p) rfl j) w5 (u := .dK [((Sum.inr z1 : Key), v2), (Sum.inr z2, v4)]) ⟨_, rfl, ⟨rfl, T1.mo (g4.le.trans g5.le) t2, rfl, t4, trivial⟩⟩
  exact h p X C _ _ st
theorem ok_rep {j : Int} {n : Nat} (hn : (n : Int) = j) (hl : n * Ts.length ≤ 100000) (h62 : n < 2 ^ 62) : OpK c .Mult (tLst Ts) (tInt j) (tLst (List.replicate n Ts).flatten) := fun _ X C => ⟨_, op_rep, fun x y Hi H w ⟨l, xs, e1, h1, t1⟩ e2 Q k => by
  subst e1
  cases (show y = .int j from e2)
  have en : j.toNat = n := by omega
  refine ⟨l, j, xs, rfl, rfl, w.same _ _ h1, by omega, by omega, by rw [t1.len, en, Nat.mul_comm]; exact size_small hl, fun p hp => ?_⟩
  rw [en]
  have le := (Gr.new (o := .lst (List.replicate n xs).flatten) w hp).le
  have rep : ∀ m, TsP (List.replicate m Ts).flatten (List.replicate m xs).flatten Hi := by
    intro m
    induction m with
    | zero => trivial
    | succ m ih =>
      rw [List.replicate_succ, List.replicate_succ, List.flatten_cons, List.flatten_cons]
      exact t1.app ih
  exact k _ _ _ (Gr.new w hp) ⟨p, _, rfl, upd_same, (rep n).mo le⟩⟩
/-- x = [..] by a comprehension of two clauses -/
theorem xb_lc2 (i : Nat) {α β : Type} {elt tg iter tg1 iter1 : Expr} {ifs1 : List Expr} {scope : Scope} {own : List (Str × Nat)} {vs1 : List Nat} {xs : List α} {ys : α → List β} {p : α → β → Bool} {R : α → β → Ty} {py spos : Pos} {y : Str} (L : XC2 c sc G elt tg iter tg1 iter1 ifs1 scope own vs1 xs ys p R)
    (h : XB c sc Hi0 H0 (SS c.W Hi0 H0 (G.set i (some (tLst (flat2 xs ys p R xs.length)))) O) rest N T) (hN : c.N[i]? = some y := by rfl) (hy : sc.names.lookup y = some .local := by rfl)
    (hsw : ∀ env, env.scope = sc → swapsWith (.ListComp elt [⟨tg, iter, [], 0⟩, ⟨tg1, iter1, ifs1, 0⟩] scope pos) (some (.Name y py)) spos.line env = pure true := by exact fun _ e => sw_true (by rw [e]; rfl) (by rw [e]; rfl) rfl (by decide +kernel))
    (hs : ∀ env x, foldedSetIterable iter env x = pure x := by intro _ _; rfl) (hs1 : ∀ env x, foldedSetIterable iter1 env x = pure x := by intro _ _; rfl) :
    XB c sc Hi0 H0 (SS c.W Hi0 H0 G O) (.Assign [.Name y py] (.ListComp elt [⟨tg, iter, [], 0⟩, ⟨tg1, iter1, ifs1, 0⟩] scope pos) spos :: rest) N T := fun X C σ H ⟨Hi, g, s, k⟩ => by
  have ok : BlkOk X.N X.env.scope scope own := by rw [C.hN, C.hd L.d]; exact L.ok
  have hv : ∀ i ∈ vs1, i ∈ own.map (·.2) := by
    obtain ⟨_, _, _, _, _, _, _, _, _, _, hv, _⟩ := L.ex
    exact hv
  refine bW_cons (ps_setLc2 (i := i) (wi := iW X tg iter) (g := gU c.inb scope tg) (tt := tU c.inb scope []) (wi1 := iU c.inb scope tg1 iter1) (g1 := gU c.inb scope tg1) (tt1 := tU c.inb scope ifs1) (te := eU c.inb scope elt) C.calm (C.hN ▸ C.nd) (by rw [C.hN]; exact hN) (C.loc y hy) (hsw _ (C.hd L.d)) iW_pi ok hv (fun s H a cl fp => ⟨fun pins s' σ' H' v u Q I r h => h _ (ctx_blk C s H a cl fp) pins s' u I r⟩) (fun s H a cl fp => ⟨fun pins s' σ' H' Q I h => h _ (ctx_blk C s H a cl fp) pins s' I⟩)
    (fun s H a cl fp => ⟨fun pins s' σ' H' R I h => h _ (ctx_blk C s H a cl fp) pins s' I⟩) (fun s H a cl fp => ⟨fun pins s' σ' H' v u Q I r h => h _ (ctx_blk C s H a cl fp) pins s' u I r⟩) (fun s H a cl fp => ⟨fun pins s' σ' H' Q I h => h _ (ctx_blk C s H a cl fp) pins s' I⟩)
    (fun s H a cl fp => ⟨fun pins s' σ' H' Q I h => h _ (ctx_blk C s H a cl fp) pins s' I⟩) (hs _) hs1) ?_
  have q := lc2_t L C g.wi s
  have mono : ∀ {Q Q' : VK}, (∀ v H', Q v H' → Q' v H') → tLc2 (iW X tg iter) (gU c.inb scope tg) (tU c.inb scope []) (iU c.inb scope tg1 iter1) (gU c.inb scope tg1) (tU c.inb scope ifs1) (eU c.inb scope elt) (own.map (·.2)) vs1 σ H Q → tLc2 (iW X tg iter) (gU c.inb scope tg) (tU c.inb scope []) (iU c.inb scope tg1 iter1) (gU c.inb scope tg1) (tU c.inb scope ifs1) (eU c.inb scope elt) (own.map (·.2)) vs1 σ H Q' := by
    intro Q Q' hQ h pins s I
    refine thn (h pins s I) fun v s1 h1 => thn h1 fun itv s2 ⟨ita, fp, tn, J, H1, e, I2, T, st, fr, z⟩ => ⟨ita, fp, tn, J, H1, e, I2, T, st, fr, fun D hD => ?_⟩
    obtain ⟨W, w0, turn⟩ := z D hD
    refine ⟨W, w0, fun i m H hw => ?_⟩
    rcases turn i m H hw with ⟨a, b⟩ | ⟨a, b⟩
    · exact .inl ⟨a, hQ _ _ b⟩
    · exact .inr ⟨a, b⟩
  refine mono (fun v H' r => ?_) q
  obtain ⟨Hi', g', t'⟩ := r.res
  exact h X C _ H' ⟨Hi', g.trans g', (s.mo g'.le).set t' i, k.gr g'⟩
theorem kvp_last {κ : Type} {k : κ} {H H' : Hp} {T T' : Ty} (le : Le H H') (h : ∀ v, T.p v H → T'.p v H') : ∀ {ks : List (κ × Ty)} {vs : List (κ × V)}, KvP (ks ++ [(k, T)]) vs H → KvP (ks ++ [(k, T')]) vs H'
  | [], [], q => q.elim
  | [], [(_, v)], q => ⟨q.1, h v q.2.1, trivial⟩
  | [], _ :: _ :: _, q => q.2.2.elim
  | (_, T0) :: ks, [], q => q.elim
  | (_, T0) :: ks, (_, v) :: vs, q => ⟨q.1, T0.mo le q.2.1, kvp_last le h q.2.2⟩
/-- one's own list goes into one's own dict's hands: at slot j the dict -/
theorem xb_seal2 {w p : Addr} {ks : List (Key × Ty)} {z : Str} (j : Nat) (hG : G[j]? = some (some (tRef w)))
    (h : XB c sc Hi0 H0 (SS c.W Hi0 H0 (G.set j (some (tDK (ks ++ [(Sum.inr z, tLst Ts)])))) O) rest N T) : XB c sc Hi0 H0 (SS c.W Hi0 H0 G (oLst p Ts :: oDK w (ks ++ [(Sum.inr z, tRef p)]) :: O)) rest N T := fun X C σ H ⟨Hi, g, s, k⟩ => by
  have nd : p ∉ w :: O.map Own.a ∧ w ∉ O.map Own.a ∧ (O.map Own.a).Nodup := by
    have := k.nd
    simp only [List.map_cons, List.nodup_cons] at this
    exact ⟨this.1, this.2.1, this.2.2⟩
  obtain ⟨⟨u, hu, xs, rfl, ts⟩, h2, h3, h4⟩ := k.at_ (oLst p Ts) List.mem_cons_self
  have ne : w ≠ p := fun z => nd.1 (by rw [z]; exact List.mem_cons_self)
  obtain ⟨⟨u2, hu2, kvs, rfl, tk⟩, q2, q3, q4⟩ := k.at_ (oDK w (ks ++ [(Sum.inr z, tRef p)])) (List.mem_cons_of_mem _ List.mem_cons_self)
  have hu : H p = some (.lst xs) := hu
  have h2 : Hi p = none := h2
  have hu2 : H w = some (.dK kvs) := hu2
  have q2 : Hi w = none := q2
  have le1 : Le Hi (upd Hi p (.lst xs)) := Le.of (same_new h2)
  have g1 := g.seal (o := .lst xs) h3 hu h2 h4
  have n2 : upd Hi p (.lst xs) w = none := by rw [upd_ne ne]; exact q2
  have g2 := g1.seal (o := .dK kvs) q3 hu2 n2 q4
  have le2 : Le (upd Hi p (.lst xs)) (upd (upd Hi p (.lst xs)) w (.dK kvs)) := Le.of (same_new n2)
  have hp : upd (upd Hi p (.lst xs)) w (.dK kvs) p = some (.lst xs) := by rw [upd_ne ne.symm, upd_same]
  have tl : (tLst Ts).p (.ref p) (upd (upd Hi p (.lst xs)) w (.dK kvs)) := ⟨p, xs, rfl, hp, ts.mo (le1.trans le2)⟩
  have tk2 : KvP (ks ++ [(Sum.inr z, tLst Ts)]) kvs (upd (upd Hi p (.lst xs)) w (.dK kvs)) := kvp_last (le1.trans le2) (fun v e => by cases (show v = .ref p from e); exact tl) tk
  refine h X C σ H ⟨_, g2, ?_, nd.2.2, fun x hx => ?_⟩
  · obtain ⟨v, e1, e2⟩ := s.get hG
    have := GS.set (T := tDK (ks ++ [(Sum.inr z, tLst Ts)])) (v := v) (by cases (show v = .ref w from e2); exact ⟨w, kvs, rfl, upd_same, tk2⟩) j (s.mo (le1.trans le2))
    have e3 : σ.set j (some v) = σ := by
      apply List.ext_getElem?
      intro m
      by_cases hm : j = m
      · subst hm
        rw [e1, List.getElem?_set_self (List.getElem?_eq_some_iff.mp e1).1]
      · rw [List.getElem?_set_ne hm]
    rw [e3] at this
    exact this
  · obtain ⟨⟨v, r1, r2⟩, r3, r4, r5⟩ := k.at_ x (List.mem_cons_of_mem _ (List.mem_cons_of_mem _ hx))
    have n1 : x.a ≠ p := fun z => nd.1 (List.mem_cons_of_mem _ (z ▸ List.mem_map.mpr ⟨x, hx, rfl⟩))
    have n3 : x.a ≠ w := fun z => nd.2.1 (z ▸ List.mem_map.mpr ⟨x, hx, rfl⟩)
    exact ⟨⟨v, r1, x.mo (le1.trans le2) r2⟩, by show upd (upd Hi p (.lst xs)) w (.dK kvs) x.a = none; rw [upd_ne n3, upd_ne n1]; exact r3, r4, r5⟩
end
end Lg

/-! Fractions: sizes. -/
namespace Ra
def Bd (n : Nat) (q : Rat) : Prop := q.num.natAbs < 2 ^ n ∧ q.den < 2 ^ n
theorem mk_num (t : Int) (d : Nat) (h : d ≠ 0) : (mkRat t d).num = t / (Nat.gcd t.natAbs d : Nat) := by
  rw [Rat.mkRat_def, dif_neg h, Rat.normalize_eq]
theorem mk_den (t : Int) (d : Nat) (h : d ≠ 0) : (mkRat t d).den = d / Nat.gcd t.natAbs d := by
  rw [Rat.mkRat_def, dif_neg h, Rat.normalize_eq]
theorem mk_num_le (t : Int) (d : Nat) (h : d ≠ 0) : (mkRat t d).num.natAbs ≤ t.natAbs := by
  rw [mk_num t d h]
  exact Int.natAbs_ediv_le_natAbs t _
theorem mk_den_le (t : Int) (d : Nat) (h : d ≠ 0) : (mkRat t d).den ≤ d := by
  rw [mk_den t d h]
  exact Nat.div_le_self _ _
theorem Bd.mono {n m : Nat} {q : Rat} (h : Bd n q) (l : n ≤ m) : Bd m q :=
  ⟨Nat.lt_of_lt_of_le h.1 (Nat.pow_le_pow_right (by decide) l), Nat.lt_of_lt_of_le h.2 (Nat.pow_le_pow_right (by decide) l)⟩
theorem mul_lt {a b n m : Nat} (h1 : a < 2 ^ n) (h2 : b < 2 ^ m) : a * b < 2 ^ (n + m) := by
  rw [Nat.pow_add]
  exact Nat.mul_lt_mul'' h1 h2
theorem den_nz (q : Rat) : q.den ≠ 0 := q.den_nz
theorem dd_nz (p q : Rat) : p.den * q.den ≠ 0 := Nat.mul_ne_zero p.den_nz q.den_nz
theorem Bd.mk {n : Nat} {t : Int} {d : Nat} (h : d ≠ 0) (h1 : t.natAbs < 2 ^ n) (h2 : d < 2 ^ n) : Bd n (mkRat t d) := ⟨Nat.lt_of_le_of_lt (mk_num_le t d h) h1, Nat.lt_of_le_of_lt (mk_den_le t d h) h2⟩
theorem add_top {n m : Nat} {p q : Rat} (h : Bd n p) (k : Bd m q) : (p.num * q.den + q.num * p.den).natAbs < 2 ^ (n + m + 1) := by
  have h1 := mul_lt h.1 k.2
  have h2 := mul_lt k.1 h.2
  have e1 : (p.num * (q.den : Int)).natAbs = p.num.natAbs * q.den := by rw [Int.natAbs_mul]; rfl
  have e2 : (q.num * (p.den : Int)).natAbs = q.num.natAbs * p.den := by rw [Int.natAbs_mul]; rfl
  have h3 := Int.natAbs_add_le (p.num * q.den) (q.num * p.den)
  rw [Nat.add_comm m n] at h2
  rw [Nat.pow_succ]
  omega
theorem sub_top {n m : Nat} {p q : Rat} (h : Bd n p) (k : Bd m q) : (p.num * q.den - q.num * p.den).natAbs < 2 ^ (n + m + 1) := by
  have h1 := mul_lt h.1 k.2
  have h2 := mul_lt k.1 h.2
  have e1 : (p.num * (q.den : Int)).natAbs = p.num.natAbs * q.den := by rw [Int.natAbs_mul]; rfl
  have e2 : (q.num * (p.den : Int)).natAbs = q.num.natAbs * p.den := by rw [Int.natAbs_mul]; rfl
  have h3 := Int.natAbs_sub_le (p.num * q.den) (q.num * p.den)
  rw [Nat.add_comm m n] at h2
  rw [Nat.pow_succ]
  omega
theorem Bd.add {n m : Nat} {p q : Rat} (h : Bd n p) (k : Bd m q) : Bd (n + m + 1) (p + q) := by
  rw [Rat.add_def']
  refine Bd.mk (dd_nz p q) (add_top h k) (Nat.lt_of_lt_of_le (mul_lt h.2 k.2) (Nat.pow_le_pow_right (by decide) (by omega)))
theorem Bd.sub {n m : Nat} {p q : Rat} (h : Bd n p) (k : Bd m q) : Bd (n + m + 1) (p - q) := by
  rw [Rat.sub_def']
  refine Bd.mk (dd_nz p q) (sub_top h k) (Nat.lt_of_lt_of_le (mul_lt h.2 k.2) (Nat.pow_le_pow_right (by decide) (by omega)))
theorem Bd.mul {n m : Nat} {p q : Rat} (h : Bd n p) (k : Bd m q) : Bd (n + m) (p * q) := by
  rw [Rat.mul_def']
  refine Bd.mk (dd_nz p q) ?_ (mul_lt h.2 k.2)
  rw [Int.natAbs_mul]
  exact mul_lt h.1 k.1
theorem Bd.int {n : Nat} {i : Int} (h : i.natAbs < 2 ^ n) (h0 : 0 < n) : Bd n (i : Rat) := ⟨by simpa using h, by
  show 1 < 2 ^ n
  exact Nat.one_lt_two_pow (by omega)⟩
theorem Bd.zero : Bd 1 0 := ⟨by decide, by decide⟩
theorem Bd.one : Bd 1 1 := ⟨by decide, by decide⟩
/-- p / q, q above nought -/
theorem div_mk (p q : Rat) (h : 0 < q.num) : p / q = mkRat (p.num * q.den) (p.den * q.num.natAbs) := by
  have e : p / q = Rat.divInt p.num p.den * (Rat.divInt q.num q.den)⁻¹ := by rw [Rat.num_divInt_den, Rat.num_divInt_den, Rat.div_def]
  rw [e, Rat.inv_divInt, Rat.divInt_mul_divInt]
  have : (p.den : Int) * q.num = ((p.den * q.num.natAbs : Nat) : Int) := by
    rw [Int.natCast_mul]
    have : (q.num.natAbs : Int) = q.num := by omega
    rw [this]
  rw [this, Rat.divInt_ofNat]
theorem Bd.div {n m : Nat} {p q : Rat} (h : Bd n p) (k : Bd m q) (h0 : 0 < q.num) : Bd (n + m) (p / q) := by
  rw [div_mk p q h0]
  refine Bd.mk (Nat.mul_ne_zero p.den_nz (by omega)) ?_ (mul_lt h.2 k.1)
  rw [Int.natAbs_mul]
  exact mul_lt h.1 k.2
/-- the share of a law: by tops and bottoms -/
theorem share_mk (x : Rat) (lo d : Int) (h : 0 < d) : mkRat (x.num - lo * x.den) (x.den * d.toNat) = (x - lo) / (d : Rat) := by
  have e : x - (lo : Rat) = mkRat (x.num - lo * x.den) x.den := by
    rw [Rat.sub_def']
    simp
  rw [e, div_mk _ _ (by simpa using h)]
  have e2 : ((d : Rat)).den = 1 := rfl
  have e3 : ((d : Rat)).num.natAbs = d.toNat := by
    show d.natAbs = d.toNat
    omega
  rw [e2, e3]
  have hz : x.den ≠ 0 := x.den_nz
  have h0 : mkRat (x.num - lo * x.den) x.den = mkRat (x.num - lo * x.den) x.den := rfl
  generalize hy : mkRat (x.num - lo * x.den) x.den = y
  have hq : (x.num - lo * x.den) * y.den = y.num * x.den := by
    have : mkRat (x.num - lo * x.den) x.den = mkRat y.num y.den := by rw [hy, Rat.mkRat_self]
    exact (Rat.mkRat_eq_iff hz y.den_nz).mp this
  refine (Rat.mkRat_eq_iff (Nat.mul_ne_zero hz (by omega)) (Nat.mul_ne_zero y.den_nz (by omega))).mpr ?_
  have hd : ((d.toNat : Nat) : Int) = d := by omega
  rw [Int.natCast_mul, Int.natCast_mul, hd]
  simp only [Int.natCast_one, Int.mul_one]
  calc (x.num - lo * ↑x.den) * (↑y.den * d) = ((x.num - lo * ↑x.den) * ↑y.den) * d := by rw [Int.mul_assoc]
    _ = (y.num * ↑x.den) * d := by rw [hq]
    _ = y.num * (↑x.den * d) := by rw [Int.mul_assoc]
theorem share_mk2 (x : Rat) (hi d : Int) (h : 0 < d) : mkRat (hi * x.den - x.num) (x.den * d.toNat) = (hi - x) / (d : Rat) := by
  have h1 := share_mk x hi d h
  have e1 : hi * (x.den : Int) - x.num = -(x.num - hi * x.den) := by omega
  rw [e1, ← Rat.neg_mkRat, h1]
  grind
example (x : Rat) (lo d : Int) (h : 0 < (d : Rat)) : 1 - (x - lo) / d = (lo + d - x) / d := by grind
end Ra

set_option maxHeartbeats 4000000
namespace Pf
open PySem PySem.Spec PyProof.Rows L2 Lg Ra
def top (i : Nat) : Stmt := PySem.Challenge.pw_propfall_k54_whole_strengths_for_several.main.body.getD i (.Pass ⟨0, 0, 0, 0⟩)
abbrev bodyOf (i : Nat) : List Stmt := defBody (top i)
abbrev scOf (i : Nat) : Scope := defScope (top i)
/-! ### the built-ins and the constants -/
structure Bt (b : Bs) : Prop where
  abs : b.mg "abs" = none
  all : b.mg "all" = none
  any : b.mg "any" = none
  dict : b.mg "dict" = none
  enumerate : b.mg "enumerate" = none
  int : b.mg "int" = none
  bool : b.mg "bool" = none
  isinstance : b.mg "isinstance" = none
  len : b.mg "len" = none
  list : b.mg "list" = none
  max : b.mg "max" = none
  min : b.mg "min" = none
  range : b.mg "range" = none
  set : b.mg "set" = none
  sorted : b.mg "sorted" = none
  sum : b.mg "sum" = none
  tuple : b.mg "tuple" = none
  zip : b.mg "zip" = none
  nought : ∃ a, b.mg "NOUGHT" = some (.ref a) ∧ ∀ H, SqT b.K H a [.int 0, .int 1]
  one : ∃ a, b.mg "ONE" = some (.ref a) ∧ ∀ H, SqT b.K H a [.int 1, .int 1]
  left : ∃ t, b.mg "LEFT_WALL" = some (.int (-1) t)
  mlen : ∃ t, b.mg "MOST_LENGTH" = some (.int 1000 t)
  mprops : ∃ t, b.mg "MOST_PROPS" = some (.int 12 t)
  mload : ∃ t, b.mg "MOST_LOADINGS" = some (.int 8 t)
/-! ### fractions as types -/
def tFr (K : PySem.W.Frag) (q : Rat) : Ty := tTup K [tInt q.num, tInt (q.den : Int)]
section
variable {c : Cst} {sc : Scope} {G : Gm} {e a b : Expr} {T T1 T2 : Ty} {pos : Pos} {Ts : List Ty} {K : PySem.W.Frag}
theorem xe_ty {x : Str} {z : String} (hm : c.b.mg x = none) (hv : bootBuiltins x = some (.type z) := by decide +kernel) (hg : sc.names.lookup x = some .globalImplicit := by rfl) (hn : x ≠ "__name__" := by decide +kernel) (hd : (x == ("__debug__" : Str)) = false := by decide +kernel) : XE c sc G (.Name x pos) (tTy z) :=
  xe_bltn (v := .ty z) hm hv rfl (fun _ => rfl) hg hn hd
theorem xe_gi {x : Str} {i : Int} (hm : ∃ t, c.b.mg x = some (.int i t)) (hg : sc.names.lookup x = some .globalImplicit := by rfl) (hd : (x == ("__debug__" : Str)) = false := by decide +kernel) : XE c sc G (.Name x pos) (tInt i) := by
  obtain ⟨t, hm⟩ := hm
  exact xe_glob (v := .int i) hm ⟨t, rfl⟩ (fun _ => rfl) hg hd
theorem sq_fr {q : Rat} : SqK K (tFr K q) [tInt q.num, tInt (q.den : Int)] := sq_tup
theorem tp_fr {q : Rat} : TpK K (tFr K q) [tInt q.num, tInt (q.den : Int)] := tp_tup
theorem ty_fr {q : Rat} : TyK K (tFr K q) "tuple" := ty_tup
theorem fN {q : Rat} (h : XE c sc G a (tFr c.b.K q)) {j : Nat} {p' : Pos} : XE c sc G (.Subscript a (.Constant (.int 0) j p') pos) (tInt q.num) := xe_ix h xe_int (ix_at (n := 0) sq_fr rfl rfl)
theorem fD {q : Rat} (h : XE c sc G a (tFr c.b.K q)) {j : Nat} {p' : Pos} : XE c sc G (.Subscript a (.Constant (.int 1) j p') pos) (tInt (q.den : Int)) := xe_ix h xe_int (ix_at (n := 1) sq_fr rfl rfl)
theorem fr_nought (h : ∃ a, c.b.mg "NOUGHT" = some (.ref a) ∧ ∀ H, SqT c.b.K H a [.int 0, .int 1]) (hg : sc.names.lookup ("NOUGHT" : Str) = some .globalImplicit := by rfl) : XE c sc G (.Name "NOUGHT" pos) (tFr c.b.K 0) := by
  obtain ⟨a, h1, h2⟩ := h
  exact xe_glob (v := .ref a) h1 rfl (fun H => ⟨a, _, rfl, h2 H, rfl, rfl, trivial⟩) hg (by decide +kernel)
theorem fr_one (h : ∃ a, c.b.mg "ONE" = some (.ref a) ∧ ∀ H, SqT c.b.K H a [.int 1, .int 1]) (hg : sc.names.lookup ("ONE" : Str) = some .globalImplicit := by rfl) : XE c sc G (.Name "ONE" pos) (tFr c.b.K 1) := by
  obtain ⟨a, h1, h2⟩ := h
  exact xe_glob (v := .ref a) h1 rfl (fun H => ⟨a, _, rfl, h2 H, rfl, rfl, trivial⟩) hg (by decide +kernel)
/-- a tuple of an int and 1 is a fraction -/
theorem fr_int {i : Int} (h : XE c sc G a (tTup c.b.K [tInt i, tInt 1])) : XE c sc G a (tFr c.b.K (i : Rat)) := h
end
/-! ### sizes -/
abbrev Sm (q : Rat) : Prop := Bd 1000 q
theorem mulW {i j : Int} {n m : Nat} (h1 : i.natAbs < 2 ^ n) (h2 : j.natAbs < 2 ^ m) (hn : 0 < n := by decide) (hm : 0 < m := by decide) (l : n + m ≤ 1000000 := by decide) : CMulW i j := wide_mul h1 h2 hn hm l
theorem smND {p q : Rat} (hp : Sm p) (hq : Sm q) : CMulW p.num (q.den : Int) := mulW hp.1 (m := 1000) hq.2
theorem smNN {p q : Rat} (hp : Sm p) (hq : Sm q) : CMulW p.num q.num := mulW hp.1 hq.1
theorem smDD {p q : Rat} (hp : Sm p) (hq : Sm q) : CMulW (p.den : Int) (q.den : Int) := mulW (n := 1000) (m := 1000) hp.2 hq.2
/-! ### divisor -/
abbrev kDivisor := 1
def spDivisor : FS := fun _ Ts T => ∃ a b : Nat, Ts = [tInt (a : Int), tInt (b : Int)] ∧ T = tInt (Nat.gcd a b : Nat)
abbrev FDivisor (b : Bs) : Prop := FnAt b "divisor" 2 (spOf 2 spDivisor) 1
theorem xf_divisor {b : Bs} : XF b ["one", "other"] 0 (scOf 11) 2 (bodyOf 11) spDivisor := by
  rintro W Ts T ⟨a, b', rfl, rfl⟩ - Hi0 H0
  refine xb_while (α := { p : Nat × Nat // Nat.gcd p.1 p.2 = Nat.gcd a b' }) (fun x => [some (tInt (x.1.1 : Int)), some (tInt (x.1.2 : Int))]) (fun _ => []) (fun x => x.1.2) (fun x => !decide ((x.1.2 : Int) = 0)) ⟨(a, b'), rfl⟩ (GLe.refl _) rfl (fun x => xt_cmp (xv 1 rfl rfl rfl) xe_int cm_ne) (fun x h => ?_) (fun x h => ?_)
  · obtain ⟨⟨p, q⟩, hx⟩ := x
    have hq : 0 < q := by
      have : ¬ ((q : Int) = 0) := by simpa using h
      omega
    refine xb_par 0 1 (xv 1 rfl rfl rfl) (xe_bin (xv 0 rfl rfl rfl) (xv 1 rfl rfl rfl) (ok_mod (by show (0 : Int) < ((q : Nat) : Int); omega))) ?_ rfl rfl (by decide) rfl rfl (by intro _; rfl) (by intro _; rfl) sw2
    refine xb_nil fun σ H s => ⟨⟨(q, p % q), ?_⟩, Nat.mod_lt _ hq, s⟩
    rw [← hx]
    show Nat.gcd q (p % q) = Nat.gcd p q
    rw [Nat.gcd_comm p q, Nat.gcd_rec q p, Nat.gcd_comm]
  · obtain ⟨⟨p, q⟩, hx⟩ := x
    have hq : q = 0 := by
      have : ((q : Int) = 0) := by simpa using h
      omega
    subst hq
    have e : p = Nat.gcd a b' := by rw [← hx]; exact (Nat.gcd_zero_right p).symm
    exact xb_retE ((xv 0 rfl rfl rfl).eq (congrArg (fun z : Nat => tInt (z : Int)) e))
/-! ### cut and the arithmetic -/
def spCut (K : PySem.W.Frag) : FS := fun _ Ts T => ∃ (t : Int) (d : Nat), Ts = [tInt t, tInt (d : Int)] ∧ d ≠ 0 ∧ d < 2 ^ 8000 ∧ T = tFr K (mkRat t d)
abbrev FCut (b : Bs) : Prop := FnAt b "cut" 2 (spOf 2 (spCut b.K)) 2
theorem gcd_pos {a d : Nat} (h : d ≠ 0) : 0 < Nat.gcd a d := Nat.gcd_pos_of_pos_right a (by omega)
theorem gcd_le {a d : Nat} (h : d ≠ 0) : Nat.gcd a d ≤ d := Nat.le_of_dvd (by omega) (Nat.gcd_dvd_right a d)
theorem divG {i : Int} {a d : Nat} (h : d ≠ 0) (h1 : d < 2 ^ 8000) : CDivW i ((Nat.gcd a d : Nat) : Int) :=
  wide_div (b := 8000) (by have := gcd_pos (a := a) h; omega) (Nat.lt_of_le_of_lt (gcd_le h) h1) (by decide) (by decide)
theorem tFr_mk (K : PySem.W.Frag) (t : Int) (d : Nat) (h : d ≠ 0) : tTup K [tInt (t / ((Nat.gcd t.natAbs d : Nat) : Int)), tInt ((d : Int) / ((Nat.gcd t.natAbs d : Nat) : Int))] = tFr K (mkRat t d) := by
  unfold tFr
  rw [mk_num t d h, mk_den t d h, Int.natCast_ediv]
theorem xf_cut {b : Bs} (B : Bt b) (hD : FDivisor b) : XF b ["top", "bottom", "common"] 1 (scOf 12) 2 (bodyOf 12) (spCut b.K) := by
  rintro W Ts T ⟨t, d, rfl, h0, h1, rfl⟩ - Hi0 H0
  refine xb_asg 2 (xe_call hD (xa_cons (xe_blt B.abs (xa_cons (xv 0 rfl rfl rfl) xa_nil) cb_abs) (xa_cons (xv 1 rfl rfl rfl) xa_nil)) ⟨_, _, rfl, rfl⟩) ?_
  refine xb_retE (XE.eq (xe_tp (xa_cons (xe_bin (xv 0 rfl rfl rfl) (xv 2 rfl rfl rfl) (ok_div (divG h0 h1))) (xa_cons (xe_bin (xv 1 rfl rfl rfl) (xv 2 rfl rfl rfl) (ok_div (divG h0 h1))) xa_nil))) (tFr_mk b.K t d h0))
def spPlus (K : PySem.W.Frag) : FS := fun _ Ts T => ∃ p q : Rat, Ts = [tFr K p, tFr K q] ∧ Sm p ∧ Sm q ∧ T = tFr K (p + q)
def spLess (K : PySem.W.Frag) : FS := fun _ Ts T => ∃ p q : Rat, Ts = [tFr K p, tFr K q] ∧ Sm p ∧ Sm q ∧ T = tFr K (p - q)
def spTimes (K : PySem.W.Frag) : FS := fun _ Ts T => ∃ p q : Rat, Ts = [tFr K p, tFr K q] ∧ Sm p ∧ Sm q ∧ T = tFr K (p * q)
def spOver (K : PySem.W.Frag) : FS := fun _ Ts T => ∃ p q : Rat, Ts = [tFr K p, tFr K q] ∧ Sm p ∧ Sm q ∧ 0 < q ∧ T = tFr K (p / q)
abbrev FPlus (b : Bs) : Prop := FnAt b "plus" 2 (spOf 2 (spPlus b.K)) 3
abbrev FLess (b : Bs) : Prop := FnAt b "less" 2 (spOf 2 (spLess b.K)) 3
abbrev FTimes (b : Bs) : Prop := FnAt b "times" 2 (spOf 2 (spTimes b.K)) 3
abbrev FOver (b : Bs) : Prop := FnAt b "over" 2 (spOf 2 (spOver b.K)) 3
theorem dd_sm {p q : Rat} (hp : Sm p) (hq : Sm q) : p.den * q.den < 2 ^ 8000 := Nat.lt_of_lt_of_le (mul_lt hp.2 hq.2) (Nat.pow_le_pow_right (by decide) (by decide))
theorem dd_cast (p q : Rat) : (p.den : Int) * (q.den : Int) = ((p.den * q.den : Nat) : Int) := (Int.natCast_mul _ _).symm
theorem xf_plus {b : Bs} (hC : FCut b) : XF b ["one", "other"] 2 (scOf 15) 2 (bodyOf 15) (spPlus b.K) := by
  rintro W Ts T ⟨p, q, rfl, hp, hq, rfl⟩ - Hi0 H0
  refine xb_retE (XE.eq (xe_call hC (xa_cons (xe_bin (xe_bin (fN (xv 0 rfl rfl rfl)) (fD (xv 1 rfl rfl rfl)) (ok_mul (smND hp hq))) (xe_bin (fN (xv 1 rfl rfl rfl)) (fD (xv 0 rfl rfl rfl)) (ok_mul (smND hq hp))) ok_add)
    (xa_cons ((xe_bin (fD (xv 0 rfl rfl rfl)) (fD (xv 1 rfl rfl rfl)) (ok_mul (smDD hp hq))).eq (congrArg tInt (dd_cast p q))) xa_nil)) ⟨_, _, rfl, dd_nz p q, dd_sm hp hq, rfl⟩) (congrArg (tFr b.K) (Rat.add_def' p q).symm))
theorem xf_less {b : Bs} (hC : FCut b) : XF b ["one", "other"] 2 (scOf 16) 2 (bodyOf 16) (spLess b.K) := by
  rintro W Ts T ⟨p, q, rfl, hp, hq, rfl⟩ - Hi0 H0
  refine xb_retE (XE.eq (xe_call hC (xa_cons (xe_bin (xe_bin (fN (xv 0 rfl rfl rfl)) (fD (xv 1 rfl rfl rfl)) (ok_mul (smND hp hq))) (xe_bin (fN (xv 1 rfl rfl rfl)) (fD (xv 0 rfl rfl rfl)) (ok_mul (smND hq hp))) ok_sub)
    (xa_cons ((xe_bin (fD (xv 0 rfl rfl rfl)) (fD (xv 1 rfl rfl rfl)) (ok_mul (smDD hp hq))).eq (congrArg tInt (dd_cast p q))) xa_nil)) ⟨_, _, rfl, dd_nz p q, dd_sm hp hq, rfl⟩) (congrArg (tFr b.K) (Rat.sub_def' p q).symm))
theorem xf_times {b : Bs} (hC : FCut b) : XF b ["one", "other"] 2 (scOf 17) 2 (bodyOf 17) (spTimes b.K) := by
  rintro W Ts T ⟨p, q, rfl, hp, hq, rfl⟩ - Hi0 H0
  refine xb_retE (XE.eq (xe_call hC (xa_cons (xe_bin (fN (xv 0 rfl rfl rfl)) (fN (xv 1 rfl rfl rfl)) (ok_mul (smNN hp hq)))
    (xa_cons ((xe_bin (fD (xv 0 rfl rfl rfl)) (fD (xv 1 rfl rfl rfl)) (ok_mul (smDD hp hq))).eq (congrArg tInt (dd_cast p q))) xa_nil)) ⟨_, _, rfl, dd_nz p q, dd_sm hp hq, rfl⟩) (congrArg (tFr b.K) (Rat.mul_def' p q).symm))
theorem smDN {p q : Rat} (hp : Sm p) (hq : Sm q) : CMulW (p.den : Int) q.num := mulW (n := 1000) hp.2 hq.1
theorem xf_over {b : Bs} (hC : FCut b) : XF b ["one", "other"] 2 (scOf 18) 2 (bodyOf 18) (spOver b.K) := by
  rintro W Ts T ⟨p, q, rfl, hp, hq, h0, rfl⟩ - Hi0 H0
  have hn : 0 < q.num := by have := (Rat.lt_iff 0 q).mp h0; simpa using this
  refine xb_guard (xt_cmp (fN (xv 1 rfl rfl rfl)) xe_int cm_lt) (decide_eq_false (by omega)) ?_
  have e : (p.den : Int) * q.num = ((p.den * q.num.natAbs : Nat) : Int) := by
    rw [Int.natCast_mul]
    congr 1
    omega
  refine xb_retE (XE.eq (xe_call hC (xa_cons (xe_bin (fN (xv 0 rfl rfl rfl)) (fD (xv 1 rfl rfl rfl)) (ok_mul (smND hp hq)))
    (xa_cons ((xe_bin (fD (xv 0 rfl rfl rfl)) (fN (xv 1 rfl rfl rfl)) (ok_mul (smDN hp hq))).eq (congrArg tInt e)) xa_nil)) ⟨_, _, rfl, Nat.mul_ne_zero p.den_nz (by omega), ?_, rfl⟩) (congrArg (tFr b.K) (div_mk p q hn).symm))
  exact Nat.lt_of_lt_of_le (mul_lt hp.2 hq.1) (Nat.pow_le_pow_right (by decide) (by decide))
def spBelow (K : PySem.W.Frag) : FS := fun _ Ts T => ∃ p q : Rat, Ts = [tFr K p, tFr K q] ∧ Sm p ∧ Sm q ∧ T = tBl (decide (p < q))
abbrev FBelow (b : Bs) : Prop := FnAt b "is_below" 2 (spOf 2 (spBelow b.K)) 1
theorem xf_below {b : Bs} : XF b ["one", "other"] 0 (scOf 19) 2 (bodyOf 19) (spBelow b.K) := by
  rintro W Ts T ⟨p, q, rfl, hp, hq, rfl⟩ - Hi0 H0
  exact xb_retE (XE.eq (xe_cmp (xe_bin (fN (xv 0 rfl rfl rfl)) (fD (xv 1 rfl rfl rfl)) (ok_mul (smND hp hq))) (xe_bin (fN (xv 1 rfl rfl rfl)) (fD (xv 0 rfl rfl rfl)) (ok_mul (smND hq hp))) cm_lt) (congrArg tBl (decide_eq_decide.mpr (Rat.lt_iff p q).symm)))
/-! ### whole, is_whole, is_fraction, sum_of -/
def spWhole (K : PySem.W.Frag) : FS := fun _ Ts T => ∃ n : Int, Ts = [tInt n] ∧ T = tFr K (n : Rat)
abbrev FWhole (b : Bs) : Prop := FnAt b "whole" 1 (spOf 1 (spWhole b.K)) 1
theorem xf_whole {b : Bs} : XF b ["number"] 0 (scOf 14) 1 (bodyOf 14) (spWhole b.K) := by
  rintro W Ts T ⟨n, rfl, rfl⟩ - Hi0 H0
  exact xb_retE (fr_int (xe_tp (xa_cons (xv 0 rfl rfl rfl) (xa_cons xe_int xa_nil))))
def spIsWhole : FS := fun _ Ts T => ∃ n : Int, Ts = [tInt n] ∧ T = tBl true
abbrev FIsWhole (b : Bs) : Prop := FnAt b "is_whole" 1 (spOf 1 spIsWhole) 1
theorem xf_isWhole {b : Bs} (B : Bt b) : XF b ["thing"] 0 (scOf 10) 1 (bodyOf 10) spIsWhole := by
  rintro W Ts T ⟨n, rfl, rfl⟩ - Hi0 H0
  exact xb_retE (XE.eq (xe_and (xe_blt B.isinstance (xa_cons (xv 0 rfl rfl rfl) (xa_cons (xe_ty (z := "int") B.int) xa_nil)) (cb_isiK (p := true) ty_int)) fun _ => xe_one (xe_not (xe_blt B.isinstance (xa_cons (xv 0 rfl rfl rfl) (xa_cons (xe_ty (z := "bool") B.bool) xa_nil)) (cb_isiK (p := false) ty_int)))) rfl)
def spIsFr (K : PySem.W.Frag) : FS := fun _ Ts T => ∃ q : Rat, Ts = [tFr K q] ∧ T = tBl true
abbrev FIsFr (b : Bs) : Prop := FnAt b "is_fraction" 1 (spOf 1 (spIsFr b.K)) 2
theorem xf_isFr {b : Bs} (B : Bt b) (hW : FIsWhole b) (hD : FDivisor b) : XF b ["thing", "one"] 1 (scOf 13) 1 (bodyOf 13) (spIsFr b.K) := by
  rintro W Ts T ⟨q, rfl, rfl⟩ - Hi0 H0
  refine xb_guard (xt_w (xw_or (xt_not (xt_val (xe_blt B.isinstance (xa_cons (xv 0 rfl rfl rfl) (xa_cons (xe_ty (z := "tuple") B.tuple) xa_nil)) (cb_isiK (p := true) ty_fr)))) fun h => (xw_or (xt_cmp (xe_blt B.len (xa_cons (xv 0 rfl rfl rfl) xa_nil) (cb_len sq_fr)) xe_int cm_ne) fun h =>
    (xw_or1 (xt_not (xt_val (xe_blt B.all (xa_cons (xe_lcG (F := tBl) (g := fun _ => true) (xc (xs := [q.num, (q.den : Int)]) (F := tInt) [("one", 1)] [1] (fun x => [tInt x]) (fun _ => true) (fun x => tBl true)
      (xl_tup tp_fr (xv 0 rfl rfl rfl)) (fun x hx => xg_name 1) (fun x hx => xts_nil) (fun x hx _ => xe_call hW (xa_cons (xv 1 rfl rfl rfl) xa_nil) ⟨_, rfl, rfl⟩) (by simp))) xa_nil) cb_all))))))) (by simp) ?_
  have hd : 0 < q.den := q.den_pos
  refine xb_retE (XE.eq (xe_and (xe_cmp (fD (xv 0 rfl rfl rfl)) xe_int cm_gt) fun _ => xe_one (xe_cmp (xe_call hD (xa_cons (xe_blt B.abs (xa_cons (fN (xv 0 rfl rfl rfl)) xa_nil) cb_abs) (xa_cons (fD (xv 0 rfl rfl rfl)) xa_nil)) ⟨_, _, rfl, rfl⟩) xe_int cm_eq)) ?_)
  have hc : Nat.gcd q.num.natAbs q.den = 1 := q.reduced
  rw [hc]
  simp [hd]
/-- the sum as the program makes it -/
def sumF (qs : List Rat) : Rat := qs.foldl (fun a x => a + x) 0
def spSum (K : PySem.W.Frag) : FS := fun _ Ts T => ∃ qs : List Rat, Ts = [tLst (qs.map (tFr K))] ∧ (∀ q ∈ qs, Sm q) ∧ (∀ i, Sm (sumF (qs.take i))) ∧ T = tFr K (sumF qs)
abbrev FSum (b : Bs) : Prop := FnAt b "sum_of" 1 (spOf 1 (spSum b.K)) 4
theorem sumF_snoc (qs : List Rat) (x : Rat) : sumF (qs ++ [x]) = sumF qs + x := by unfold sumF; rw [List.foldl_append]; rfl
theorem take_snoc {α : Type} {xs : List α} {i : Nat} {x : α} (h : xs[i]? = some x) : xs.take (i + 1) = xs.take i ++ [x] := by
  rw [List.take_succ, h]; rfl
theorem xf_sum {b : Bs} (B : Bt b) (hP : FPlus b) : XF b ["some", "found", "one"] 3 (scOf 20) 1 (bodyOf 20) (spSum b.K) := by
  rintro W Ts T ⟨qs, rfl, h1, h2, rfl⟩ - Hi0 H0
  refine xb_asg 1 (fr_nought B.nought) ?_
  refine xb_forL (xs := qs) (F := tFr b.K) (js := [2]) (fun x => [tFr b.K x]) (fun i => [some (tLst (qs.map (tFr b.K))), some (tFr b.K (sumF (qs.take i))), none]) (fun _ => []) (xl_list ls_lst (xv 0 rfl rfl rfl)) ⟨fun _ _ h => h, fun _ _ h => h, trivial⟩ rfl (fun x hx => xg_name 2) (fun i x hx Hi0 H0 => ?_) ?_
  · refine xb_asg 1 (xe_call hP (xa_cons (xv 1 rfl rfl rfl) (xa_cons (xv 2 rfl rfl rfl) xa_nil)) ⟨_, _, rfl, h2 i, h1 x (List.mem_of_getElem? hx), rfl⟩) ?_
    refine xb_end ⟨fun _ _ h => h, fun v H h => ?_, trivial⟩
    rw [take_snoc hx, sumF_snoc]
    exact h
  · refine xb_retE ((xv 1 rfl rfl rfl).eq ?_)
    rw [List.take_length]
end Pf

set_option maxHeartbeats 4000000
namespace Pf
open PySem PySem.Spec PyProof.Rows L2 Lg Ra
abbrev mBody (i j : Nat) : List Stmt := defBody (inClass (top i) j)
abbrev mSc (i j : Nat) : Scope := defScope (inClass (top i) j)
/-! ### measures, props -/
def spMeas (K : PySem.W.Frag) : FS := fun _ Ts T => ∃ q : Rat, Ts = [tFr K q] ∧ Sm q ∧ 0 ≤ q ∧ T = tBl true
abbrev FMeas (b : Bs) : Prop := FnAt b "is_measure" 1 (spOf 1 (spMeas b.K)) 3
theorem sm0 : Sm 0 := Bd.zero.mono (by decide)
theorem sm1 : Sm 1 := Bd.one.mono (by decide)
theorem xf_meas {b : Bs} (B : Bt b) (h1 : FIsFr b) (h2 : FBelow b) : XF b ["thing"] 2 (scOf 25) 1 (bodyOf 25) (spMeas b.K) := by
  rintro W Ts T ⟨q, rfl, hs, h0, rfl⟩ - Hi0 H0
  refine xb_retE (XE.eq (xe_and (xe_call h1 (xa_cons (xv 0 rfl rfl rfl) xa_nil) ⟨_, rfl, rfl⟩) fun _ => (xe_one (xe_not (xe_call h2 (xa_cons (xv 0 rfl rfl rfl) (xa_cons (fr_nought B.nought) xa_nil)) ⟨_, _, rfl, hs, sm0, rfl⟩)))) ?_)
  have : ¬ q < 0 := Rat.not_lt.mpr h0
  simp [this]
/-- a prop: its place, its strength -/
abbrev tPr (K : PySem.W.Frag) (s : Int × Rat) : Ty := tTup K [tInt s.1, tFr K s.2]
def spProp (K : PySem.W.Frag) : FS := fun _ Ts T => ∃ (s : Int × Rat) (L : Int), Ts = [tPr K s, tInt L] ∧ 0 < s.1 ∧ s.1 < L ∧ Sm s.2 ∧ 0 ≤ s.2 ∧ T = tBl true
abbrev FProp (b : Bs) : Prop := FnAt b "is_prop" 2 (spOf 2 (spProp b.K)) 4
theorem xf_prop {b : Bs} (B : Bt b) (hW : FIsWhole b) (hM : FMeas b) : XF b ["thing", "length"] 3 (scOf 26) 2 (bodyOf 26) (spProp b.K) := by
  rintro W Ts T ⟨s, L, rfl, h1, h2, hs, h0, rfl⟩ - Hi0 H0
  refine xb_guard (xt_w (xw_or (xt_not (xt_val (xe_blt B.isinstance (xa_cons (xv 0 rfl rfl rfl) (xa_cons (xe_ty (z := "tuple") B.tuple) xa_nil)) (cb_isiK (p := true) ty_tup)))) fun h => (xw_or (xt_cmp (xe_blt B.len (xa_cons (xv 0 rfl rfl rfl) xa_nil) (cb_len sq_tup)) xe_int cm_ne) fun h =>
    (xw_or1 (xt_not (xt_val (xe_call hW (xa_cons (xe_ix (xv 0 rfl rfl rfl) xe_int (ix_at (n := 0) sq_tup rfl rfl)) xa_nil) ⟨_, rfl, rfl⟩))))))) (by simp) ?_
  refine xb_retE (XE.eq (xe_and (xe_chain xe_int (xe_ix (xv 0 rfl rfl rfl) xe_int (ix_at (n := 0) sq_tup rfl rfl)) (xv 1 rfl rfl rfl) cm_lt cm_lt) fun _ => (xe_one (xe_call hM (xa_cons (xe_ix (xv 0 rfl rfl rfl) xe_int (ix_at (n := 1) sq_tup rfl rfl)) xa_nil) ⟨_, rfl, hs, h0, rfl⟩))) ?_)
  simp [h1, h2]
/-- the data of a plank -/
structure Pk where
  L : Int
  st : List (Int × Rat)
structure Pk.Ok (P : Pk) : Prop where
  l2 : 2 ≤ P.L
  l1 : P.L ≤ 1000
  len : P.st.length ≤ 12
  at_ : ∀ s ∈ P.st, 0 < s.1 ∧ s.1 < P.L ∧ Sm s.2 ∧ 0 ≤ s.2
  rise : ∀ i s t, P.st[i]? = some s → P.st[i + 1]? = some t → s.1 < t.1
theorem zip_tail {α : Type} {xs : List α} {p : α × α} (h : p ∈ xs.zip (xs.drop 1)) : ∃ i : Nat, xs[i]? = some p.1 ∧ xs[i + 1]? = some p.2 := by
  obtain ⟨i, hi⟩ := List.mem_iff_getElem?.mp h
  rw [List.getElem?_zip_eq_some] at hi
  refine ⟨i, hi.1, ?_⟩
  have := hi.2
  rw [List.getElem?_drop] at this
  rw [Nat.add_comm]
  exact this
def spProps (K : PySem.W.Frag) : FS := fun _ Ts T => ∃ P : Pk, Ts = [tLst (P.st.map (tPr K)), tInt P.L] ∧ P.Ok ∧ T = tBl true
abbrev FProps (b : Bs) : Prop := FnAt b "are_props" 2 (spOf 2 (spProps b.K)) 5
theorem all_tt {α : Type} (xs : List α) (f : α → Bool) (h : ∀ x ∈ xs, f x = true) : (xs.map f).all id = true := by
  rw [List.all_map]
  exact List.all_eq_true.mpr h
theorem ty_ls {K : PySem.W.Frag} {Ts : List Ty} : TyK K (tLst Ts) "list" := ty_lst
theorem xf_props {b : Bs} (B : Bt b) (hP : FProp b) : XF b ["thing", "length", "one", "other"] 4 (scOf 27) 2 (bodyOf 27) (spProps b.K) := by
  rintro W Ts T ⟨P, rfl, ok, rfl⟩ - Hi0 H0
  refine xb_guard (xt_w (xw_or (xt_not (xt_val (xe_blt B.isinstance (xa_cons (xv 0 rfl rfl rfl) (xa_cons (xe_ty (z := "list") B.list) xa_nil)) (cb_isiK (p := true) ty_lst)))) fun h => (xw_or (xt_cmp (xe_blt B.len (xa_cons (xv 0 rfl rfl rfl) xa_nil) (cb_len sq_lst)) (xe_gi B.mprops) cm_gt) fun h =>
    (xw_or1 (xt_not (xt_val (xe_blt B.all (xa_cons (xe_lcG (F := tBl) (g := fun _ => true) (xc (xs := P.st) (F := tPr b.K) [("one", 2)] [2] (fun x => [tPr b.K x]) (fun _ => true) (fun x => tBl true)
      (xl_list ls_lst (xv 0 rfl rfl rfl)) (fun x hx => xg_name 2) (fun x hx => xts_nil) (fun x hx _ => xe_call hP (xa_cons (xv 2 rfl rfl rfl) (xa_cons (xv 1 rfl rfl rfl) xa_nil)) ⟨x, P.L, rfl, (ok.at_ x hx).1, (ok.at_ x hx).2.1, (ok.at_ x hx).2.2.1, (ok.at_ x hx).2.2.2, rfl⟩) (by have := ok.len; omega))) xa_nil) cb_all))))))) ?_ ?_
  · have h1 : ¬ (12 : Int) < (P.st.length : Int) := by have := ok.len; omega
    have h2 : (P.st.map fun _ => true).all id = true := all_tt _ _ fun _ _ => rfl
    simp only [List.length_map, h1, h2]
    rfl
  refine xb_retE (XE.eq (xe_blt B.all (xa_cons (xe_lcG (F := tBl) (g := fun p : (Int × Rat) × (Int × Rat) => decide (p.1.1 < p.2.1)) (xc (xs := P.st.zip (P.st.drop 1)) (F := fun p => tTup b.K [tPr b.K p.1, tPr b.K p.2]) [("one", 2), ("other", 3)] [2, 3] (fun p => [tPr b.K p.1, tPr b.K p.2]) (fun _ => true) (fun p => tBl (decide (p.1.1 < p.2.1)))
    (xl_zipL B.zip ls_lst (by rw [List.map_drop]; exact ls_lst) (xv 0 rfl rfl rfl) (xe_dropL (n := 1) ls_lst (xv 0 rfl rfl rfl) xe_int rfl)) (fun x hx => xg_tup (xgs_cons (xg_name 2) (xgs_cons (xg_name 3) xgs_nil)) tp_tup) (fun x hx => xts_nil)
    (fun x hx _ => xe_cmp (xe_ix (xv 2 rfl rfl rfl) xe_int (ix_at (n := 0) sq_tup rfl rfl)) (xe_ix (xv 3 rfl rfl rfl) xe_int (ix_at (n := 0) sq_tup rfl rfl)) cm_lt) (by have := ok.len; rw [List.length_zip]; omega))) xa_nil) cb_all) ?_)
  congr 1
  refine all_tt _ _ fun p hp => ?_
  obtain ⟨i, h1, h2⟩ := zip_tail hp
  exact decide_eq_true (ok.rise i _ _ h1 h2)
/-! ### Plank -/
/-- what the class is -/
structure PkC (b : Bs) (C : Addr) : Prop where
  cl : Cls b.K C
  nLong : NoAttr b.K C "long"
  nStakes : NoAttr b.K C "stakes"
  nLimit : NoAttr b.K C "limit"
def pkF (K : PySem.W.Frag) (P : Pk) : List (Str × Ty) := [("long", tInt P.L), ("stakes", tTup K (P.st.map (tPr K))), ("limit", tNon)]
def tPk (K : PySem.W.Frag) (C : Addr) (P : Pk) : Ty := tIns C (pkF K P)
def spInitP (K : PySem.W.Frag) (C : Addr) : FS := fun _ Ts T => ∃ P : Pk, Ts = [tInt P.L, tLst (P.st.map (tPr K)), tNon] ∧ P.Ok ∧ T = tPk K C P
theorem xf_initP {b : Bs} {C : Addr} (B : Bt b) (Cf : PkC b C) (hW : FIsWhole b) (hP : FProps b) : XI0 b ["self", "length", "props", "bend"] 5 (mSc 28 0) C 4 (mBody 28 0) (spInitP b.K C) := by
  rintro W Ts T ⟨P, rfl, ok, rfl⟩ - Hi0 H0 x dx
  refine ⟨gstart ["self", "length", "props", "bend"] [tRef x, tInt P.L, tLst (P.st.map (tPr b.K)), tNon], pkF b.K P, ?_, fun v H h => h⟩
  refine xb_guard (xt_w (xw_or (xt_not (xt_val (xe_call hW (xa_cons (xv 1 rfl rfl rfl) xa_nil) ⟨_, rfl, rfl⟩))) fun h => (xw_or1 (xt_not (xt_chain xe_int (xv 1 rfl rfl rfl) (xe_gi B.mlen) cm_le cm_le))))) (by have h1 := ok.l1; have h2 := ok.l2; simp [h1, h2]) ?_
  refine xb_guard (xt_not (xt_val (xe_call hP (xa_cons (xv 2 rfl rfl rfl) (xa_cons (xv 1 rfl rfl rfl) xa_nil)) ⟨P, rfl, ok, rfl⟩))) rfl ?_
  refine xb_guard (p := false && false) (xt_w (xw_and (p := false) ((xt_notN (p := true) (xv 3 rfl rfl rfl) (fun v H h => by cases (show v = .non from h); rfl)).eq rfl) fun h => nomatch h)) rfl ?_
  refine xb_fld 0 (xv 1 rfl rfl rfl) (xv 0 rfl rfl rfl) rfl rfl Cf.cl Cf.nLong (by decide) ?_
  refine xb_fld 0 (xe_bty B.tuple (xa_cons (xv 2 rfl rfl rfl) xa_nil) (cb_tuple sq_lst)) (xv 0 rfl rfl rfl) rfl (by rfl) Cf.cl Cf.nStakes (by exact Nat.le_of_ble_eq_true rfl) ?_
  refine xb_fld 0 (xv 3 rfl rfl rfl) (xv 0 rfl rfl rfl) rfl (by rfl) Cf.cl Cf.nLimit (by exact Nat.le_of_ble_eq_true rfl) ?_
  exact xb_nil fun _ _ h => h
end Pf

set_option maxHeartbeats 4000000
namespace Pf
open PySem PySem.Spec PyProof.Rows L2 Lg Ra
/-! ### a plank's methods -/
def Pk.n (P : Pk) : Nat := P.st.length
/-- where a rest stands: the walls are -1 and the number of props -/
def plc (L : Int) (sp : List Int) (r : Int) : Int := (0 :: (sp ++ [L])).getD (r + 1).toNat 0
def Pk.pl (P : Pk) (r : Int) : Int := plc P.L (P.st.map (·.1)) r
theorem plc_left {L : Int} {sp : List Int} : plc L sp (-1) = 0 := rfl
theorem plc_right {L : Int} {sp : List Int} : plc L sp (sp.length : Int) = L := by
  unfold plc
  have : ((sp.length : Int) + 1).toNat = sp.length + 1 := by omega
  rw [this, List.getD_eq_getElem?_getD, List.getElem?_cons_succ, List.getElem?_append_right (Nat.le_refl _), Nat.sub_self]
  rfl
theorem plc_prop {L : Int} {sp : List Int} {k : Nat} {x : Int} (h : sp[k]? = some x) : plc L sp (k : Int) = x := by
  unfold plc
  have : ((k : Int) + 1).toNat = k + 1 := by omega
  have hk := (List.getElem?_eq_some_iff.mp h).1
  rw [this, List.getD_eq_getElem?_getD, List.getElem?_cons_succ, List.getElem?_append_left hk, h]
  rfl
section
variable {b : Bs} {C : Addr} {P : Pk}
theorem fkLong (Cf : PkC b C) : FldK b.K (tPk b.K C P) "long" (tInt P.L) := fld_ins Cf.cl Cf.nLong rfl
theorem fkStakes (Cf : PkC b C) : FldK b.K (tPk b.K C P) "stakes" (tTup b.K (P.st.map (tPr b.K))) := fld_ins Cf.cl Cf.nStakes rfl
theorem ikCount {K : PySem.W.Frag} : InK C (tPk K C P) "count" := in_ins rfl
theorem ikLength {K : PySem.W.Frag} : InK C (tPk K C P) "length" := in_ins rfl
theorem ikPlace {K : PySem.W.Frag} : InK C (tPk K C P) "place_of" := in_ins rfl
end
def spCount (K : PySem.W.Frag) (C : Addr) : FS := fun _ Ts T => ∃ P : Pk, Ts = [tPk K C P] ∧ T = tInt (P.n : Int)
def spLength (K : PySem.W.Frag) (C : Addr) : FS := fun _ Ts T => ∃ P : Pk, Ts = [tPk K C P] ∧ T = tInt P.L
abbrev FCount (b : Bs) (C : Addr) : Prop := MeAt b C "count" 1 (spOf 1 (spCount b.K C)) 1
abbrev FLength (b : Bs) (C : Addr) : Prop := MeAt b C "length" 1 (spOf 1 (spLength b.K C)) 1
theorem xf_count {b : Bs} {C : Addr} (B : Bt b) (Cf : PkC b C) : XF b ["self"] 0 (mSc 28 5) 1 (mBody 28 5) (spCount b.K C) := by
  rintro W Ts T ⟨P, rfl, rfl⟩ - Hi0 H0
  refine xb_retE (XE.eq (xe_blt B.len (xa_cons (xe_attr (fkStakes Cf) (xv 0 rfl rfl rfl)) xa_nil) (cb_len sq_tup)) ?_)
  rw [List.length_map]; rfl
theorem xf_length {b : Bs} {C : Addr} (B : Bt b) (Cf : PkC b C) : XF b ["self"] 0 (mSc 28 2) 1 (mBody 28 2) (spLength b.K C) := by
  rintro W Ts T ⟨P, rfl, rfl⟩ - Hi0 H0
  exact xb_retE (xe_attr (fkLong Cf) (xv 0 rfl rfl rfl))
def spPlace (K : PySem.W.Frag) (C : Addr) : FS := fun _ Ts T => ∃ (P : Pk) (r : Int), Ts = [tPk K C P, tInt r] ∧ -1 ≤ r ∧ r ≤ P.n ∧ T = tInt (P.pl r)
abbrev FPlace (b : Bs) (C : Addr) : Prop := MeAt b C "place_of" 2 (spOf 2 (spPlace b.K C)) 2
theorem xf_place {b : Bs} {C : Addr} (B : Bt b) (Cf : PkC b C) (hW : FIsWhole b) (hC : FCount b C) : XF b ["self", "rest"] 1 (mSc 28 6) 2 (mBody 28 6) (spPlace b.K C) := by
  rintro W Ts T ⟨P, r, rfl, h1, h2, rfl⟩ - Hi0 H0
  refine xb_guard (xt_w (xw_or (xt_not (xt_val (xe_call hW (xa_cons (xv 1 rfl rfl rfl) xa_nil) ⟨_, rfl, rfl⟩))) fun h => (xw_or1 (xt_not (xt_chain (xe_gi B.left) (xv 1 rfl rfl rfl) (xe_meth0 hC ikCount (xv 0 rfl rfl rfl) ⟨P, rfl, rfl⟩) cm_le cm_le))))) (by simp [h1, h2]) ?_
  refine xb_ifret (xt_cmp (xv 1 rfl rfl rfl) (xe_gi B.left) cm_eq) (fun h => ?_) (fun h => ?_)
  · have h : r = -1 := by simpa using h
    subst h
    exact xb_retE xe_int
  · have h : ¬ r = -1 := by simpa using h
    refine xb_retE (xe_ifx (xt_cmp (xv 1 rfl rfl rfl) (xe_meth0 hC ikCount (xv 0 rfl rfl rfl) ⟨P, rfl, rfl⟩) cm_eq) (fun h => ?_) (fun h => ?_))
    · have h : r = P.n := by simpa using h
      subst h
      refine (xe_attr (fkLong Cf) (xv 0 rfl rfl rfl)).eq ?_
      have := plc_right (L := P.L) (sp := P.st.map (·.1))
      rw [List.length_map] at this
      exact congrArg tInt this.symm
    · have h : ¬ r = P.n := by simpa using h
      obtain ⟨k, rfl⟩ : ∃ k : Nat, r = k := ⟨r.toNat, by omega⟩
      have hk : k < P.st.length := by have : (P.n : Int) = (P.st.length : Int) := rfl; omega
      have e : P.st[k]? = some P.st[k] := List.getElem?_eq_getElem hk
      have e2 : (P.st.map (tPr b.K))[k]? = some (tPr b.K P.st[k]) := by rw [List.getElem?_map, e]; rfl
      refine (xe_ix (xe_ix (xe_attr (fkStakes Cf) (xv 0 rfl rfl rfl)) (xv 1 rfl rfl rfl) (ix_at (n := k) sq_tup rfl e2)) xe_int (ix_at (n := 0) sq_tup rfl rfl)).eq ?_
      have : (P.st.map (·.1))[k]? = some P.st[k].1 := by rw [List.getElem?_map, e]; rfl
      exact congrArg tInt (plc_prop this).symm
/-! ### lots -/
abbrev tLo (K : PySem.W.Frag) (lot : List Int) : Ty := tTup K (lot.map tInt)
/-- rising numbers of props -/
structure Lot (n : Nat) (lot : List Int) : Prop where
  rise : lot.Pairwise (· < ·)
  at_ : ∀ p ∈ lot, 0 ≤ p ∧ p < n
def spIsLot (K : PySem.W.Frag) (C : Addr) : FS := fun _ Ts T => ∃ (P : Pk) (lot : List Int), Ts = [tPk K C P, tLo K lot] ∧ Lot P.n lot ∧ lot ≠ [] ∧ lot.length ≤ 100000 ∧ T = tBl true
abbrev FIsLot (b : Bs) (C : Addr) : Prop := FnAt b "is_lot" 2 (spOf 2 (spIsLot b.K C)) 2
theorem pw_next {xs : List Int} (h : xs.Pairwise (· < ·)) {p : Int × Int} (m : p ∈ xs.zip (xs.drop 1)) : p.1 < p.2 := by
  obtain ⟨i, h1, h2⟩ := zip_tail m
  obtain ⟨l1, e1⟩ := List.getElem?_eq_some_iff.mp h1
  obtain ⟨l2, e2⟩ := List.getElem?_eq_some_iff.mp h2
  rw [← e1, ← e2]
  exact List.pairwise_iff_getElem.mp h i (i + 1) l1 l2 (by omega)
theorem xf_isLot {b : Bs} {C : Addr} (B : Bt b) (hW : FIsWhole b) (hC : FCount b C) : XF b ["plank", "thing", "one", "other"] 1 (scOf 29) 2 (bodyOf 29) (spIsLot b.K C) := by
  rintro W Ts T ⟨P, lot, rfl, ok, ne, hl, rfl⟩ - Hi0 H0
  refine xb_guard (xt_w (xw_or (xt_not (xt_val (xe_blt B.isinstance (xa_cons (xv 1 rfl rfl rfl) (xa_cons (xe_ty (z := "tuple") B.tuple) xa_nil)) (cb_isiK (p := true) ty_tup)))) fun h => (xw_or1 (xt_not (xt_val (xe_blt B.all (xa_cons (xe_lcG (F := tBl) (g := fun _ => true)
    (xc (xs := lot) (F := tInt) [("one", 2)] [2] (fun x => [tInt x]) (fun _ => true) (fun x => tBl true) (xl_tup tp_tup (xv 1 rfl rfl rfl)) (fun x hx => xg_name 2) (fun x hx => xts_nil)
    (fun x hx _ => (xe_and (xe_call hW (xa_cons (xv 2 rfl rfl rfl) xa_nil) ⟨_, rfl, rfl⟩) fun _ => (xe_one (xe_chain xe_int (xv 2 rfl rfl rfl) (xe_meth0 hC ikCount (xv 0 rfl rfl rfl) ⟨P, rfl, rfl⟩) cm_le cm_lt))).eq (by have := ok.at_ x hx; simp [this.1, this.2])) hl)) xa_nil) cb_all)))))) ?_ ?_
  · rw [all_tt _ _ fun _ _ => rfl]; rfl
  refine xb_retE (XE.eq (xe_blt B.all (xa_cons (xe_lcG (F := tBl) (g := fun p : Int × Int => decide (p.1 < p.2)) (xc (xs := lot.zip (lot.drop 1)) (F := fun p => tTup b.K [tInt p.1, tInt p.2]) [("one", 2), ("other", 3)] [2, 3] (fun p => [tInt p.1, tInt p.2]) (fun _ => true) (fun p => tBl (decide (p.1 < p.2)))
    (xl_zipT B.zip tp_tup (by rw [List.map_drop]; exact tp_tup) (xv 1 rfl rfl rfl) (xe_dropT (n := 1) tp_tup (xv 1 rfl rfl rfl) xe_int rfl (by decide) (by rw [List.length_map]; exact List.length_pos_iff.mpr ne))) (fun x hx => xg_tup (xgs_cons (xg_name 2) (xgs_cons (xg_name 3) xgs_nil)) tp_tup) (fun x hx => xts_nil)
    (fun x hx _ => xe_cmp (xv 2 rfl rfl rfl) (xv 3 rfl rfl rfl) cm_lt) (by rw [List.length_zip]; omega))) xa_nil) cb_all) ?_)
  congr 1
  exact all_tt _ _ fun p hp => decide_eq_true (pw_next ok.rise hp)
def spLotOf (K : PySem.W.Frag) (C : Addr) : FS := fun _ Ts T => ∃ (P : Pk), Ts = [tPk K C P, tNon] ∧ P.n ≤ 100000 ∧ T = tLo K (rgI P.n)
abbrev FLotOf (b : Bs) (C : Addr) : Prop := FnAt b "lot_of" 2 (spOf 2 (spLotOf b.K C)) 3
theorem xf_lotOf {b : Bs} {C : Addr} (B : Bt b) (hC : FCount b C) : XF b ["plank", "lot"] 2 (scOf 30) 2 (bodyOf 30) (spLotOf b.K C) := by
  rintro W Ts T ⟨P, rfl, h1, rfl⟩ - Hi0 H0
  refine xb_ifret (p := true) (xt_isN (xv 1 rfl rfl rfl) (fun v H h => by cases (show v = .non from h); rfl)) (fun h => ?_) (fun h => nomatch h)
  exact xb_retE (xe_tupRg B.tuple B.range (xe_meth0 hC ikCount (xv 0 rfl rfl rfl) ⟨P, rfl, rfl⟩) h1)
/-- a lot between its walls -/
def rests (n : Nat) (lot : List Int) : List Int := -1 :: (lot ++ [(n : Int)])
def spRests (K : PySem.W.Frag) (C : Addr) : FS := fun _ Ts T => ∃ (P : Pk) (lot : List Int), Ts = [tPk K C P, tLo K lot] ∧ lot.length ≤ 1000 ∧ T = tLo K (rests P.n lot)
abbrev FRests (b : Bs) (C : Addr) : Prop := FnAt b "rests_of" 2 (spOf 2 (spRests b.K C)) 2
theorem tLo_rests (K : PySem.W.Frag) (n : Nat) (lot : List Int) : tTup K (([tInt (-1)] ++ lot.map tInt) ++ [tInt (n : Int)]) = tLo K (rests n lot) := by
  unfold tLo rests
  simp
theorem xf_rests {b : Bs} {C : Addr} (B : Bt b) (hC : FCount b C) : XF b ["plank", "lot"] 1 (scOf 31) 2 (bodyOf 31) (spRests b.K C) := by
  rintro W Ts T ⟨P, lot, rfl, h1, rfl⟩ - Hi0 H0
  exact xb_retE ((xe_bin (xe_bin (xe_tp (xa_cons (xe_gi B.left) xa_nil)) (xv 1 rfl rfl rfl) (ok_catT (by simp) (by simp; omega))) (xe_tp (xa_cons (xe_meth0 hC ikCount (xv 0 rfl rfl rfl) ⟨P, rfl, rfl⟩) xa_nil)) (ok_catT (by simp) (by simp; omega))).eq (tLo_rests b.K P.n lot))
/-! ### spots, weights -/
def spSpot (K : PySem.W.Frag) (C : Addr) : FS := fun _ Ts T => ∃ (P : Pk) (q : Rat), Ts = [tPk K C P, tFr K q] ∧ Sm q ∧ Sm (P.L : Rat) ∧ 0 ≤ q ∧ q ≤ P.L ∧ T = tBl true
abbrev FSpot (b : Bs) (C : Addr) : Prop := FnAt b "is_spot" 2 (spOf 2 (spSpot b.K C)) 4
theorem xf_spot {b : Bs} {C : Addr} (hM : FMeas b) (hB : FBelow b) (hW : FWhole b) (hL : FLength b C) : XF b ["plank", "thing"] 3 (scOf 33) 2 (bodyOf 33) (spSpot b.K C) := by
  rintro W Ts T ⟨P, q, rfl, h1, h2, h3, h4, rfl⟩ - Hi0 H0
  refine xb_retE (XE.eq (xe_and (xe_call hM (xa_cons (xv 1 rfl rfl rfl) xa_nil) ⟨_, rfl, h1, h3, rfl⟩) fun _ => (xe_one (xe_not (xe_call hB (xa_cons (xe_call hW (xa_cons (xe_meth0 hL ikLength (xv 0 rfl rfl rfl) ⟨P, rfl, rfl⟩) xa_nil) ⟨_, rfl, rfl⟩) (xa_cons (xv 1 rfl rfl rfl) xa_nil)) ⟨_, _, rfl, h2, h1, rfl⟩)))) ?_)
  have : ¬ (P.L : Rat) < q := Rat.not_lt.mpr h4
  simp [this]
/-- a weight: its spot, how much -/
abbrev tWt (K : PySem.W.Frag) (w : Rat × Rat) : Ty := tTup K [tFr K w.1, tFr K w.2]
structure WtOk (L : Int) (w : Rat × Rat) : Prop where
  s1 : Bd 20 w.1
  s2 : Bd 20 w.2
  lo : 0 ≤ w.1
  hi : w.1 ≤ L
  pos : 0 < w.2
def spWeight (K : PySem.W.Frag) (C : Addr) : FS := fun _ Ts T => ∃ (P : Pk) (w : Rat × Rat), Ts = [tPk K C P, tWt K w] ∧ WtOk P.L w ∧ Sm (P.L : Rat) ∧ T = tBl true
abbrev FWeight (b : Bs) (C : Addr) : Prop := FnAt b "is_weight" 2 (spOf 2 (spWeight b.K C)) 5
theorem sm_of {n : Nat} {q : Rat} (h : Bd n q) (l : n ≤ 1000 := by decide) : Sm q := h.mono l
theorem xf_weight {b : Bs} {C : Addr} (B : Bt b) (hB : FBelow b) (hF : FIsFr b) (hS : FSpot b C) : XF b ["plank", "thing"] 4 (scOf 34) 2 (bodyOf 34) (spWeight b.K C) := by
  rintro W Ts T ⟨P, w, rfl, ok, h2, rfl⟩ - Hi0 H0
  refine xb_guard (xt_w (xw_or (xt_not (xt_val (xe_blt B.isinstance (xa_cons (xv 1 rfl rfl rfl) (xa_cons (xe_ty (z := "tuple") B.tuple) xa_nil)) (cb_isiK (p := true) ty_tup)))) fun h => (xw_or1 (xt_cmp (xe_blt B.len (xa_cons (xv 1 rfl rfl rfl) xa_nil) (cb_len sq_tup)) xe_int cm_ne)))) (by simp) ?_
  refine xb_retE (XE.eq (xe_and (xe_call hS (xa_cons (xv 0 rfl rfl rfl) (xa_cons (xe_ix (xv 1 rfl rfl rfl) xe_int (ix_at (n := 0) sq_tup rfl rfl)) xa_nil)) ⟨_, _, rfl, sm_of ok.s1, h2, ok.lo, ok.hi, rfl⟩) fun _ => (xe_and (xe_call hF (xa_cons (xe_ix (xv 1 rfl rfl rfl) xe_int (ix_at (n := 1) sq_tup rfl rfl)) xa_nil) ⟨_, rfl, rfl⟩) fun _ => (xe_one (xe_call hB (xa_cons (fr_nought B.nought) (xa_cons (xe_ix (xv 1 rfl rfl rfl) xe_int (ix_at (n := 1) sq_tup rfl rfl)) xa_nil)) ⟨_, _, rfl, sm0, sm_of ok.s2, rfl⟩)))) ?_)
  simp [ok.pos]
def spSlope (K : PySem.W.Frag) : FS := fun _ Ts T => ∃ (lo hi : Int) (q : Rat), Ts = [tInt lo, tInt hi, tFr K q] ∧ Bd 100 (lo : Rat) ∧ Bd 100 (hi : Rat) ∧ Bd 100 q ∧ lo < hi ∧ T = tFr K ((q - lo) / ((hi - lo : Int) : Rat))
abbrev FSlope (b : Bs) : Prop := FnAt b "slope" 3 (spOf 3 (spSlope b.K)) 4
theorem cast_pos {i : Int} (h : 0 < i) : (0 : Rat) < i := by exact_mod_cast h
theorem xf_slope {b : Bs} (hO : FOver b) (hL : FLess b) (hW : FWhole b) : XF b ["low", "high", "spot"] 3 (scOf 35) 3 (bodyOf 35) (spSlope b.K) := by
  rintro W Ts T ⟨lo, hi, q, rfl, h1, h2, h3, h4, rfl⟩ - Hi0 H0
  have e : ((hi - lo : Int) : Rat) = (hi : Rat) - lo := Rat.intCast_sub hi lo
  exact xb_retE (xe_call hO (xa_cons (xe_call hL (xa_cons (xv 2 rfl rfl rfl) (xa_cons (xe_call hW (xa_cons (xv 0 rfl rfl rfl) xa_nil) ⟨_, rfl, rfl⟩) xa_nil)) ⟨_, _, rfl, sm_of h3, sm_of h1, rfl⟩) (xa_cons (xe_call hW (xa_cons (xe_bin (xv 1 rfl rfl rfl) (xv 0 rfl rfl rfl) ok_sub) xa_nil) ⟨_, rfl, rfl⟩) xa_nil)) ⟨_, _, rfl, (h3.sub h1).mono (by decide), (e ▸ h2.sub h1 : Bd 201 _).mono (by decide), cast_pos (by omega), rfl⟩)
end Pf

set_option maxHeartbeats 4000000
namespace Pf
open PySem PySem.Spec PyProof.Rows L2 Lg Ra
/-! ### a load's share -/
def shr (a h b : Int) (s : Rat) : Rat := if (a : Rat) < s ∧ s ≤ h then (s - a) / ((h - a : Int) : Rat) else if (h : Rat) < s ∧ s < b then (b - s) / ((b - h : Int) : Rat) else 0
theorem cast_lt {i j : Int} (h : i < j) : (i : Rat) < j := by exact_mod_cast h
theorem shr_at {a h b : Int} (h1 : a < h) : shr a h b h = 1 := by
  unfold shr
  rw [if_pos ⟨cast_lt h1, Rat.le_refl⟩]
  have : (0 : Rat) < ((h - a : Int) : Rat) := cast_pos (by omega)
  rw [Rat.intCast_sub] at this ⊢
  grind
theorem shr_lo0 {a h b : Int} {s : Rat} (h1 : s < h) (h2 : ¬ (a : Rat) < s) : shr a h b s = 0 := by
  unfold shr
  rw [if_neg (fun z => h2 z.1), if_neg (fun z => Rat.not_lt.mpr (Rat.le_of_lt h1) z.1)]
theorem shr_lo {a h b : Int} {s : Rat} (h1 : s < h) (h2 : (a : Rat) < s) : shr a h b s = (s - a) / ((h - a : Int) : Rat) := by
  unfold shr
  rw [if_pos ⟨h2, Rat.le_of_lt h1⟩]
theorem shr_hi0 {a h b : Int} {s : Rat} (h1 : (h : Rat) < s) (h2 : ¬ s < b) : shr a h b s = 0 := by
  unfold shr
  rw [if_neg (fun z => Rat.not_le.mpr h1 z.2), if_neg (fun z => h2 z.2)]
theorem shr_hi {a h b : Int} {s : Rat} (h1 : (h : Rat) < s) (h2 : s < b) : shr a h b s = 1 - (s - h) / ((b - h : Int) : Rat) := by
  unfold shr
  rw [if_neg (fun z => Rat.not_le.mpr h1 z.2), if_pos ⟨h1, h2⟩]
  have h3 : (h : Rat) < b := by grind
  rw [Rat.intCast_sub]
  grind
/-- a rest's triple in the order of the plank -/
structure Tri (n : Nat) (k : Int × Int × Int) : Prop where
  lo : -1 ≤ k.1
  lp : k.1 < k.2.1
  pr : k.2.1 < k.2.2
  hi : k.2.2 ≤ n
/-- the places rise -/
structure Rise (L : Int) (sp : List Int) : Prop where
  lt : ∀ i j : Int, -1 ≤ i → i < j → j ≤ sp.length → plc L sp i < plc L sp j
  ge : ∀ i : Int, -1 ≤ i → i ≤ sp.length → 0 ≤ plc L sp i ∧ plc L sp i ≤ L
  L1 : L ≤ 1000
theorem bd_place {i L : Int} (h : 0 ≤ i ∧ i ≤ L) (h1 : L ≤ 1000) : Bd 10 (i : Rat) := Bd.int (Nat.lt_of_le_of_lt (by omega : i.natAbs ≤ 1000) (by decide)) (by decide)
theorem shr_bd {n : Nat} {a h b : Int} {s : Rat} (hs : Bd n s) (ha : Bd 10 (a : Rat)) (hh : Bd 10 (h : Rat)) (hb : Bd 10 (b : Rat)) (h1 : a < h) (h2 : h < b) : Bd (n + 32) (shr a h b s) := by
  have p1 : (0 : Rat) < ((h - a : Int) : Rat) := cast_pos (by omega)
  have p2 : (0 : Rat) < ((b - h : Int) : Rat) := cast_pos (by omega)
  have n1 : 0 < ((h - a : Int) : Rat).num := by show 0 < h - a; omega
  have n2 : 0 < ((b - h : Int) : Rat).num := by show 0 < b - h; omega
  have e1 : Bd 21 ((h - a : Int) : Rat) := by rw [Rat.intCast_sub]; exact hh.sub ha
  have e2 : Bd 21 ((b - h : Int) : Rat) := by rw [Rat.intCast_sub]; exact hb.sub hh
  unfold shr
  split
  · exact ((hs.sub ha).div e1 n1).mono (by omega)
  · split
    · exact ((hb.sub hs).div e2 n2).mono (by omega)
    · exact Bd.zero.mono (by omega)
def Pk.sh (P : Pk) (k : Int × Int × Int) (s : Rat) : Rat := shr (P.pl k.1) (P.pl k.2.1) (P.pl k.2.2) s
def Pk.Rise (P : Pk) : Prop := Pf.Rise P.L (P.st.map (·.1))
/-- what the class Loads is -/
structure LdC (b : Bs) (D : Addr) : Prop where
  cl : Cls b.K D
  nPlank : NoAttr b.K D "plank"
  nWeights : NoAttr b.K D "weights"
  nKnown : NoAttr b.K D "known"
  nOver : NoAttr b.K D "over"
/-- the data of a load: its plank, its weights, its two caches -/
structure Ld where
  P : Pk
  ws : List (Rat × Rat)
  kn : Addr
  ov : Addr
def ldF (K : PySem.W.Frag) (C : Addr) (l : Ld) : List (Str × Ty) := [("plank", tPk K C l.P), ("weights", tLst (l.ws.map (tWt K))), ("known", tRef l.kn), ("over", tRef l.ov)]
def tLd (K : PySem.W.Frag) (C D : Addr) (l : Ld) : Ty := tIns D (ldF K C l)
section
variable {b : Bs} {C D : Addr} {l : Ld}
theorem flPlank (Lf : LdC b D) : FldK b.K (tLd b.K C D l) "plank" (tPk b.K C l.P) := fld_ins Lf.cl Lf.nPlank rfl
theorem flWeights (Lf : LdC b D) : FldK b.K (tLd b.K C D l) "weights" (tLst (l.ws.map (tWt b.K))) := fld_ins Lf.cl Lf.nWeights rfl
theorem flKnown (Lf : LdC b D) : FldK b.K (tLd b.K C D l) "known" (tRef l.kn) := fld_ins Lf.cl Lf.nKnown rfl
theorem flOver (Lf : LdC b D) : FldK b.K (tLd b.K C D l) "over" (tRef l.ov) := fld_ins Lf.cl Lf.nOver rfl
theorem ikShare {K : PySem.W.Frag} : InK D (tLd K C D l) "share" := in_ins rfl
theorem ikLies {K : PySem.W.Frag} : InK D (tLd K C D l) "lies_on" := in_ins rfl
theorem ikOver {K : PySem.W.Frag} : InK D (tLd K C D l) "is_overlaid" := in_ins rfl
end
/-! ### fractions are compared -/
def frD (q : Rat) : PyData := .tuple [.int q.num, .int (q.den : Int)]
theorem dat_fr {K : PySem.W.Frag} {q : Rat} : DatK K (tFr K q) (frD q) := dat_tup ⟨dat_int, dat_int, trivial⟩
theorem eqv_fr (p q : Rat) : PyData.eqv (frD p) (frD q) = decide (p = q) := by
  unfold frD
  simp only [PyData.eqv, PyData.eqvAll]
  by_cases h : p = q
  · subst h; simp
  · have : ¬ (p.num = q.num ∧ p.den = q.den) := fun z => h (Rat.ext z.1 z.2)
    have e : decide (p = q) = false := decide_eq_false h
    rw [e]
    by_cases h1 : p.num = q.num
    · have h2 : ¬ p.den = q.den := fun z => this ⟨h1, z⟩
      simp [h1]
      omega
    · simp [h1]
theorem cm_eqF {c : Cst} {p q : Rat} : CmK c .Eq (tFr c.b.K p) (tFr c.b.K q) (tBl (decide (p = q))) := by
  rw [← eqv_fr]
  exact cm_eqD dat_fr dat_fr rfl rfl
def spShare (K : PySem.W.Frag) (C D : Addr) : FS := fun _ Ts T => ∃ (l : Ld) (k : Int × Int × Int) (s : Rat), Ts = [tLd K C D l, tInt k.1, tInt k.2.1, tInt k.2.2, tFr K s] ∧ Tri l.P.n k ∧ l.P.Rise ∧ Bd 100 s ∧ T = tFr K (l.P.sh k s)
abbrev FShare (b : Bs) (C D : Addr) : Prop := MeAt b D "share" 5 (spOf 5 (spShare b.K C D)) 5
theorem xf_share {b : Bs} {C D : Addr} (B : Bt b) (Lf : LdC b D) (hC : FCount b C) (hP : FPlace b C) (hB : FBelow b) (hL : FLess b) (hS : FSlope b) (hW : FWhole b) :
    XF b ["self", "left", "rest", "right", "spot", "here", "high", "low"] 4 (mSc 36 1) 5 (mBody 36 1) (spShare b.K C D) := by
  rintro W Ts T ⟨l, ⟨lf, p, r⟩, s, rfl, ⟨t1, t2, t3, t4⟩, rs, hs, rfl⟩ - Hi0 H0
  simp only at t1 t2 t3 t4
  have hn : (l.P.st.map (·.1)).length = l.P.n := List.length_map _
  have gp := fun i (a : -1 ≤ i) (z : i ≤ (l.P.n : Int)) => rs.ge i a (by rw [hn]; exact z)
  have bp := fun i (a : -1 ≤ i) (z : i ≤ (l.P.n : Int)) => bd_place (gp i a z) rs.L1
  have l1 : l.P.pl lf < l.P.pl p := rs.lt lf p t1 t2 (by rw [hn]; omega)
  have l2 : l.P.pl p < l.P.pl r := rs.lt p r (by omega) t3 (by rw [hn]; omega)
  have b1 := bp lf t1 (by omega)
  have b2 := bp p (by omega) (by omega)
  have b3 := bp r (by omega) t4
  have s1 : Sm ((l.P.pl lf : Int) : Rat) := b1.mono (by decide)
  have s2 : Sm ((l.P.pl p : Int) : Rat) := b2.mono (by decide)
  have s3 : Sm ((l.P.pl r : Int) : Rat) := b3.mono (by decide)
  have hq : ¬ (p : Int) = -1 := by omega
  have hq2 : ¬ (p : Int) = (l.P.n : Int) := by omega
  refine xb_asg 5 (xe_meth hP ikPlace (xe_attr (flPlank Lf) (xv 0 rfl rfl rfl)) (xa_cons (xv 2 rfl rfl rfl) xa_nil) ⟨l.P, p, rfl, by omega, by omega, rfl⟩) ?_
  refine xb_ifret (p := decide (s = (l.P.pl p : Int))) (XT.eq (xt_cmp (xv 4 rfl rfl rfl) (xe_call hW (xa_cons (xv 5 rfl rfl rfl) xa_nil) ⟨_, rfl, rfl⟩) (cm_eqF)) rfl) (fun h => ?_) (fun h => ?_)
  · have h : s = (l.P.pl p : Int) := by simpa using h
    refine xb_retE ((fr_one B.one).eq ?_)
    subst h
    exact congrArg (tFr b.K) (shr_at l1).symm
  have hne : ¬ s = (l.P.pl p : Int) := by simpa using h
  refine xb_ifret (xt_val (xe_call hB (xa_cons (xv 4 rfl rfl rfl) (xa_cons (xe_call hW (xa_cons (xv 5 rfl rfl rfl) xa_nil) ⟨_, rfl, rfl⟩) xa_nil)) ⟨_, _, rfl, sm_of hs, s2, rfl⟩)) (fun h => ?_) (fun h => ?_)
  · have h : s < (l.P.pl p : Int) := by simpa using h
    refine xb_asg 7 (xe_ifx (p := false) ((xt_cmp (xv 2 rfl rfl rfl) (xe_gi B.left) cm_eq).eq (decide_eq_false hq)) (fun z => nomatch z) (fun _ => xe_meth hP ikPlace (xe_attr (flPlank Lf) (xv 0 rfl rfl rfl)) (xa_cons (xv 1 rfl rfl rfl) xa_nil) ⟨l.P, lf, rfl, by omega, by omega, rfl⟩)) ?_
    refine xb_ifret (xt_w (xw_or (p := false) (xt_isN (xv 7 rfl rfl rfl) (fun v H h => by cases (show v = .int _ from h); rfl)) fun _ => (xw_or1 (xt_not (xt_val (xe_call hB (xa_cons (xe_call hW (xa_cons (xv 7 rfl rfl rfl) xa_nil) ⟨_, rfl, rfl⟩) (xa_cons (xv 4 rfl rfl rfl) xa_nil)) ⟨_, _, rfl, s1, sm_of hs, rfl⟩)))))) (fun h2 => ?_) (fun h2 => ?_)
    · have h2 : ¬ ((l.P.pl lf : Int) : Rat) < s := by simpa using h2
      exact xb_retE ((fr_nought B.nought).eq (congrArg (tFr b.K) (shr_lo0 h h2).symm))
    · have h2 : ((l.P.pl lf : Int) : Rat) < s := by simpa using h2
      exact xb_retE ((xe_call hS (xa_cons (xv 7 rfl rfl rfl) (xa_cons (xv 5 rfl rfl rfl) (xa_cons (xv 4 rfl rfl rfl) xa_nil))) ⟨_, _, _, rfl, b1.mono (by decide), b2.mono (by decide), hs, l1, rfl⟩).eq (congrArg (tFr b.K) (shr_lo h h2).symm))
  · have h : ¬ s < (l.P.pl p : Int) := by simpa using h
    have h : ((l.P.pl p : Int) : Rat) < s := by
      rcases Rat.le_iff_lt_or_eq.mp (Rat.not_lt.mp h) with z | z
      · exact z
      · exact (hne z.symm).elim
    refine xb_asg 6 (xe_ifx (p := false) ((xt_cmp (xv 2 rfl rfl rfl) (xe_meth0 hC ikCount (xe_attr (flPlank Lf) (xv 0 rfl rfl rfl)) ⟨l.P, rfl, rfl⟩) cm_eq).eq (decide_eq_false hq2)) (fun z => nomatch z) (fun _ => xe_meth hP ikPlace (xe_attr (flPlank Lf) (xv 0 rfl rfl rfl)) (xa_cons (xv 3 rfl rfl rfl) xa_nil) ⟨l.P, r, rfl, by omega, t4, rfl⟩)) ?_
    refine xb_ifret (xt_w (xw_or (p := false) (xt_isN (xv 6 rfl rfl rfl) (fun v H h => by cases (show v = .int _ from h); rfl)) fun _ => (xw_or1 (xt_not (xt_val (xe_call hB (xa_cons (xv 4 rfl rfl rfl) (xa_cons (xe_call hW (xa_cons (xv 6 rfl rfl rfl) xa_nil) ⟨_, rfl, rfl⟩) xa_nil)) ⟨_, _, rfl, sm_of hs, s3, rfl⟩)))))) (fun h2 => ?_) (fun h2 => ?_)
    · have h2 : ¬ s < ((l.P.pl r : Int) : Rat) := by simpa using h2
      exact xb_retE ((fr_nought B.nought).eq (congrArg (tFr b.K) (shr_hi0 h h2).symm))
    · have h2 : s < ((l.P.pl r : Int) : Rat) := by simpa using h2
      have n2 : 0 < ((l.P.pl r - l.P.pl p : Int) : Rat).num := by show 0 < l.P.pl r - l.P.pl p; omega
      have e2 : Bd 21 ((l.P.pl r - l.P.pl p : Int) : Rat) := by rw [Rat.intCast_sub]; exact b3.sub b2
      refine xb_retE ((xe_call hL (xa_cons (fr_one B.one) (xa_cons (xe_call hS (xa_cons (xv 5 rfl rfl rfl) (xa_cons (xv 6 rfl rfl rfl) (xa_cons (xv 4 rfl rfl rfl) xa_nil))) ⟨_, _, _, rfl, b2.mono (by decide), b3.mono (by decide), hs, l2, rfl⟩) xa_nil)) ⟨_, _, rfl, sm1, ((hs.sub b2).div e2 n2).mono (by decide), rfl⟩).eq (congrArg (tFr b.K) (shr_hi h h2).symm))
end Pf

set_option maxHeartbeats 4000000
namespace Pf
open PySem PySem.Spec PyProof.Rows L2 Lg Ra
/-! ### loads and their caches -/
abbrev Tr := Int × Int × Int
def kOf (k : Tr) : List Key := [k.1, k.2.1, k.2.2].map Sum.inl
theorem kOf_inj {k j : Tr} (h : kOf k = kOf j) : k = j := by
  obtain ⟨a, b, d⟩ := k
  obtain ⟨a', b', d'⟩ := j
  simp [kOf] at h
  obtain ⟨h1, h2, h3⟩ := h
  subst h1; subst h2; subst h3
  rfl
/-- all keys -/
def kAll (n : Nat) : List (List Key) := (List.range ((n + 2) * (n + 2) * (n + 2))).map fun i => kOf (((i / (n + 2) / (n + 2) : Nat) : Int) - 1, ((i / (n + 2) % (n + 2) : Nat) : Int) - 1, ((i % (n + 2) : Nat) : Int) - 1)
theorem kAll_len (n : Nat) : (kAll n).length = (n + 2) * (n + 2) * (n + 2) := by unfold kAll; rw [List.length_map, List.length_range]
theorem enc_lt {a b m k : Nat} (h1 : a < k) (h2 : b < m) : a * m + b < k * m := by
  have h3 : (a + 1) * m ≤ k * m := Nat.mul_le_mul_right m h1
  have h4 : (a + 1) * m = a * m + m := Nat.succ_mul a m
  omega
theorem enc_div {a b m : Nat} (h2 : b < m) : (a * m + b) / m = a := by
  rw [Nat.add_comm, Nat.mul_comm, Nat.add_mul_div_left _ _ (by omega), Nat.div_eq_of_lt h2, Nat.zero_add]
theorem enc_mod {a b m : Nat} (h2 : b < m) : (a * m + b) % m = b := by
  rw [Nat.add_comm, Nat.add_mul_mod_self_right, Nat.mod_eq_of_lt h2]
theorem kAll_mem {n : Nat} {k : Tr} (h : Tri n k) : kOf k ∈ kAll n := by
  obtain ⟨h1, h2, h3, h4⟩ := h
  obtain ⟨a, b, d⟩ := k
  simp only at h1 h2 h3 h4
  have ha : ((a + 1).toNat : Int) = a + 1 := by omega
  have hb : ((b + 1).toNat : Int) = b + 1 := by omega
  have hd : ((d + 1).toNat : Int) = d + 1 := by omega
  have la : (a + 1).toNat < n + 2 := by omega
  have lb : (b + 1).toNat < n + 2 := by omega
  have ld : (d + 1).toNat < n + 2 := by omega
  refine List.mem_map.mpr ⟨((a + 1).toNat * (n + 2) + (b + 1).toNat) * (n + 2) + (d + 1).toNat, List.mem_range.mpr (enc_lt (enc_lt la lb) ld), ?_⟩
  rw [enc_div ld, enc_mod ld, enc_div lb, enc_mod lb]
  have e1 : (((a + 1).toNat : Nat) : Int) - 1 = a := by omega
  have e2 : (((b + 1).toNat : Nat) : Int) - 1 = b := by omega
  have e3 : (((d + 1).toNat : Nat) : Int) - 1 = d := by omega
  rw [e1, e2, e3]
/-- how much lies on a rest -/
def loadOf (sh : Tr → Rat → Rat) (ws : List (Rat × Rat)) (k : Tr) : Rat := sumF (ws.map fun w => w.2 * sh k w.1)
def Ld.load (l : Ld) (k : Tr) : Rat := loadOf l.P.sh l.ws k
def Pk.str (P : Pk) (p : Int) : Rat := (P.st.getD p.toNat (0, 0)).2
structure Ld.Ok (l : Ld) : Prop where
  pok : l.P.Ok
  rise : l.P.Rise
  few : l.ws.length ≤ 5
  wt : ∀ w ∈ l.ws, WtOk l.P.L w
theorem sum_bd {xs : List Rat} {n : Nat} (h : ∀ x ∈ xs, Bd n x) : Bd (xs.length * (n + 1) + 1) (sumF xs) := by
  have : ∀ (ys : List Rat), (∀ x ∈ ys, Bd n x) → Bd (ys.length * (n + 1) + 1) (sumF ys.reverse.reverse.reverse) := by
    intro ys
    rw [List.reverse_reverse]
    induction ys with
    | nil => intro _; exact Bd.zero.mono (by simp)
    | cons y ys ih =>
      intro hy
      have h1 := ih fun x hx => hy x (List.mem_cons_of_mem _ hx)
      rw [List.reverse_cons, sumF_snoc]
      refine (h1.add (hy y List.mem_cons_self)).mono ?_
      rw [List.length_cons, Nat.add_mul]
      omega
  have := this xs.reverse fun x hx => h x (List.mem_reverse.mp hx)
  rw [List.length_reverse, List.reverse_reverse, List.reverse_reverse] at this
  exact this
def knCh (K : PySem.W.Frag) (l : Ld) : Ch := ⟨l.kn, fun ks => tEx fun k : Tr => tWith (ks = kOf k) (tFr K (l.load k)), kAll l.P.n⟩
def ovCh (K : PySem.W.Frag) (l : Ld) : Ch := ⟨l.ov, fun ks => tEx fun k : Tr => tWith (ks = kOf k) (tBl (decide (l.P.str k.2.1 < l.load k))), kAll l.P.n⟩
theorem kAll_lt {P : Pk} (ok : P.Ok) : (kAll P.n).length < 100000 := by
  rw [kAll_len]
  have h : P.n + 2 ≤ 14 := by have := ok.len; show P.st.length + 2 ≤ 14; omega
  exact Nat.lt_of_le_of_lt (Nat.mul_le_mul (Nat.mul_le_mul h h) h) (by decide)
theorem Pk.place_bd {P : Pk} (rs : P.Rise) {i : Int} (h1 : -1 ≤ i) (h2 : i ≤ P.n) : Bd 10 ((P.pl i : Int) : Rat) :=
  bd_place (rs.ge i h1 (by have : (P.st.map (·.1)).length = P.n := List.length_map _
                           rw [this]; exact h2)) rs.L1
theorem Pk.sh_bd {P : Pk} {k : Tr} (rs : P.Rise) (t : Tri P.n k) {n : Nat} {s : Rat} (hs : Bd n s) : Bd (n + 32) (P.sh k s) := by
  obtain ⟨t1, t2, t3, t4⟩ := t
  have hn : (P.st.map (·.1)).length = P.n := List.length_map _
  exact shr_bd hs (Pk.place_bd rs t1 (by omega)) (Pk.place_bd rs (by omega) (by omega)) (Pk.place_bd rs (by omega) t4) (rs.lt _ _ t1 t2 (by rw [hn]; omega)) (rs.lt _ _ (by omega) t3 (by rw [hn]; omega))
theorem term_bd {l : Ld} {k : Tr} (ok : l.Ok) (t : Tri l.P.n k) {w : Rat × Rat} (hw : w ∈ l.ws) : Bd 72 (w.2 * l.P.sh k w.1) :=
  ((ok.wt w hw).s2.mul (Pk.sh_bd ok.rise t (ok.wt w hw).s1))
theorem load_bd {l : Ld} {k : Tr} (ok : l.Ok) (t : Tri l.P.n k) (i : Nat) : Bd 400 (sumF ((l.ws.map fun w => w.2 * l.P.sh k w.1).take i)) := by
  refine (sum_bd (n := 72) fun x hx => ?_).mono ?_
  · obtain ⟨w, hw, rfl⟩ := List.mem_map.mp (List.mem_of_mem_take hx)
    exact term_bd ok t hw
  · have := ok.few
    have h2 : ((l.ws.map fun w => w.2 * l.P.sh k w.1).take i).length ≤ 5 := by rw [List.length_take, List.length_map]; omega
    have := Nat.mul_le_mul_right 73 h2
    omega
theorem load_bd1 {l : Ld} {k : Tr} (ok : l.Ok) (t : Tri l.P.n k) : Bd 400 (l.load k) := by
  have := load_bd ok t (l.ws.map fun w => w.2 * l.P.sh k w.1).length
  rw [List.take_length] at this
  exact this
def spLies (K : PySem.W.Frag) (C D : Addr) : FS := fun W Ts T => ∃ (l : Ld) (k : Tr), Ts = [tLd K C D l, tInt k.1, tInt k.2.1, tInt k.2.2] ∧ Tri l.P.n k ∧ l.Ok ∧ knCh K l ∈ W ∧ T = tFr K (l.load k)
abbrev FLies (b : Bs) (C D : Addr) : Prop := MeAt b D "lies_on" 4 (spOf 4 (spLies b.K C D)) 6
theorem xf_lies {b : Bs} {C D : Addr} (B : Bt b) (Lf : LdC b D) (hT : FTimes b) (hS : FShare b C D) (hSum : FSum b) : XF b ["self", "left", "rest", "right", "key", "some", "spot", "weight"] 5 (mSc 36 2) 4 (mBody 36 2) (spLies b.K C D) := by
  rintro W Ts T ⟨l, k, rfl, tr, ok, hc, rfl⟩ - Hi0 H0
  refine xb_asg 4 (xe_key [k.1, k.2.1, k.2.2] (xa_cons (xv 1 rfl rfl rfl) (xa_cons (xv 2 rfl rfl rfl) (xa_cons (xv 3 rfl rfl rfl) xa_nil))) (by simp)) ?_
  refine xb_cask (G' := [some (tLd b.K C D l), some (tInt k.1), some (tInt k.2.1), some (tInt k.2.2), some (tKey (kOf k)), none, none, none]) hc (xv 4 rfl rfl rfl) (xe_attr (flKnown Lf) (xv 0 rfl rfl rfl)) ?_ ?_ ?_
  · refine xb_lcG (F := tFr b.K) (g := fun w : Rat × Rat => w.2 * l.P.sh k w.1) 5 (xc (xs := l.ws) (F := tWt b.K) [("spot", 6), ("weight", 7)] [6, 7] (fun w => [tFr b.K w.1, tFr b.K w.2]) (fun _ => true) (fun w => tFr b.K (w.2 * l.P.sh k w.1))
      (xl_list ls_lst (xe_attr (flWeights Lf) (xv 0 rfl rfl rfl))) (fun x hx => xg_tup (xgs_cons (xg_name 6) (xgs_cons (xg_name 7) xgs_nil)) tp_tup) (fun x hx => xts_nil)
      (fun w hw _ => xe_call hT (xa_cons (xv 7 rfl rfl rfl) (xa_cons (xe_meth hS ikShare (xv 0 rfl rfl rfl) (xa_cons (xv 1 rfl rfl rfl) (xa_cons (xv 2 rfl rfl rfl) (xa_cons (xv 3 rfl rfl rfl) (xa_cons (xv 6 rfl rfl rfl) xa_nil)))) ⟨l, k, w.1, rfl, tr, ok.rise, (ok.wt w hw).s1.mono (by decide), rfl⟩) xa_nil)) ⟨_, _, rfl, sm_of (ok.wt w hw).s2, sm_of (Pk.sh_bd ok.rise tr (ok.wt w hw).s1), rfl⟩) (by have := ok.few; omega)) ?_
    refine xb_cput (key := kOf k) hc (xe_call hSum (xa_cons (xv 5 rfl rfl rfl) xa_nil) ⟨_, rfl, ?_, fun i => sm_of (load_bd ok tr i), rfl⟩) (xe_attr (flKnown Lf) (xv 0 rfl rfl rfl)) (xv 4 rfl rfl rfl) (kAll_mem tr) (kAll_lt ok.pok) (fun v H h => ⟨k, rfl, h⟩) ?_
    · intro q hq
      obtain ⟨w, hw, rfl⟩ := List.mem_map.mp hq
      exact sm_of (term_bd ok tr hw)
    · exact xb_nil fun σ H ⟨h1, h2⟩ => ⟨h1.le' ⟨fun _ _ h => h, fun _ _ h => h, fun _ _ h => h, fun _ _ h => h, fun _ _ h => h, trivial⟩, h2⟩
  · exact ⟨fun _ _ h => h, fun _ _ h => h, fun _ _ h => h, fun _ _ h => h, fun _ _ h => h, trivial⟩
  · refine xb_cret hc (xe_attr (flKnown Lf) (xv 0 rfl rfl rfl)) (xv 4 rfl rfl rfl) fun v H ⟨j, hj, h⟩ => ?_
    have := kOf_inj hj
    subst this
    exact h
def spOverlaid (K : PySem.W.Frag) (C D : Addr) : FS := fun W Ts T => ∃ (l : Ld) (k : Tr), Ts = [tLd K C D l, tInt k.1, tInt k.2.1, tInt k.2.2] ∧ Tri l.P.n k ∧ l.Ok ∧ knCh K l ∈ W ∧ ovCh K l ∈ W ∧ T = tBl (decide (l.P.str k.2.1 < l.load k))
abbrev FOverlaid (b : Bs) (C D : Addr) : Prop := MeAt b D "is_overlaid" 4 (spOf 4 (spOverlaid b.K C D)) 7
theorem Tri.prop {n : Nat} {k : Tr} (t : Tri n k) : 0 ≤ k.2.1 ∧ k.2.1 < n := ⟨by have := t.lo; have := t.lp; omega, by have := t.hi; have := t.pr; omega⟩
theorem str_at {P : Pk} {p : Int} (h : 0 ≤ p ∧ p < P.n) : ∃ s, P.st[p.toNat]? = some s ∧ s ∈ P.st ∧ P.str p = s.2 := by
  have hk : p.toNat < P.st.length := by have : (P.n : Int) = (P.st.length : Int) := rfl; omega
  refine ⟨P.st[p.toNat], List.getElem?_eq_getElem hk, List.getElem_mem hk, ?_⟩
  unfold Pk.str
  rw [List.getD_eq_getElem?_getD, List.getElem?_eq_getElem hk]; rfl
theorem xf_overlaid {b : Bs} {C D : Addr} (B : Bt b) (Cf : PkC b C) (Lf : LdC b D) (hB : FBelow b) (hL : FLies b C D) : XF b ["self", "left", "prop", "right", "key"] 6 (mSc 36 3) 4 (mBody 36 3) (spOverlaid b.K C D) := by
  rintro W Ts T ⟨l, k, rfl, tr, ok, hc, hc2, rfl⟩ - Hi0 H0
  obtain ⟨s, hs1, hs2, hs3⟩ := str_at tr.prop
  have e2 : (l.P.st.map (tPr b.K))[k.2.1.toNat]? = some (tPr b.K s) := by rw [List.getElem?_map, hs1]; rfl
  have hk : ((k.2.1.toNat : Nat) : Int) = k.2.1 := by have := tr.prop.1; omega
  refine xb_asg 4 (xe_key [k.1, k.2.1, k.2.2] (xa_cons (xv 1 rfl rfl rfl) (xa_cons (xv 2 rfl rfl rfl) (xa_cons (xv 3 rfl rfl rfl) xa_nil))) (by simp)) ?_
  refine xb_cask (G' := [some (tLd b.K C D l), some (tInt k.1), some (tInt k.2.1), some (tInt k.2.2), some (tKey (kOf k))]) hc2 (xv 4 rfl rfl rfl) (xe_attr (flOver Lf) (xv 0 rfl rfl rfl)) ?_ ?_ ?_
  · refine xb_cput (key := kOf k) hc2 (xe_call hB (xa_cons (xe_ix (xe_ix (xe_attr (fkStakes Cf) (xe_attr (flPlank Lf) (xv 0 rfl rfl rfl))) (xv 2 rfl rfl rfl) (ix_at (n := k.2.1.toNat) sq_tup hk e2)) xe_int (ix_at (n := 1) sq_tup rfl rfl))
      (xa_cons (xe_meth hL ikLies (xv 0 rfl rfl rfl) (xa_cons (xv 1 rfl rfl rfl) (xa_cons (xv 2 rfl rfl rfl) (xa_cons (xv 3 rfl rfl rfl) xa_nil))) ⟨l, k, rfl, tr, ok, hc, rfl⟩) xa_nil)) ⟨_, _, rfl, (ok.pok.at_ s hs2).2.2.1, sm_of (load_bd1 ok tr), rfl⟩) (xe_attr (flOver Lf) (xv 0 rfl rfl rfl)) (xv 4 rfl rfl rfl) (kAll_mem tr) (kAll_lt ok.pok) (fun v H h => ⟨k, rfl, by rw [hs3]; exact h⟩) ?_
    exact xb_nil fun σ H ⟨h1, h2⟩ => ⟨h1.le' ⟨fun _ _ h => h, fun _ _ h => h, fun _ _ h => h, fun _ _ h => h, fun _ _ h => h, trivial⟩, h2⟩
  · exact ⟨fun _ _ h => h, fun _ _ h => h, fun _ _ h => h, fun _ _ h => h, fun _ _ h => h, trivial⟩
  · refine xb_cret hc2 (xe_attr (flOver Lf) (xv 0 rfl rfl rfl)) (xv 4 rfl rfl rfl) fun v H ⟨j, hj, h⟩ => ?_
    have := kOf_inj hj
    subst this
    exact h
end Pf

set_option maxHeartbeats 4000000
namespace Pf
open PySem PySem.Spec PyProof.Rows L2 Lg Ra
/-! ### the neighbours in a lot -/
def lft (lot : List Int) (p : Int) : Int := (lot.filter (· < p)).foldl max (-1)
def rgt (n : Nat) (lot : List Int) (p : Int) : Int := (lot.filter (p < ·)).foldl min n
theorem fmax {l : List Int} : ∀ {a : Int}, (l.foldl max a = a ∨ l.foldl max a ∈ l) ∧ a ≤ l.foldl max a ∧ ∀ q ∈ l, q ≤ l.foldl max a := by
  induction l with
  | nil => intro a; simp
  | cons x l ih =>
    intro a
    obtain ⟨h1, h2, h3⟩ := ih (a := max a x)
    rw [List.foldl_cons]
    refine ⟨?_, by omega, fun q hq => ?_⟩
    · rcases h1 with h | h
      · rw [h]
        by_cases hx : a ≤ x
        · exact .inr (by rw [Int.max_eq_right hx]; exact List.mem_cons_self)
        · exact .inl (Int.max_eq_left (by omega))
      · exact .inr (List.mem_cons_of_mem _ h)
    · rcases List.mem_cons.mp hq with rfl | hq
      · omega
      · exact h3 q hq
theorem fmin {l : List Int} : ∀ {a : Int}, (l.foldl min a = a ∨ l.foldl min a ∈ l) ∧ l.foldl min a ≤ a ∧ ∀ q ∈ l, l.foldl min a ≤ q := by
  induction l with
  | nil => intro a; simp
  | cons x l ih =>
    intro a
    obtain ⟨h1, h2, h3⟩ := ih (a := min a x)
    rw [List.foldl_cons]
    refine ⟨?_, by omega, fun q hq => ?_⟩
    · rcases h1 with h | h
      · rw [h]
        by_cases hx : x ≤ a
        · exact .inr (by rw [Int.min_eq_right hx]; exact List.mem_cons_self)
        · exact .inl (Int.min_eq_left (by omega))
      · exact .inr (List.mem_cons_of_mem _ h)
    · rcases List.mem_cons.mp hq with rfl | hq
      · omega
      · exact h3 q hq
theorem lft_is (lot : List Int) (p : Int) : (lft lot p = -1 ∨ (lft lot p ∈ lot ∧ lft lot p < p)) ∧ -1 ≤ lft lot p ∧ ∀ q ∈ lot, q < p → q ≤ lft lot p := by
  obtain ⟨h1, h2, h3⟩ := fmax (l := lot.filter (· < p)) (a := -1)
  refine ⟨h1.imp id fun h => ?_, h2, fun q hq hp => h3 q (List.mem_filter.mpr ⟨hq, decide_eq_true hp⟩)⟩
  have := List.mem_filter.mp h
  exact ⟨this.1, of_decide_eq_true this.2⟩
theorem rgt_is (n : Nat) (lot : List Int) (p : Int) : (rgt n lot p = n ∨ (rgt n lot p ∈ lot ∧ p < rgt n lot p)) ∧ rgt n lot p ≤ n ∧ ∀ q ∈ lot, p < q → rgt n lot p ≤ q := by
  obtain ⟨h1, h2, h3⟩ := fmin (l := lot.filter (p < ·)) (a := (n : Int))
  refine ⟨h1.imp id fun h => ?_, h2, fun q hq hp => h3 q (List.mem_filter.mpr ⟨hq, decide_eq_true hp⟩)⟩
  have := List.mem_filter.mp h
  exact ⟨this.1, of_decide_eq_true this.2⟩
/-- the key of p in a lot -/
def kOn (n : Nat) (lot : List Int) (p : Int) : Tr := (lft lot p, p, rgt n lot p)
theorem Lot.tri {n : Nat} {lot : List Int} (h : Lot n lot) {p : Int} (hp : p ∈ lot) : Tri n (kOn n lot p) := by
  obtain ⟨a1, a2, a3⟩ := lft_is lot p
  obtain ⟨b1, b2, b3⟩ := rgt_is n lot p
  have hp' := h.at_ p hp
  refine ⟨a2, ?_, ?_, b2⟩
  · show lft lot p < p
    rcases a1 with z | z
    · omega
    · exact z.2
  · show p < rgt n lot p
    rcases b1 with z | z
    · omega
    · exact z.2
theorem rests_at {n : Nat} {lot : List Int} (h : Lot n lot) {i : Nat} {p : Int} (hi : lot[i]? = some p) : (rests n lot)[i]? = some (lft lot p) ∧ (rests n lot)[i + 2]? = some (rgt n lot p) := by
  obtain ⟨hl, he⟩ := List.getElem?_eq_some_iff.mp hi
  have mono : ∀ (a b : Nat) (ha : a < lot.length) (hb : b < lot.length), a < b → lot[a] < lot[b] := fun a b ha hb hab => List.pairwise_iff_getElem.mp h.rise a b ha hb hab
  obtain ⟨a1, a2, a3⟩ := lft_is lot p
  obtain ⟨b1, b2, b3⟩ := rgt_is n lot p
  have hp := h.at_ p (List.mem_of_getElem? hi)
  constructor
  · cases i with
    | zero =>
      show some (-1 : Int) = _
      congr 1
      rcases a1 with z | ⟨z, z2⟩
      · exact z.symm
      · obtain ⟨j, hj⟩ := List.mem_iff_getElem?.mp z
        obtain ⟨jl, je⟩ := List.getElem?_eq_some_iff.mp hj
        by_cases h0 : j = 0
        · subst h0; rw [je] at he; omega
        · have := mono 0 j hl jl (by omega); omega
    | succ i =>
      show (lot ++ [(n : Int)])[i]? = _
      have hl' : i < lot.length := by omega
      rw [List.getElem?_append_left hl', List.getElem?_eq_getElem hl']
      congr 1
      have m1 := mono i (i + 1) hl' hl (by omega)
      have q1 := a3 lot[i] (List.getElem_mem hl') (by omega)
      rcases a1 with z | ⟨z, z2⟩
      · have := h.at_ lot[i] (List.getElem_mem hl'); omega
      · obtain ⟨j, hj⟩ := List.mem_iff_getElem?.mp z
        obtain ⟨jl, je⟩ := List.getElem?_eq_some_iff.mp hj
        rcases Nat.lt_trichotomy j i with c | c | c
        · have := mono j i jl hl' c; omega
        · subst c; omega
        · rcases Nat.lt_trichotomy j (i + 1) with d | d | d
          · omega
          · subst d; omega
          · have := mono (i + 1) j hl jl d; omega
  · show (lot ++ [(n : Int)])[i + 1]? = _
    by_cases hl' : i + 1 < lot.length
    · rw [List.getElem?_append_left hl', List.getElem?_eq_getElem hl']
      congr 1
      have m1 := mono i (i + 1) hl hl' (by omega)
      have q1 := b3 lot[i + 1] (List.getElem_mem hl') (by omega)
      rcases b1 with z | ⟨z, z2⟩
      · have := h.at_ lot[i + 1] (List.getElem_mem hl'); omega
      · obtain ⟨j, hj⟩ := List.mem_iff_getElem?.mp z
        obtain ⟨jl, je⟩ := List.getElem?_eq_some_iff.mp hj
        rcases Nat.lt_trichotomy j i with c | c | c
        · have := mono j i jl hl c; omega
        · subst c; omega
        · rcases Nat.lt_trichotomy j (i + 1) with d | d | d
          · omega
          · subst d; omega
          · have := mono (i + 1) j hl' jl d; omega
    · have e : i + 1 = lot.length := by omega
      rw [List.getElem?_append_right (by omega), e, Nat.sub_self]
      show some (n : Int) = _
      congr 1
      rcases b1 with z | ⟨z, z2⟩
      · exact z.symm
      · obtain ⟨j, hj⟩ := List.mem_iff_getElem?.mp z
        obtain ⟨jl, je⟩ := List.getElem?_eq_some_iff.mp hj
        by_cases c : j = i
        · subst c; omega
        · have := mono j i jl hl (by omega); omega
/-- a triple as a tuple -/
abbrev tK (K : PySem.W.Frag) (k : Tr) : Ty := tTup K [tInt k.1, tInt k.2.1, tInt k.2.2]
theorem rests_len (n : Nat) (lot : List Int) : (rests n lot).length = lot.length + 2 := by unfold rests; simp
section
variable {c : Cst} {sc : Scope} {G : Gm} {e1 e2 e3 : Expr}
theorem xn_sides {n : Nat} {lot : List Int} (ok : Lot n lot) {p p' q pos : Pos} (hm : c.b.mg "list" = none) (hm' : c.b.mg "zip" = none) (h1 : XE c sc G e1 (tLo c.b.K (rests n lot))) (h2 : XE c sc G e2 (tLo c.b.K lot)) (h3 : XE c sc G e3 (tTup c.b.K (((rests n lot).map tInt).drop 2)))
    (hg : sc.names.lookup ("list" : Str) = some .globalImplicit := by rfl) (hg' : sc.names.lookup ("zip" : Str) = some .globalImplicit := by rfl)
    (k1 : ∀ env, starEach [e1, e2, e3] env = (false, eval e1 env) :: starEach [e2, e3] env := by intro _; rfl) (k2 : ∀ env, starEach [e2, e3] env = (false, eval e2 env) :: starEach [e3] env := by intro _; rfl) (k3 : ∀ env, starEach [e3] env = (false, eval e3 env) :: starEach [] env := by intro _; rfl) (hpl : ∀ env, (backTo q (starEach [e2, e3] env)).any (·.1) = false := by intro _; rfl)
    (na : ∀ env, starEach [.Call (.Name "zip" p') [e1, e2, e3] [] q] env = (false, eval (.Call (.Name "zip" p') [e1, e2, e3] [] q) env) :: starEach [] env := by intro _; rfl) :
    XN c sc G (.Call (.Name "list" p) [.Call (.Name "zip" p') [e1, e2, e3] [] q] [] pos) (lot.map fun p => tK c.b.K (kOn n lot p)) := by
  have := xn_lz3T (pos := pos) (p := p) (p' := p') (q := q) (Rs := lot.map fun p => [tInt (lft lot p), tInt p, tInt (rgt n lot p)]) hm hm' tp_tup tp_tup tp_tup h1 h2 h3 (by rw [List.length_map, List.length_map, List.length_map, List.length_drop, List.length_map, rests_len]; omega) (fun j R hj => ?_) hg hg' k1 k2 k3 hpl na
  · rw [List.map_map] at this
    exact this
  · rw [List.getElem?_map] at hj
    cases hp : lot[j]? with
    | none => rw [hp] at hj; cases hj
    | some p =>
      rw [hp] at hj
      have hj : [tInt (lft lot p), tInt p, tInt (rgt n lot p)] = R := Option.some.inj hj
      obtain ⟨r1, r2⟩ := rests_at ok hp
      refine ⟨_, _, _, by rw [List.getElem?_map, r1]; rfl, by rw [List.getElem?_map, hp]; rfl, ?_, hj.symm⟩
      rw [List.getElem?_drop, Nat.add_comm 2 j, List.getElem?_map, r2]; rfl
end
def Pk.over (l : Ld) (lot : List Int) (p : Int) : Bool := decide (l.P.str p < l.load (kOn l.P.n lot p))
/-- caches told to all -/
def Chs (K : PySem.W.Frag) (W : Wd) (l : Ld) : Prop := knCh K l ∈ W ∧ ovCh K l ∈ W
def spBetween (K : PySem.W.Frag) (C D : Addr) : FS := fun W Ts T => ∃ (l : Ld) (lot : List Int), Ts = [tLd K C D l, tInt (-1), tLo K lot, tInt (l.P.n : Int)] ∧ Lot l.P.n lot ∧ lot.length ≤ 1000 ∧ l.Ok ∧ Chs K W l ∧ T = tLst ((lot.filter (Pk.over l lot)).map tInt)
abbrev FBetween (b : Bs) (C D : Addr) : Prop := FnAt b "overlaid_between" 4 (spOf 4 (spBetween b.K C D)) 8
theorem xf_between {b : Bs} {C D : Addr} (B : Bt b) (hO : FOverlaid b C D) : XF b ["loads", "left", "lot", "right", "rests", "beside", "before", "prop", "behind"] 7 (scOf 38) 4 (bodyOf 38) (spBetween b.K C D) := by
  rintro W Ts T ⟨l, lot, rfl, ok, hl, lok, ch, rfl⟩ - Hi0 H0
  refine xb_asg 4 ((xe_bin (xe_bin (xe_tp (xa_cons (xv 1 rfl rfl rfl) xa_nil)) (xv 2 rfl rfl rfl) (ok_catT (by simp) (by simp; omega))) (xe_tp (xa_cons (xv 3 rfl rfl rfl) xa_nil)) (ok_catT (by simp) (by simp; omega))).eq (tLo_rests b.K l.P.n lot)) ?_
  refine xb_asg 5 (xn_sides (c := ⟨b, _, 7, W, true⟩) ok B.list B.zip (xv 4 rfl rfl rfl) (xv 2 rfl rfl rfl) (xe_dropT (n := 2) tp_tup (xv 4 rfl rfl rfl) xe_int rfl (by decide) (by rw [List.length_map, rests_len]; omega))).xe ?_
  exact xb_retE (XE.eq (xe_lcH (F := tInt) (g := fun p : Int => p) (xc (xs := lot) (F := fun p => tK b.K (kOn l.P.n lot p)) [("before", 6), ("prop", 7), ("behind", 8)] [6, 7, 8] (fun p => [tInt (lft lot p), tInt p, tInt (rgt l.P.n lot p)]) (Pk.over l lot) (fun p => tInt p)
    (xl_list ls_lst (xv 5 rfl rfl rfl)) (fun p hp => xg_tup (xgs_cons (xg_name 6) (xgs_cons (xg_name 7) (xgs_cons (xg_name 8) xgs_nil))) tp_tup) (fun p hp => xts_one (xt_val (xe_meth hO ikOver (xv 0 rfl rfl rfl) (xa_cons (xv 6 rfl rfl rfl) (xa_cons (xv 7 rfl rfl rfl) (xa_cons (xv 8 rfl rfl rfl) xa_nil))) ⟨l, kOn l.P.n lot p, rfl, ok.tri hp, lok, ch.1, ch.2, rfl⟩)))
    (fun p hp _ => xv 7 rfl rfl rfl) (by omega))) (by rw [List.map_id']))
def spWithout (K : PySem.W.Frag) : FS := fun _ Ts T => ∃ (lot : List Int) (p : Int), Ts = [tLo K lot, tInt p] ∧ lot.length ≤ 1000 ∧ T = tLo K (lot.filter fun q => !decide (q = p))
abbrev FWithout (b : Bs) : Prop := FnAt b "without" 2 (spOf 2 (spWithout b.K)) 1
theorem xf_without {b : Bs} (B : Bt b) : XF b ["lot", "prop", "one"] 0 (scOf 39) 2 (bodyOf 39) (spWithout b.K) := by
  rintro W Ts T ⟨lot, p, rfl, hl, rfl⟩ - Hi0 H0
  exact xb_retE (XE.eq (xe_bty B.tuple (xa_cons (xe_lcH (F := tInt) (g := fun p : Int => p) (xc (xs := lot) (F := tInt) [("one", 2)] [2] (fun q => [tInt q]) (fun q => !decide (q = p)) (fun q => tInt q) (xl_tup tp_tup (xv 0 rfl rfl rfl)) (fun q hq => xg_name 2) (fun q hq => xts_one (xt_cmp (xv 2 rfl rfl rfl) (xv 1 rfl rfl rfl) cm_ne)) (fun q hq _ => xv 2 rfl rfl rfl) (by omega))) xa_nil) (cb_tuple sq_lst)) (by rw [List.map_id']))
def spOvl (K : PySem.W.Frag) (C D : Addr) : FS := fun W Ts T => ∃ (l : Ld) (lot : List Int), Ts = [tLd K C D l, tLo K lot] ∧ Lot l.P.n lot ∧ lot.length ≤ 1000 ∧ l.Ok ∧ Chs K W l ∧ T = tLst ((lot.filter (Pk.over l lot)).map tInt)
abbrev FOvl (b : Bs) (C D : Addr) : Prop := FnAt b "overlaid" 2 (spOf 2 (spOvl b.K C D)) 9
theorem xf_ovl {b : Bs} {C D : Addr} (B : Bt b) (Lf : LdC b D) (hB : FBetween b C D) (hC : FCount b C) : XF b ["loads", "lot"] 8 (scOf 40) 2 (bodyOf 40) (spOvl b.K C D) := by
  rintro W Ts T ⟨l, lot, rfl, ok, hl, lok, ch, rfl⟩ - Hi0 H0
  exact xb_retE (xe_call hB (xa_cons (xv 0 rfl rfl rfl) (xa_cons (xe_gi B.left) (xa_cons (xv 1 rfl rfl rfl) (xa_cons (xe_meth0 hC ikCount (xe_attr (flPlank Lf) (xv 0 rfl rfl rfl)) ⟨l.P, rfl, rfl⟩) xa_nil)))) ⟨l, lot, rfl, ok, hl, lok, ch, rfl⟩)
def spSides (K : PySem.W.Frag) (C : Addr) : FS := fun _ Ts T => ∃ (P : Pk) (lot : List Int), Ts = [tPk K C P, tLo K lot] ∧ Lot P.n lot ∧ lot.length ≤ 1000 ∧ T = tLst (lot.map fun p => tK K (kOn P.n lot p))
abbrev FSides (b : Bs) (C : Addr) : Prop := FnAt b "with_sides" 2 (spOf 2 (spSides b.K C)) 3
theorem xf_sides {b : Bs} {C : Addr} (B : Bt b) (hR : FRests b C) : XF b ["plank", "lot", "rests"] 2 (scOf 42) 2 (bodyOf 42) (spSides b.K C) := by
  rintro W Ts T ⟨P, lot, rfl, ok, hl, rfl⟩ - Hi0 H0
  refine xb_asg 2 (xe_call hR (xa_cons (xv 0 rfl rfl rfl) (xa_cons (xv 1 rfl rfl rfl) xa_nil)) ⟨P, lot, rfl, hl, rfl⟩) ?_
  exact xb_retE (xn_sides (c := ⟨b, _, 2, W, true⟩) ok B.list B.zip (xv 2 rfl rfl rfl) (xv 1 rfl rfl rfl) (xe_dropT (n := 2) tp_tup (xv 2 rfl rfl rfl) xe_int rfl (by decide) (by rw [List.length_map, rests_len]; omega))).xe
end Pf

set_option maxHeartbeats 4000000
namespace Pf
open PySem PySem.Spec PyProof.Rows L2 Lg Ra
/-! ### several loads on one plank -/
structure LsOk (K : PySem.W.Frag) (W : Wd) (P : Pk) (ls : List Ld) : Prop where
  pl : ∀ l ∈ ls, l.P = P
  ok : ∀ l ∈ ls, l.Ok
  ch : ∀ l ∈ ls, Chs K W l
/-- the weak props: not held, overlaid by one of the loads -/
def weakL (ls : List Ld) (R lot : List Int) : List Int := lot.filter fun p => !decide (p ∈ R) && ls.any fun l => Pk.over l lot p
theorem flat2_ints (ls : List Ld) (R lot : List Int) : flat2 ls (fun l => lot.filter (Pk.over l lot)) (fun _ p => !decide (p ∈ R)) (fun _ p => tInt p) ls.length = (ls.flatMap fun l => (lot.filter (Pk.over l lot)).filter fun p => !decide (p ∈ R)).map tInt := by
  unfold flat2
  rw [List.take_length, List.map_flatMap]
theorem rise_filter {l : List Int} {f : Int → Bool} (h : l.Pairwise (· < ·)) : (l.filter f).Pairwise (· < ·) := h.sublist List.filter_sublist
theorem srt_weak {ls : List Ld} {R lot : List Int} (h : lot.Pairwise (· < ·)) : srt (ls.flatMap fun l => (lot.filter (Pk.over l lot)).filter fun p => !decide (p ∈ R)) = weakL ls R lot := by
  refine rise_eq (srt_rise _) (rise_filter h) fun k => ?_
  rw [srt_mem, List.mem_flatMap]
  unfold weakL
  simp only [List.mem_filter, Bool.and_eq_true, List.any_eq_true, Bool.not_eq_true', decide_eq_false_iff_not]
  constructor
  · rintro ⟨l, hl, ⟨h1, h2⟩, h3⟩
    exact ⟨h1, h3, l, hl, h2⟩
  · rintro ⟨h1, h3, l, hl, h2⟩
    exact ⟨l, hl, ⟨h1, h2⟩, h3⟩
theorem flat_len {α β : Type} {xs : List α} {f : α → List β} {M : Nat} (h : ∀ x ∈ xs, (f x).length ≤ M) : (xs.flatMap f).length ≤ xs.length * M := by
  induction xs with
  | nil => simp
  | cons x xs ih =>
    rw [List.flatMap_cons, List.length_append, List.length_cons, Nat.succ_mul]
    have h1 := h x List.mem_cons_self
    have h2 := ih fun y hy => h y (List.mem_cons_of_mem _ hy)
    omega
abbrev tLs (K : PySem.W.Frag) (C D : Addr) (ls : List Ld) : Ty := tLst (ls.map (tLd K C D))
def spWeak (K : PySem.W.Frag) (C D : Addr) : FS := fun W Ts T => ∃ (P : Pk) (ls : List Ld) (R lot : List Int), Ts = [tLs K C D ls, tLo K R, tLo K lot] ∧ Lot P.n lot ∧ LsOk K W P ls ∧ ls.length * lot.length < 64 ∧ lot.length ≤ 63 ∧ T = tLst ((weakL ls R lot).map tInt)
abbrev FWeak (b : Bs) (C D : Addr) : Prop := FnAt b "weak_ones" 3 (spOf 3 (spWeak b.K C D)) 10
theorem xf_weak {b : Bs} {C D : Addr} (B : Bt b) (hO : FOvl b C D) : XF b ["some", "strong", "lot", "found", "loads", "prop"] 9 (scOf 45) 3 (bodyOf 45) (spWeak b.K C D) := by
  rintro W Ts T ⟨P, ls, R, lot, rfl, ok, lk, hl, hl2, rfl⟩ - Hi0 H0
  refine xb_lc2 3 (xs := ls) (ys := fun l => lot.filter (Pk.over l lot)) (p := fun _ p => !decide (p ∈ R)) (R := fun _ p => tInt p) ⟨rfl, blkOk_by (own := [("loads", 4), ("prop", 5)]) (by kernel_rfl), tLd b.K C D, fun _ p => tInt p, [4], [5], fun l => [tLd b.K C D l], fun _ p => [tInt p], lot.length, xl_list ls_lst (xv 0 rfl rfl rfl), by decide, (by decide : ∀ j ∈ [5], j ∈ [5]), by decide, fun l hm => List.length_filter_le _ _, by omega,
    fun l hm => xg_name 4, fun l hm => xl_list ls_lst (xe_call hO (xa_cons (xv 4 rfl rfl rfl) (xa_cons (xv 2 rfl rfl rfl) xa_nil)) ⟨l, lot, rfl, (lk.pl l hm).symm ▸ ok, by omega, lk.ok l hm, lk.ch l hm, rfl⟩), fun l hm p hp => xg_name 5, fun l hm p hp => xts_one (xt_cmp (xv 5 rfl rfl rfl) (xv 1 rfl rfl rfl) (cm_notIn sq_tup)), fun l hm p hp _ => xv 5 rfl rfl rfl⟩ ?_
  rw [flat2_ints, ← srt_weak ok.rise]
  refine xb_retE (xn_ssl B.sorted B.set ls_lst (xv 3 rfl rfl rfl) ?_).xe
  refine Nat.lt_of_le_of_lt (flat_len (M := lot.length) fun l hm => ?_) hl
  exact Nat.le_trans (List.length_filter_le _ _) (List.length_filter_le _ _)
/-! ### what is settled -/
def settleF (w : List Int → List Int) : Nat → List Int → List Int × List Int
  | 0, lot => ([], lot)
  | n + 1, lot => match w lot with
    | [] => ([], lot)
    | x :: _ => (x :: (settleF w n (lot.filter fun q => !decide (q = x))).1, (settleF w n (lot.filter fun q => !decide (q = x))).2)
def settle (w : List Int → List Int) (lot : List Int) : List Int × List Int := settleF w lot.length lot
theorem filter_ne_len {x : Int} : ∀ {lot : List Int}, lot.Nodup → x ∈ lot → (lot.filter fun q => !decide (q = x)).length + 1 = lot.length
  | y :: lot, nd, h => by
    obtain ⟨n1, n2⟩ := List.nodup_cons.mp nd
    by_cases e : y = x
    · subst e
      have : (lot.filter fun q => !decide (q = y)) = lot := List.filter_eq_self.mpr fun q hq => by
        have : ¬ q = y := fun z => n1 (z ▸ hq)
        simp [this]
      simp [this]
    · have hx : x ∈ lot := by
        rcases List.mem_cons.mp h with z | z
        · exact (e z.symm).elim
        · exact z
      have := filter_ne_len n2 hx
      simp [e]
      omega
  | [], _, h => nomatch h
theorem rise_nodup {l : List Int} (h : l.Pairwise (· < ·)) : l.Nodup := h.imp fun h => by omega
theorem Lot.filter {n : Nat} {lot : List Int} (h : Lot n lot) (f : Int → Bool) : Lot n (lot.filter f) := ⟨rise_filter h.rise, fun p hp => h.at_ p (List.mem_filter.mp hp).1⟩
theorem settle_stop {w : List Int → List Int} {lot : List Int} (h : w lot = []) : settle w lot = ([], lot) := by
  unfold settle
  cases lot.length with
  | zero => rfl
  | succ n => unfold settleF; rw [h]
theorem settle_step {w : List Int → List Int} {lot : List Int} {x : Int} {r : List Int} (nd : lot.Nodup) (hx : x ∈ lot) (h : w lot = x :: r) : settle w lot = (x :: (settle w (lot.filter fun q => !decide (q = x))).1, (settle w (lot.filter fun q => !decide (q = x))).2) := by
  have e := filter_ne_len nd hx
  unfold settle
  rw [← e]
  conv => lhs; unfold settleF
  rw [h]
theorem eqv_nil (ds : List PyData) : PyData.eqv (.list ds) (.list []) = ds.isEmpty := by
  cases ds <;> simp [PyData.eqv, PyData.eqvAll]
theorem dat_ints {K : PySem.W.Frag} {is : List Int} : DatK K (tLst (is.map tInt)) (.list (is.map PyData.int)) := dat_lst (datAll_map (fun _ => dat_int) is)
theorem dat_intsT {K : PySem.W.Frag} {is : List Int} : DatK K (tLo K is) (.tuple (is.map PyData.int)) := dat_tup (datAll_map (fun _ => dat_int) is)
/-- data of no great depth -/
def Sh (k : Nat) (d : PyData) : Prop := d.canLay0 = true ∧ d.depth ≤ k
theorem sh_int {k : Nat} {i : Int} : Sh k (.int i) := ⟨by simp [PyData.canLay0], by simp [PyData.depth]⟩
theorem sh_all {k : Nat} : ∀ {ds : List PyData}, (∀ d ∈ ds, Sh k d) → PyData.canLayAll0 ds = true ∧ PyData.depthAll ds ≤ k
  | [], _ => ⟨by simp [PyData.canLayAll0], by simp [PyData.depthAll]⟩
  | d :: ds, h => by
    obtain ⟨h1, h2⟩ := sh_all fun x hx => h x (List.mem_cons_of_mem _ hx)
    obtain ⟨h3, h4⟩ := h d List.mem_cons_self
    exact ⟨by simp [PyData.canLayAll0, h1, h3], by simp [PyData.depthAll]; omega⟩
theorem sh_list {k : Nat} {ds : List PyData} (h : ∀ d ∈ ds, Sh k d) : Sh (k + 1) (.list ds) := by
  obtain ⟨h1, h2⟩ := sh_all h
  exact ⟨by simp [PyData.canLay0, h1], by simp [PyData.depth]; omega⟩
theorem sh_tuple {k : Nat} {ds : List PyData} (h : ∀ d ∈ ds, Sh k d) : Sh (k + 1) (.tuple ds) := by
  obtain ⟨h1, h2⟩ := sh_all h
  exact ⟨by simp [PyData.canLay0, h1], by simp [PyData.depth]; omega⟩
theorem Sh.shaped {k : Nat} {d : PyData} (h : Sh k d) (hk : k ≤ 64) : SeqAt.shaped d = true := by
  unfold SeqAt.shaped
  rw [h.1]
  simp
  have := h.2
  omega
theorem sh_ints (is : List Int) : ∀ d ∈ is.map PyData.int, Sh 0 d := fun d hd => by
  obtain ⟨i, _, rfl⟩ := List.mem_map.mp hd
  exact sh_int
theorem shaped_ints (is : List Int) : SeqAt.shaped (.list (is.map PyData.int)) = true := (sh_list (sh_ints is)).shaped (by decide)
theorem shaped_intsT (is : List Int) : SeqAt.shaped (.tuple (is.map PyData.int)) = true := (sh_tuple (sh_ints is)).shaped (by decide)
def spSettle (K : PySem.W.Frag) (C D : Addr) : FS := fun W Ts T => ∃ (P : Pk) (ls : List Ld) (R lot : List Int), Ts = [tLs K C D ls, tLo K R, tLo K lot] ∧ Lot P.n lot ∧ LsOk K W P ls ∧ ls.length * lot.length < 64 ∧ lot.length ≤ 63 ∧ T = tTup K [tLst ((settle (weakL ls R) lot).1.map tInt), tLo K (settle (weakL ls R) lot).2]
abbrev FSettle (b : Bs) (C D : Addr) : Prop := FnAt b "settled_but" 3 (spOf 3 (spSettle b.K C D)) 11
theorem xf_settle {b : Bs} {C D : Addr} (B : Bt b) (hW : FWeak b C D) (hO : FWithout b) : XF b ["some", "strong", "lot", "row", "weak"] 10 (scOf 46) 3 (bodyOf 46) (spSettle b.K C D) := by
  rintro W Ts T ⟨P, ls, R, lot, rfl, ok, lk, hl, hl2, rfl⟩ - Hi0 H0
  refine xb_own 3 (xn_lst xa_nil) fun p => ?_
  refine xb_asg 4 (xe_call hW (xa_cons (xv 0 rfl rfl rfl) (xa_cons (xv 1 rfl rfl rfl) (xa_cons (xv 2 rfl rfl rfl) xa_nil))) ⟨P, ls, R, lot, rfl, ok, lk, hl, hl2, rfl⟩) ?_
  refine xb_while (α := { s : List Int × List Int // Lot P.n s.2 ∧ s.2.length ≤ lot.length ∧ settle (weakL ls R) lot = (s.1 ++ (settle (weakL ls R) s.2).1, (settle (weakL ls R) s.2).2) ∧ s.1.length + s.2.length = lot.length })
    (fun s => [some (tLs b.K C D ls), some (tLo b.K R), some (tLo b.K s.1.2), some (tRef p), some (tLst ((weakL ls R s.1.2).map tInt))]) (fun s => [oLst p (s.1.1.map tInt)]) (fun s => s.1.2.length) (fun s => !(weakL ls R s.1.2).isEmpty) ⟨([], lot), ok, Nat.le_refl _, rfl, by simp⟩ (GLe.refl _) rfl
    (fun s => XT.eq (xt_cmp (xv 4 rfl rfl rfl) (xe_lstD xa_nil) (cm_neD dat_ints (dat_lst (ds := []) trivial) (shaped_ints _) (by rfl))) (by rw [eqv_nil]; cases weakL ls R s.1.2 <;> rfl)) (fun s h => ?_) (fun s h => ?_)
  · obtain ⟨⟨row, lt⟩, ok', le', st, hsum⟩ := s
    have le' : lt.length ≤ lot.length := le'
    have hsum : row.length + lt.length = lot.length := hsum
    have ok' : Lot P.n lt := ok'
    have hl' : ls.length * lt.length < 64 := Nat.lt_of_le_of_lt (Nat.mul_le_mul_left _ le') hl
    cases hw : weakL ls R lt with
    | nil => simp [hw] at h
    | cons x r =>
      have hx : x ∈ lt := by
        have : x ∈ weakL ls R lt := by rw [hw]; exact List.mem_cons_self
        exact (List.mem_filter.mp this).1
      have nd := rise_nodup ok'.rise
      have e1 := filter_ne_len nd hx
      have e2 := settle_step nd hx hw
      have hw2 : (weakL ls R lt).map tInt = tInt x :: r.map tInt := by rw [hw]; rfl
      have le2 : row.length < 100000 := by
        have : row.length + lt.length = lot.length := hsum
        omega
      have he : ((weakL ls R lt).map tInt)[0]? = some (tInt x) := by rw [hw2]; rfl
      refine xb_app 0 (xv 3 rfl rfl rfl) (xe_ix (xv 4 rfl rfl rfl) xe_int (ix_at (n := 0) sq_lst rfl rfl)) rfl (by rw [List.length_map]; exact le2) ?_
      refine xb_asg 2 (xe_call hO (xa_cons (xv 2 rfl rfl rfl) (xa_cons (xe_ix (xv 4 rfl rfl rfl) xe_int (ix_at (n := 0) sq_lst rfl rfl)) xa_nil)) ⟨lt, x, rfl, by omega, rfl⟩) ?_
      refine xb_asg 4 (xe_call hW (xa_cons (xv 0 rfl rfl rfl) (xa_cons (xv 1 rfl rfl rfl) (xa_cons (xv 2 rfl rfl rfl) xa_nil))) ⟨P, ls, R, _, rfl, ok'.filter _, lk, Nat.lt_of_le_of_lt (Nat.mul_le_mul_left _ (List.length_filter_le _ _)) hl', by omega, rfl⟩) ?_
      refine xb_nil fun σ H s => ⟨⟨(row ++ [x], lt.filter fun q => !decide (q = x)), ok'.filter _, Nat.le_trans (List.length_filter_le _ _) le', by rw [st, e2]; simp, by show (row ++ [x]).length + (lt.filter fun q => !decide (q = x)).length = lot.length; rw [List.length_append, List.length_singleton]; omega⟩, by show (lt.filter fun q => !decide (q = x)).length < lt.length; omega, ?_⟩
      show SS W Hi0 H0 _ [oLst p ((row ++ [x]).map tInt)] σ H
      rw [List.map_append]
      exact s
  · obtain ⟨⟨row, lt⟩, ok', le', st, hsum⟩ := s
    have hw : weakL ls R lt = [] := by
      cases hw : weakL ls R lt with
      | nil => rfl
      | cons x r => simp [hw] at h
    have e : settle (weakL ls R) lot = (row, lt) := by rw [st, settle_stop hw]; simp
    refine xb_seal 3 rfl seal_lst ?_
    exact xb_retE (XE.eq (xe_tp (xa_cons (xv 3 rfl rfl rfl) (xa_cons (xv 2 rfl rfl rfl) xa_nil))) (congrArg (fun s : List Int × List Int => tTup b.K [tLst (s.1.map tInt), tLo b.K s.2]) e).symm)
def spLoadIn (K : PySem.W.Frag) (C D : Addr) : FS := fun W Ts T => ∃ (l : Ld) (lot : List Int) (p : Int), Ts = [tLd K C D l, tLo K lot, tInt p] ∧ Lot l.P.n lot ∧ lot.length ≤ 63 ∧ l.Ok ∧ Chs K W l ∧ p ∈ lot ∧ T = tFr K (l.load (kOn l.P.n lot p))
abbrev FLoadIn (b : Bs) (C D : Addr) : Prop := FnAt b "load_in" 3 (spOf 3 (spLoadIn b.K C D)) 7
theorem filter_one {p : Int} : ∀ {lot : List Int}, lot.Nodup → p ∈ lot → lot.filter (fun q => decide (q = p)) = [p]
  | q :: lot, nd, h => by
    obtain ⟨n1, n2⟩ := List.nodup_cons.mp nd
    by_cases e : q = p
    · subst e
      have : lot.filter (fun r => decide (r = q)) = [] := List.filter_eq_nil_iff.mpr fun r hr => by
        have : ¬ r = q := fun z => n1 (z ▸ hr)
        simp [this]
      simp [this]
    · have hx : p ∈ lot := by
        rcases List.mem_cons.mp h with z | z
        · exact (e z.symm).elim
        · exact z
      simp [e, filter_one n2 hx]
  | [], _, h => nomatch h
theorem xf_loadIn {b : Bs} {C D : Addr} (Lf : LdC b D) (hS : FSides b C) (hL : FLies b C D) : XF b ["loads", "lot", "prop", "left", "one", "right"] 6 (scOf 47) 3 (bodyOf 47) (spLoadIn b.K C D) := by
  rintro W Ts T ⟨l, lot, p, rfl, ok, hl, lok, ch, hp, rfl⟩ - Hi0 H0
  refine xb_retE (xe_ix (xe_lcH (p := fun q : Int => decide (q = p)) (F := tFr b.K) (g := fun q : Int => l.load (kOn l.P.n lot q)) (xc (xs := lot) (F := fun q => tK b.K (kOn l.P.n lot q)) [("left", 3), ("one", 4), ("right", 5)] [3, 4, 5] (fun q => [tInt (lft lot q), tInt q, tInt (rgt l.P.n lot q)]) (fun q => decide (q = p)) (fun q => tFr b.K (l.load (kOn l.P.n lot q)))
    (xl_list ls_lst (xe_call hS (xa_cons (xe_attr (flPlank Lf) (xv 0 rfl rfl rfl)) (xa_cons (xv 1 rfl rfl rfl) xa_nil)) ⟨l.P, lot, rfl, ok, by omega, rfl⟩)) (fun q hq => xg_tup (xgs_cons (xg_name 3) (xgs_cons (xg_name 4) (xgs_cons (xg_name 5) xgs_nil))) tp_tup) (fun q hq => xts_one (xt_cmp (xv 4 rfl rfl rfl) (xv 2 rfl rfl rfl) cm_eq))
    (fun q hq _ => xe_meth hL ikLies (xv 0 rfl rfl rfl) (xa_cons (xv 3 rfl rfl rfl) (xa_cons (xv 4 rfl rfl rfl) (xa_cons (xv 5 rfl rfl rfl) xa_nil))) ⟨l, kOn l.P.n lot q, rfl, ok.tri hq, lok, ch.1, rfl⟩) (by omega))) xe_int (ix_at (n := 0) sq_lst rfl ?_))
  rw [filter_one (rise_nodup ok.rise) hp]
  rfl
def spCheck (K : PySem.W.Frag) (C : Addr) : FS := fun _ Ts T => ∃ (P : Pk) (lot : List Int), Ts = [tPk K C P, tLo K lot] ∧ Lot P.n lot ∧ lot ≠ [] ∧ lot.length ≤ 63 ∧ T = tNon
abbrev FCheck (b : Bs) (C : Addr) : Prop := FnAt b "check_some" 2 (spOf 2 (spCheck b.K C)) 3
theorem xf_check {b : Bs} {C : Addr} (hI : FIsLot b C) : XF b ["plank", "lot"] 2 (scOf 48) 2 (bodyOf 48) (spCheck b.K C) := by
  rintro W Ts T ⟨P, lot, rfl, ok, ne, hl, rfl⟩ - Hi0 H0
  refine xb_guard (xt_w (xw_or (xt_not (xt_val (xe_call hI (xa_cons (xv 0 rfl rfl rfl) (xa_cons (xv 1 rfl rfl rfl) xa_nil)) ⟨P, lot, rfl, ok, ne, by omega, rfl⟩))) fun h => (xw_or1 (xt_cmp (xv 1 rfl rfl rfl) (xe_tp xa_nil) (cm_eqD dat_intsT (dat_tup (ds := []) trivial) (shaped_intsT _) (by rfl)))))) ?_ ?_
  · cases lot with
    | nil => exact (ne rfl).elim
    | cons x r => simp [PyData.eqv, PyData.eqvAll]
  · exact xb_nil fun σ H ⟨Hi, g, _, _⟩ => ⟨Hi, g, rfl⟩
end Pf

set_option maxHeartbeats 4000000
namespace Lg
open PySem PySem.Spec PyProof.Rows L2
theorem sw_none {ts vs : List Expr} {kt k2 : Nat} {pt pt2 : Pos} (h : vs.all (foldedForSure 8) = true) : ∀ env : Env, swappedStores [.Tuple ts kt pt] (.Tuple vs k2 pt2) env = pure none := by
  intro env
  unfold swappedStores
  simp only [h, if_true]
  repeat' (first | rfl | split)
end Lg
namespace Pf
open PySem PySem.Spec PyProof.Rows L2 Lg Ra
/-! ### the greatest load, the first of them -/
def stp (a : Option (Rat × Nat)) (x : Rat × Nat) : Option (Rat × Nat) := match a with
  | none => some x
  | some b => if b.1 < x.1 then some x else some b
def bsO (xs : List (Rat × Nat)) : Option (Rat × Nat) := xs.foldl stp none
def bst (vs : List Rat) : Rat × Nat := (bsO vs.zipIdx).getD (0, 0)
theorem bsO_snoc (xs : List (Rat × Nat)) (x : Rat × Nat) : bsO (xs ++ [x]) = stp (bsO xs) x := by unfold bsO; rw [List.foldl_append]; rfl
theorem stp_some (a : Option (Rat × Nat)) (x : Rat × Nat) : ∃ b, stp a x = some b := by
  unfold stp
  cases a with
  | none => exact ⟨x, rfl⟩
  | some b =>
    by_cases h : b.1 < x.1
    · exact ⟨x, by simp [h]⟩
    · exact ⟨b, by simp [h]⟩
theorem bsO_some {xs : List (Rat × Nat)} (h : xs ≠ []) : ∃ b, bsO xs = some b := by
  obtain ⟨ys, y, rfl⟩ : ∃ ys y, xs = ys ++ [y] := ⟨xs.dropLast, xs.getLast h, (List.dropLast_concat_getLast h).symm⟩
  rw [bsO_snoc]
  exact stp_some _ _
theorem bst_is {vs : List Rat} (h : vs ≠ []) : bsO vs.zipIdx = some (bst vs) := by
  obtain ⟨b, hb⟩ := bsO_some (xs := vs.zipIdx) (by intro z; exact h (by simpa using z))
  unfold bst
  rw [hb]; rfl
def tB1 (K : PySem.W.Frag) : Option (Rat × Nat) → Ty
  | none => tNon
  | some b => tFr K b.1
def tB2 : Option (Rat × Nat) → Ty
  | none => tNon
  | some b => tInt (b.2 : Nat)
/-- an answer: a prop, its least strength, the loading that asks for it -/
abbrev Ans := Int × Rat × Nat
abbrev tAns (K : PySem.W.Frag) (a : Ans) : Ty := tTup K [tInt a.1, tFr K a.2.1, tInt (a.2.2 : Nat)]
theorem settleF_sub {w : List Int → List Int} : ∀ (n : Nat) (lot : List Int), ∀ p ∈ (settleF w n lot).2, p ∈ lot
  | 0, lot, p, h => h
  | n + 1, lot, p, h => by
    unfold settleF at h
    cases hw : w lot with
    | nil => rw [hw] at h; exact h
    | cons x r =>
      rw [hw] at h
      exact (List.mem_filter.mp (settleF_sub n _ p h)).1
theorem settleF_keep {ls : List Ld} {R : List Int} : ∀ (n : Nat) (lot : List Int), ∀ p ∈ R, p ∈ lot → p ∈ (settleF (weakL ls R) n lot).2
  | 0, lot, p, _, h => h
  | n + 1, lot, p, hR, h => by
    unfold settleF
    cases hw : weakL ls R lot with
    | nil => exact h
    | cons x r =>
      refine settleF_keep n _ p hR (List.mem_filter.mpr ⟨h, ?_⟩)
      have hx : x ∈ weakL ls R lot := by rw [hw]; exact List.mem_cons_self
      have := (List.mem_filter.mp hx).2
      simp only [Bool.and_eq_true, Bool.not_eq_true', decide_eq_false_iff_not] at this
      have ne : ¬ p = x := fun z => this.1 (z ▸ hR)
      simp [ne]
theorem settleF_lot {w : List Int → List Int} {m : Nat} : ∀ (n : Nat) (lot : List Int), Lot m lot → Lot m (settleF w n lot).2
  | 0, lot, h => h
  | n + 1, lot, h => by
    unfold settleF
    cases hw : w lot with
    | nil => exact h
    | cons x r => exact settleF_lot n _ (h.filter _)
theorem lot_rg (n : Nat) : Lot n (rgI n) := by
  constructor
  · unfold rgI
    rw [List.pairwise_map]
    exact List.pairwise_lt_range.imp fun h => by omega
  · intro p hp
    obtain ⟨i, hi, rfl⟩ := List.mem_map.mp hp
    have := List.mem_range.mp hi
    omega
theorem mem_rg {n : Nat} {p : Int} : p ∈ rgI n ↔ 0 ≤ p ∧ p < n := by
  constructor
  · exact fun h => (lot_rg n).at_ p h
  · rintro ⟨h1, h2⟩
    exact List.mem_map.mpr ⟨p.toNat, List.mem_range.mpr (by omega), by omega⟩
/-- what stands when R is held, under the loads together -/
def keptL (n : Nat) (ls : List Ld) (R : List Int) : List Int × List Int := settle (weakL ls R) (rgI n)
theorem kept_lot (n : Nat) (ls : List Ld) (R : List Int) : Lot n (keptL n ls R).2 := settleF_lot _ _ (lot_rg n)
theorem kept_keep {n : Nat} {ls : List Ld} {R : List Int} (h : Lot n R) {p : Int} (hp : p ∈ R) : p ∈ (keptL n ls R).2 := settleF_keep _ _ p hp (mem_rg.mpr (h.at_ p hp))
theorem lot_len {n : Nat} {lot : List Int} (h : Lot n lot) : lot.length ≤ n := by
  have := nodup_len (xs := lot) (ys := rgI n) (rise_nodup h.rise) fun p hp => mem_rg.mpr (h.at_ p hp)
  rw [rgI_len] at this
  exact this
def vals (n : Nat) (ls : List Ld) (kept : List Int) (p : Int) : List Rat := ls.map fun l => l.load (kOn n kept p)
def ansL (n : Nat) (ls : List Ld) (kept : List Int) (p : Int) : Ans := (p, bst (vals n ls kept p))
def spCorner (K : PySem.W.Frag) (C D : Addr) : FS := fun W Ts T => ∃ (P : Pk) (ls : List Ld) (R : List Int), Ts = [tLs K C D ls, tLo K R] ∧ Lot P.n R ∧ ls ≠ [] ∧ LsOk K W P ls ∧ ls.length * P.n < 64 ∧ P.n ≤ 63 ∧
  T = tTup K [tLst ((R.map (ansL P.n ls (keptL P.n ls R).2)).map (tAns K)), tLo K (keptL P.n ls R).2, tLst ((keptL P.n ls R).1.map tInt)]
abbrev FCorner (b : Bs) (C D : Addr) : Prop := FnAt b "corner_of" 2 (spOf 2 (spCorner b.K C D)) 12
theorem zipIdx_map {α β : Type} (f : α → β) (xs : List α) : (xs.map f).zipIdx = xs.zipIdx.map fun p => (f p.1, p.2) := by
  rw [List.zipIdx_map]; rfl
theorem tNon_is {v : V} {H : Hp} (h : tNon.p v H) : decide (v = V.non) = true := by
  cases (show v = .non from h); rfl
theorem tFr_not {K : PySem.W.Frag} {q : Rat} {v : V} {H : Hp} (h : (tFr K q).p v H) : decide (v = V.non) = false := by
  obtain ⟨a, xs, rfl, _⟩ := h; rfl
theorem xf_corner {b : Bs} {C D : Addr} (B : Bt b) (Lf : LdC b D) (hS : FSettle b C D) (hO : FLotOf b C) (hL : FLoadIn b C D) (hB : FBelow b) : XF b ["some", "lot", "numbers", "prop", "row", "kept", "best", "which", "at", "loads", "much"] 11 (scOf 49) 2 (bodyOf 49) (spCorner b.K C D) := by
  rintro W Ts T ⟨P, ls, R, rfl, ok, ne, lk, hl, hl2, rfl⟩ - Hi0 H0
  obtain ⟨l0, lr, els⟩ : ∃ l0 lr, ls = l0 :: lr := by
    cases ls with
    | nil => exact (ne rfl).elim
    | cons a r => exact ⟨a, r, rfl⟩
  have hl0 : (ls.map (tLd b.K C D))[0]? = some (tLd b.K C D l0) := by rw [els]; rfl
  have hp0 : l0.P = P := lk.pl l0 (by rw [els]; exact List.mem_cons_self)
  have kl := kept_lot P.n ls R
  have kn := lot_len kl
  have rn := lot_len ok
  have hn1 : 1 ≤ ls.length := by rw [els]; simp
  refine xb_unp (js := [4, 5]) (Ts := [tLst ((keptL P.n ls R).1.map tInt), tLo b.K (keptL P.n ls R).2]) (xe_call hS (xa_cons (xv 0 rfl rfl rfl) (xa_cons (xv 1 rfl rfl rfl) (xa_cons (xe_call hO (xa_cons (xe_attr (flPlank Lf) (xe_ix (xv 0 rfl rfl rfl) xe_int (ix_at (n := 0) sq_lst rfl hl0))) (xa_cons xe_non xa_nil)) ⟨P, by rw [hp0], by omega, rfl⟩) xa_nil))) ⟨P, ls, R, rgI P.n, rfl, lot_rg _, lk, by rw [rgI_len]; exact hl, by rw [rgI_len]; exact hl2, rfl⟩) (xg_tup (xgs_cons (xg_name 4) (xgs_cons (xg_name 5) xgs_nil)) tp_tup) ?_
  generalize hrow : (keptL P.n ls R).1 = row
  generalize hkp : (keptL P.n ls R).2 = kept at kl kn ⊢
  have hkeep : ∀ p ∈ R, p ∈ kept := fun p hp => hkp ▸ kept_keep ok hp
  refine xb_own 2 (xn_lst xa_nil) fun w => ?_
  refine xb_forL (xs := R) (F := tInt) (js := [3]) (fun p => [tInt p]) (fun i => [some (tLs b.K C D ls), some (tLo b.K R), some (tRef w), none, some (tLst (row.map tInt)), some (tLo b.K kept), none, none, none, none, none]) (fun i => [oLst w (((R.take i).map (ansL P.n ls kept)).map (tAns b.K))]) (xl_tup tp_tup (xv 1 rfl rfl rfl)) ⟨fun _ _ h => h, fun _ _ h => h, fun _ _ h => h, fun _ _ h => h, fun _ _ h => h, trivial⟩ rfl (fun p hp => xg_name 3) (fun i p hip Hi0 H0 => ?_) ?_
  · have hp : p ∈ R := List.mem_of_getElem? hip
    refine xb_unp (js := [6, 7]) (Ts := [tNon, tNon]) (xe_tp (xa_cons xe_non (xa_cons xe_non xa_nil))) (xg_tup (xgs_cons (xg_name 6) (xgs_cons (xg_name 7) xgs_nil)) tp_tup) (hw := sw_none rfl) ?_
    refine xb_forL (xs := ls.zipIdx) (F := fun q => tTup b.K [tInt (q.2 : Nat), tLd b.K C D q.1]) (js := [8, 9]) (fun q => [tInt (q.2 : Nat), tLd b.K C D q.1]) (fun j => [some (tLs b.K C D ls), some (tLo b.K R), some (tRef w), some (tInt p), some (tLst (row.map tInt)), some (tLo b.K kept), some (tB1 b.K (bsO ((vals P.n ls kept p).zipIdx.take j))), some (tB2 (bsO ((vals P.n ls kept p).zipIdx.take j))), none, none, none]) (fun j => [oLst w (((R.take i).map (ansL P.n ls kept)).map (tAns b.K))])
      (xl_enumL B.enumerate ls_lst (xv 0 rfl rfl rfl)) ⟨fun _ _ h => h, fun _ _ h => h, fun _ _ h => h, fun _ _ h => h, fun _ _ h => h, fun _ _ h => h, fun _ _ h => h, fun _ _ h => h, trivial⟩ rfl (fun q hq => xg_tup (xgs_cons (xg_name 8) (xgs_cons (xg_name 9) xgs_nil)) tp_tup) (fun j q hjq Hi0 H0 => ?_) ?_
    · obtain ⟨l, m⟩ := q
      have hl' : l ∈ ls := by
        have := List.mem_of_getElem? hjq
        exact List.fst_mem_of_mem_zipIdx this
      have hv : (vals P.n ls kept p).zipIdx[j]? = some (l.load (kOn P.n kept p), m) := by
        unfold vals
        rw [zipIdx_map, List.getElem?_map, hjq]; rfl
      rw [take_snoc hv, bsO_snoc]
      have hpl := lk.pl l hl'
      refine xb_asg 10 (T1 := tFr b.K (l.load (kOn P.n kept p))) (xe_call hL (xa_cons (xv 9 rfl rfl rfl) (xa_cons (xv 5 rfl rfl rfl) (xa_cons (xv 3 rfl rfl rfl) xa_nil))) ⟨l, kept, p, rfl, by rw [hpl]; exact kl, by omega, lk.ok l hl', lk.ch l hl', hkeep p hp, by rw [hpl]⟩) ?_
      have bd : Bd 400 (l.load (kOn P.n kept p)) := load_bd1 (lk.ok l hl') (by rw [hpl]; exact kl.tri (hkeep p hp))
      have bdA : ∀ b0, bsO ((vals P.n ls kept p).zipIdx.take j) = some b0 → Bd 400 b0.1 := by
        intro b0 hb0
        have : ∀ (xs : List (Rat × Nat)), (∀ x ∈ xs, Bd 400 x.1) → ∀ a : Option (Rat × Nat), (∀ b, a = some b → Bd 400 b.1) → ∀ b, xs.foldl stp a = some b → Bd 400 b.1 := by
          intro xs
          induction xs with
          | nil => intro _ a ha b hb; exact ha b hb
          | cons x xs ih =>
            intro hx a ha b hb
            refine ih (fun y hy => hx y (List.mem_cons_of_mem _ hy)) (stp a x) (fun c hc => ?_) b hb
            unfold stp at hc
            cases a with
            | none =>
              have hc : x = c := Option.some.inj hc
              exact hc ▸ hx x List.mem_cons_self
            | some d =>
              by_cases h : d.1 < x.1
              · simp only [h, if_true] at hc
                exact Option.some.inj hc ▸ hx x List.mem_cons_self
              · simp only [h, if_false] at hc
                exact Option.some.inj hc ▸ ha d rfl
        refine this _ (fun x hx => ?_) none (fun _ h => nomatch h) b0 hb0
        have hx := List.mem_of_mem_take hx
        unfold vals at hx
        rw [zipIdx_map] at hx
        obtain ⟨y, hy, rfl⟩ := List.mem_map.mp hx
        have hy1 : y.1 ∈ ls := List.fst_mem_of_mem_zipIdx hy
        exact load_bd1 (lk.ok _ hy1) (by rw [lk.pl _ hy1]; exact kl.tri (hkeep p hp))
      cases hacc : bsO ((vals P.n ls kept p).zipIdx.take j) with
      | none =>
        refine xb_if (p := true || false) (M := SS W Hi0 H0 [some (tLs b.K C D ls), some (tLo b.K R), some (tRef w), some (tInt p), some (tLst (row.map tInt)), some (tLo b.K kept), some (tFr b.K (l.load (kOn P.n kept p))), some (tInt (m : Nat)), none, none, none] [oLst w (((R.take i).map (ansL P.n ls kept)).map (tAns b.K))]) (xt_w (xw_or (p := true) (q := false) (xt_isN (xv 6 rfl rfl rfl) (fun v H h => tNon_is h)) fun h => nomatch h)) (fun _ => ?_) (fun h => nomatch h) ?_
        · refine xb_par 6 7 (xv 10 rfl rfl rfl) (xv 8 rfl rfl rfl) ?_ rfl rfl (by decide) rfl rfl (by intro _; rfl) (by intro _; rfl) sw2
          exact xb_end ⟨fun _ _ h => h, fun _ _ h => h, fun _ _ h => h, fun _ _ h => h, fun _ _ h => h, fun _ _ h => h, fun _ _ h => h, fun _ _ h => h, trivial⟩
        · exact xb_end ⟨fun _ _ h => h, fun _ _ h => h, fun _ _ h => h, fun _ _ h => h, fun _ _ h => h, fun _ _ h => h, fun _ _ h => h, fun _ _ h => h, trivial⟩
      | some b0 =>
        have hb0 := bdA b0 hacc
        refine xb_if (p := false || decide (b0.1 < l.load (kOn P.n kept p))) (M := SS W Hi0 H0 [some (tLs b.K C D ls), some (tLo b.K R), some (tRef w), some (tInt p), some (tLst (row.map tInt)), some (tLo b.K kept), some (tB1 b.K (stp (some b0) (l.load (kOn P.n kept p), m))), some (tB2 (stp (some b0) (l.load (kOn P.n kept p), m))), none, none, none] [oLst w (((R.take i).map (ansL P.n ls kept)).map (tAns b.K))]) (xt_w (xw_or (p := false) (xt_isN (xv 6 rfl rfl rfl) (fun v H h => tFr_not h)) fun h => xw_or1 (xt_val (xe_call hB (xa_cons (xv 6 rfl rfl rfl) (xa_cons (xv 10 rfl rfl rfl) xa_nil)) ⟨_, _, rfl, sm_of hb0, sm_of bd, rfl⟩)))) (fun h => ?_) (fun h => ?_) ?_
        · have h : b0.1 < l.load (kOn P.n kept p) := by simpa using h
          have e : stp (some b0) (l.load (kOn P.n kept p), m) = some (l.load (kOn P.n kept p), m) := by unfold stp; simp [h]
          rw [e]
          refine xb_par 6 7 (xv 10 rfl rfl rfl) (xv 8 rfl rfl rfl) ?_ rfl rfl (by decide) rfl rfl (by intro _; rfl) (by intro _; rfl) sw2
          exact xb_end ⟨fun _ _ h => h, fun _ _ h => h, fun _ _ h => h, fun _ _ h => h, fun _ _ h => h, fun _ _ h => h, fun _ _ h => h, fun _ _ h => h, trivial⟩
        · have h : ¬ b0.1 < l.load (kOn P.n kept p) := by simpa using h
          have e : stp (some b0) (l.load (kOn P.n kept p), m) = some b0 := by unfold stp; simp [h]
          rw [e]
          exact xb_end ⟨fun _ _ h => h, fun _ _ h => h, fun _ _ h => h, fun _ _ h => h, fun _ _ h => h, fun _ _ h => h, fun _ _ h => h, fun _ _ h => h, trivial⟩
        · exact xb_end ⟨fun _ _ h => h, fun _ _ h => h, fun _ _ h => h, fun _ _ h => h, fun _ _ h => h, fun _ _ h => h, fun _ _ h => h, fun _ _ h => h, trivial⟩
    · have e1 : (vals P.n ls kept p).zipIdx.take ls.zipIdx.length = (vals P.n ls kept p).zipIdx := List.take_of_length_le (by unfold vals; simp)
      have e2 : bsO (vals P.n ls kept p).zipIdx = some (bst (vals P.n ls kept p)) := bst_is (by rw [els]; unfold vals; simp)
      rw [e1, e2]
      refine xb_app 0 (xv 2 rfl rfl rfl) (xe_tp (xa_cons (xv 3 rfl rfl rfl) (xa_cons (xv 6 rfl rfl rfl) (xa_cons (xv 7 rfl rfl rfl) xa_nil)))) rfl (by rw [List.length_map, List.length_map, List.length_take]; omega) ?_
      rw [take_snoc hip, List.map_append, List.map_append]
      exact xb_end ⟨fun _ _ h => h, fun _ _ h => h, fun _ _ h => h, fun _ _ h => h, fun _ _ h => h, trivial⟩
  · refine xb_seal 2 rfl seal_lst ?_
    rw [List.take_length]
    exact xb_retE (xe_tp (xa_cons (xv 2 rfl rfl rfl) (xa_cons (xv 5 rfl rfl rfl) (xa_cons (xv 4 rfl rfl rfl) xa_nil))))
end Pf

set_option maxHeartbeats 4000000
namespace Lg
open PySem PySem.Spec PyProof.Rows L2
section
variable {c : Cst} {sc : Scope} {G : Gm} {X : Cx} {e o : Expr} {T : Ty} {σ : L2.St} {Hi H Hi0 H0 : Hp} {pos : Pos} {Ts : List Ty} {O : List Own} {rest : List Stmt} {N : L2.St → Hp → Prop}
theorem gs_len {H : Hp} : ∀ {G : Gm} {σ : L2.St}, GS G σ H → σ.length = G.length
  | [], [], _ => rfl
  | some _ :: _, _ :: _, h => congrArg Nat.succ (gs_len h.2)
  | none :: G, _ :: σ, h => congrArg Nat.succ (gs_len (G := G) (σ := σ) h)
  | [], _ :: _, h => h.elim
  | some _ :: _, [], h => h.elim
  | none :: _, [], h => h.elim
/-- o.f = {}: the dict one's own -/
theorem xb_fldNewT (k : Nat) {w C dx : Addr} {fs : List (Str × Ty)} {f : Str} {p' dp : Pos} (ho : XE c sc G o (tRef w)) (hO : O[k]? = some (oIns w C dx fs)) (hf : fs.lookup f = none) (hc : Cls c.b.K C) (hn : NoAttr c.b.K C f) (hl : fs.length < 1000)
    (h : ∀ p, XB c sc Hi0 H0 (SS c.W Hi0 H0 G (oDT p [] :: O.set k (oIns w C dx (fs ++ [(f, tRef p)])))) rest N T) (hs : ∀ env, swapsWith (.Dict [] [] dp) (some (.Attribute o f p')) pos.line env = pure false := by intro _; rfl) :
    XB c sc Hi0 H0 (SS c.W Hi0 H0 G O) (.Assign [.Attribute o f p'] (.Dict [] [] dp) pos :: rest) N T := fun X C' σ H ⟨Hi, g, s, w'⟩ => by
  refine bW_cons (ps_fld eW_pe pe_dnewT (hs _)) fun p hp => ?_
  have hd : SS c.W Hi0 H0 (G.set (G.length + 7) (some (tRef p))) (oDT p [] :: O) (σ.set (G.length + 7) (some (.ref p))) (upd H p (.dT [])) := ss_own (o := oDT p []) (u := .dT []) rfl g hp s w' ⟨[], rfl, trivial⟩ (G.length + 7)
  rw [List.set_eq_of_length_le (by omega), List.set_eq_of_length_le (by rw [gs_len s]; omega)] at hd
  obtain ⟨Hi1, g1, s1, w1⟩ := hd
  refine ho.use C' g1.wi s1 fun x Hi2 H2 g2 t2 => ?_
  have w2 := w1.gr g2
  have hO' : (oDT p [] :: O)[k + 1]? = some (oIns w C dx fs) := by simpa using hO
  obtain ⟨⟨u, hu, xs, rfl, ts⟩, h2, h3, h4⟩ := w2.at_ _ (own_mem hO')
  cases (show x = .ref w from t2)
  refine ⟨w, C, dx, xs, rfl, hu, C'.hK ▸ hc, C'.hK ▸ hn, by rw [ts.len]; exact hl, ?_⟩
  rw [putF_new (kvp_lookn ts hf)]
  have := ss_put (o' := oIns w C dx (fs ++ [(f, tRef p)])) hO' rfl (g1.trans g2) (s1.mo g2.le) w2 ⟨_, rfl, kvp_snoc (T := tRef p) (v := .ref p) rfl ts⟩
  exact h p X C' σ _ this
end
end Lg
namespace Pf
open PySem PySem.Spec PyProof.Rows L2 Lg Ra
/-! ### loads are made -/
def lcs (l : Ld) : List Own := [oDT l.ov [], oDT l.kn []]
/-- a new load, its caches one's own -/
def RL (K : PySem.W.Frag) (C D : Addr) (W : Wd) (Hi H : Hp) (P : Pk) (ws : List (Rat × Rat)) : VK := fun v H' => ∃ Hi' kn ov, Gr W Hi H Hi' H' ∧ (tLd K C D ⟨P, ws, kn, ov⟩).p v Hi' ∧ OwnOk W H Hi' H' (lcs ⟨P, ws, kn, ov⟩)
def spLI (K : PySem.W.Frag) (C D : Addr) : Sp := fun vs H Q _ => ∃ W Hi P ws x dx rest, vs = .ref x :: rest ∧ H x = some (.ins D dx []) ∧ Hi x = none ∧ (∀ c ∈ W, c.a ≠ x) ∧ WI W Hi H ∧ TsP [tPk K C P, tLst (ws.map (tWt K))] rest Hi ∧
  ∀ H', RL K C D W Hi (cutH H [oIns x D dx []]) P ws (.ref x) H' → Q .non H'
theorem li_ok {b : Bs} {C D : Addr} (Lf : LdC b D) {x qual : Str} {params : Arguments} {f : Addr} {fd : FuncData} {ps : List Str} (F : FunD b.K x qual params (mBody 36 0) (mSc 36 0) [] [] f fd) (S : FnScope ["self", "plank", "weights"] ps (mSc 36 0)) (hn : ps.length = 3) :
    FnOk b.P b.w b.K b.mg b.base CX0 1 f fd ps (spLI b.K C D) := by
  refine F.ok S (fun vs H Q E ⟨W, Hi, P, ws, x, dx, rest, e, _, _, _, w, t, q⟩ => by rw [e, List.length_cons, t.len, hn]; rfl) (fun cdv A outer s H vs Q E hr ⟨W, Hi, P, ws, x, dx, rest, e, hx, hix, hcx, w, t, q⟩ => ?_)
  subst e
  refine ⟨_, PSs.nox bW_ps, ?_⟩
  have hx2 : TsP [tRef x, tPk b.K C P, tLst (ws.map (tWt b.K))] (V.ref x :: rest) Hi := ⟨rfl, t⟩
  have e : L2.start ["self", "plank", "weights"] (V.ref x :: rest) = (V.ref x :: rest).map some ++ List.replicate 0 none := by unfold L2.start; rw [hx2.len]; rfl
  have g0 : Gr W Hi (cutH H [oIns x D dx []]) Hi H := ⟨Le.refl _, w, fun a o h _ => cutH_some h, fun _ _ h _ _ => h, fun c hc kvs h => ⟨kvs, cutH_some h, fun _ q => q⟩⟩
  have hc0 : cutH H [oIns x D dx []] x = none := cutH_in (by simp [oIns])
  have o0 : OwnOk W (cutH H [oIns x D dx []]) Hi H [oIns x D dx []] := ⟨by simp, fun o ho => by
    have e : o = oIns x D dx [] := by simpa using ho
    subst e
    exact ⟨⟨_, hx, [], rfl, trivial⟩, hix, hc0, hcx⟩⟩
  have body : XB ⟨b, ["self", "plank", "weights"], 0, W, true⟩ (mSc 36 0) Hi (cutH H [oIns x D dx []]) (SS W Hi (cutH H [oIns x D dx []]) (gstart ["self", "plank", "weights"] [tRef x, tPk b.K C P, tLst (ws.map (tWt b.K))]) [oIns x D dx []]) (mBody 36 0)
      (fun σ H' => ∃ kn ov, SS W Hi (cutH H [oIns x D dx []]) (gstart ["self", "plank", "weights"] [tRef x, tPk b.K C P, tLst (ws.map (tWt b.K))]) [oDT ov [], oDT kn [], oIns x D dx (ldF b.K C ⟨P, ws, kn, ov⟩)] σ H') tBot := by
    refine xb_fld 0 (xv 1 rfl rfl rfl) (xv 0 rfl rfl rfl) rfl rfl Lf.cl Lf.nPlank (by exact Nat.le_of_ble_eq_true rfl) ?_
    refine xb_fld 0 (xv 2 rfl rfl rfl) (xv 0 rfl rfl rfl) rfl rfl Lf.cl Lf.nWeights (by exact Nat.le_of_ble_eq_true rfl) ?_
    refine xb_fldNewT 0 (xv 0 rfl rfl rfl) rfl rfl Lf.cl Lf.nKnown (by exact Nat.le_of_ble_eq_true rfl) fun kn => ?_
    refine xb_fldNewT 1 (xv 0 rfl rfl rfl) rfl rfl Lf.cl Lf.nOver (by exact Nat.le_of_ble_eq_true rfl) fun ov => ?_
    exact xb_nil fun _ _ h => ⟨kn, ov, h⟩
  have hb := body _ (ctx_fn (W := W) (outer := outer) (H := H) (E := E) S hr) (L2.start ["self", "plank", "weights"] (V.ref x :: rest)) H ⟨Hi, g0, by rw [e]; exact gs_start _ hx2, o0⟩
  refine bW_mono hb (fun σ H' ⟨kn, ov, Hi', g', _, k'⟩ => ?_) (fun v H' ⟨Hi', g', t'⟩ => (t' : False).elim) (fun _ _ q => q) (fun _ _ q => q)
  obtain ⟨⟨u, hu, hq⟩, hn', hcx', hw'⟩ := k'.at_ (oIns x D dx (ldF b.K C ⟨P, ws, kn, ov⟩)) (by simp)
  have hu : H' x = some u := hu
  have hn' : Hi' x = none := hn'
  have nd := k'.nd
  have nd : ¬ (ov = kn ∨ ov = x) ∧ ¬ kn = x := by
    have : (ov ∉ [kn, x]) ∧ kn ∉ [x] := by
      have h1 := List.nodup_cons.mp nd
      exact ⟨h1.1, (List.nodup_cons.mp h1.2).1⟩
    exact ⟨by simpa using this.1, by simpa using this.2⟩
  refine q H' ⟨upd Hi' x u, kn, ov, g'.seal hc0 hu hn' hcx, seal_ins u Hi' hq hn', ?_, fun o ho => ?_⟩
  · show [ov, kn].Nodup
    simp [nd.1]
    exact fun z => nd.1 (.inl z)
  · have ho' : o = oDT ov [] ∨ o = oDT kn [] := by simpa [lcs] using ho
    have le : Le Hi' (upd Hi' x u) := Le.of (same_new hn')
    obtain ⟨⟨v, q1, q2⟩, q3, q4, q5⟩ := k'.at_ o (by rcases ho' with z | z <;> simp [z])
    have ne : o.a ≠ x := by
      rcases ho' with z | z
      · rw [z]; exact fun z => nd.1 (.inr z)
      · rw [z]; exact nd.2
    exact ⟨⟨v, q1, o.mo le q2⟩, by rw [upd_ne ne]; exact q3, q4, q5⟩
end Pf

set_option maxHeartbeats 4000000
namespace Pf
open PySem PySem.Spec PyProof.Rows L2 Lg Ra
section
variable {c : Cst} {sc : Scope} {G : Gm} {X : Cx} {e : Expr} {es : List Expr} {σ : L2.St} {Hi H Hi0 H0 : Hp} {pos : Pos} {C D : Addr}
theorem fresh_back {W : Wd} {Hi1 H1 : Hp} (g : Gr W Hi H Hi1 H1) {a : Addr} (h : H1 a = none) : H a = none := by
  cases e : H a with
  | none => rfl
  | some o => exact (g.there (by rw [e]; exact fun z => nomatch z) h).elim
theorem ew_make {p : Pos} {P : Pk} {ws : List (Rat × Rat)} (F : MkAt c.b "Loads" D [] (spLI c.b.K C D) 1) (C' : CtxOk c sc X) (w : WI c.W Hi H) (g : GS G σ Hi) (ha : XA c sc G (e :: es) [tPk c.b.K C P, tLst (ws.map (tWt c.b.K))]) (hk : 2 ≤ c.k) (hg : sc.names.lookup ("Loads" : Str) = some .globalImplicit)
    (he : ∀ env, starEach (e :: es) env = (false, eval e env) :: starEach es env) (hpl : ∀ env, (backTo pos (starEach es env)).any (·.1) = false) : eW X (.Call (.Name "Loads" p) (e :: es) [] pos) σ H (RL c.b.K C D c.W Hi H P ws) := by
  obtain ⟨f, fd, ps, ds, F, hm, M, hb, hv⟩ := F.ex
  have F' : FnOk X.prog X.w X.K X.mg X.base CX0 1 f fd ps (spLI c.b.K C D) := by rw [C'.hP, C'.hw, C'.hK, C'.hm, C'.hb]; exact F
  refine eW_of (pe_make (E := E0) (C'.hK ▸ M) F' (C'.room.mono hk) (C'.glo hg) (by rw [C'.hm]; exact hm) (C'.hK ▸ hb) hv pass0 aW_pa (by decide +kernel) (he _) (hpl _)) ?_
  refine ha.use C' w g fun vs Hi1 H1 g1 t1 x dx hx hdx ne => ?_
  have w1 := g1.wi
  have w2 : WI c.W Hi1 (upd (upd H1 dx (.own x)) x (.ins D dx [])) := (w1.put (w1.none hdx) (w1.off hdx)).put (w1.none hx) (w1.off hx)
  refine ⟨c.W, Hi1, P, ws, x, dx, vs ++ [], rfl, upd_same, w1.none hx, w1.off hx, w2, by rw [List.append_nil]; exact t1, fun H' ⟨Hi', kn, ov, g', t', k'⟩ => ⟨rfl, Hi', kn, ov, g1.trans ⟨g'.le, g'.wi, fun a o ha hc => ?_, fun a o ha hc t => ?_, fun d hd kvs ha => ?_⟩, t', k'.nd, fun o ho => ?_⟩⟩
  · have n1 : a ≠ x := ne_of_none ha hx
    have n2 : a ≠ dx := ne_of_none ha hdx
    exact g'.keep a o (by rw [cutH_out (by simpa [oIns] using n1), upd_ne n1, upd_ne n2]; exact ha) hc
  · have n1 : a ≠ x := fun z => by rw [z, hx] at hc; cases hc
    have n2 : a ≠ dx := fun z => by rw [z, hdx] at hc; cases hc
    exact g'.off a o ha (by rw [cutH_out (by simpa [oIns] using n1), upd_ne n1, upd_ne n2]; exact hc) t
  · have n1 : d.a ≠ x := ne_of_none ha hx
    have n2 : d.a ≠ dx := ne_of_none ha hdx
    exact g'.grow d hd kvs (by rw [cutH_out (by simpa [oIns] using n1), upd_ne n1, upd_ne n2]; exact ha)
  · obtain ⟨q1, q2, q3, q4⟩ := k'.at_ o ho
    refine ⟨q1, q2, ?_, q4⟩
    refine fresh_back g1 ?_
    cases e1 : H1 o.a with
    | none => rfl
    | some u =>
      have n1 : o.a ≠ x := ne_of_none e1 hx
      have n2 : o.a ≠ dx := ne_of_none e1 hdx
      rw [cutH_out (by simpa [oIns] using n1), upd_ne n1, upd_ne n2, e1] at q3
      cases q3
/-- the loads, in their list -/
structure Made (K : PySem.W.Frag) (W : Wd) (Hi H Hi' H' : Hp) (P : Pk) (wss : List (List (Rat × Rat))) (ls : List Ld) : Prop where
  ws : ls.map Ld.ws = wss
  pl : ∀ l ∈ ls, l.P = P
  own : OwnOk W H Hi' H' (ls.flatMap lcs)
theorem own_snoc {W : Wd} {Hi1 H1 Hi2 H2 : Hp} {O O' : List Own} (k : OwnOk W H Hi1 H1 O) (g0 : Gr W Hi H Hi1 H1) (g : Gr W Hi1 H1 Hi2 H2) (k' : OwnOk W H1 Hi2 H2 O') : OwnOk W H Hi2 H2 (O ++ O') := by
  have k2 := k.gr g
  refine ⟨?_, fun o ho => ?_⟩
  · rw [List.map_append]
    refine List.nodup_append.mpr ⟨k2.nd, k'.nd, fun a ha b hb z => ?_⟩
    obtain ⟨o, ho, rfl⟩ := List.mem_map.mp ha
    obtain ⟨o', ho', rfl⟩ := List.mem_map.mp hb
    obtain ⟨⟨u, q1, _⟩, _⟩ := k.at_ o ho
    have := (k'.at_ o' ho').2.2.1
    rw [← z, q1] at this
    cases this
  · rcases List.mem_append.mp ho with ho | ho
    · exact k2.at_ o ho
    · obtain ⟨q1, q2, q3, q4⟩ := k'.at_ o ho
      exact ⟨q1, q2, fresh_back g0 q3, q4⟩
theorem lcs_snoc (ls : List Ld) (l : Ld) : (ls ++ [l]).flatMap lcs = ls.flatMap lcs ++ lcs l := by rw [List.flatMap_append]; simp
theorem own_put {W : Wd} {Hi1 H1 : Hp} {ls : List Ld} {p : Addr} {xs : List V} {u : HO} (k : OwnOk W H Hi1 H1 (ls.flatMap lcs)) (hp : H1 p = some (.lst xs)) : OwnOk W H Hi1 (upd H1 p u) (ls.flatMap lcs) := by
  refine ⟨k.nd, fun o ho => ?_⟩
  obtain ⟨⟨v, q1, q2⟩, q3⟩ := k.at_ o ho
  have ne : o.a ≠ p := fun z => by
    obtain ⟨l, _, hl⟩ := List.mem_flatMap.mp ho
    have hl : o = oDT l.ov [] ∨ o = oDT l.kn [] := by simpa [lcs] using hl
    have : ∃ kvs, v = .dT kvs := by
      rcases hl with z2 | z2
      · rw [z2] at q2; obtain ⟨kvs, e, _⟩ := q2; exact ⟨kvs, e⟩
      · rw [z2] at q2; obtain ⟨kvs, e, _⟩ := q2; exact ⟨kvs, e⟩
    obtain ⟨kvs, rfl⟩ := this
    rw [z, hp] at q1
    cases q1
  exact ⟨⟨v, by rw [upd_ne ne]; exact q1, q2⟩, q3⟩
/-- what loadings_of leaves -/
def RLs (K : PySem.W.Frag) (C D : Addr) (W : Wd) (Hi H : Hp) (P : Pk) (wss : List (List (Rat × Rat))) : VK := fun v H' => ∃ Hi' ls, Gr W Hi H Hi' H' ∧ (tLs K C D ls).p v Hi' ∧ Made K W Hi H Hi' H' P wss ls
end
abbrev tWs (K : PySem.W.Frag) (ws : List (Rat × Rat)) : Ty := tLst (ws.map (tWt K))
def spAreW (K : PySem.W.Frag) (C : Addr) : FS := fun _ Ts T => ∃ (P : Pk) (ws : List (Rat × Rat)), Ts = [tPk K C P, tWs K ws] ∧ (∀ w ∈ ws, WtOk P.L w) ∧ ws.length ≤ 5 ∧ Sm (P.L : Rat) ∧ T = tBl true
abbrev FAreW (b : Bs) (C : Addr) : Prop := FnAt b "are_weights" 2 (spOf 2 (spAreW b.K C)) 6
theorem xf_areW {b : Bs} {C : Addr} (B : Bt b) (hI : FWeight b C) : XF b ["plank", "thing", "one"] 5 (scOf 50) 2 (bodyOf 50) (spAreW b.K C) := by
  rintro W Ts T ⟨P, ws, rfl, ok, hl, hL, rfl⟩ - Hi0 H0
  refine xb_retE (XE.eq (xe_and (xe_blt B.isinstance (xa_cons (xv 1 rfl rfl rfl) (xa_cons (xe_ty (z := "list") B.list) xa_nil)) (cb_isiK (p := true) ty_lst)) fun _ => (xe_one (xe_blt B.all (xa_cons (xe_lcG (F := tBl) (g := fun _ => true) (xc (xs := ws) (F := tWt b.K) [("one", 2)] [2] (fun w => [tWt b.K w]) (fun _ => true) (fun w => tBl true)
    (xl_list ls_lst (xv 1 rfl rfl rfl)) (fun w hw => xg_name 2) (fun w hw => xts_nil) (fun w hw _ => xe_call hI (xa_cons (xv 0 rfl rfl rfl) (xa_cons (xv 2 rfl rfl rfl) xa_nil)) ⟨P, w, rfl, ok w hw, hL, rfl⟩) (by omega))) xa_nil) cb_all))) ?_)
  rw [all_tt _ _ fun _ _ => rfl]
  rfl
def spLoadings (K : PySem.W.Frag) (C D : Addr) : Sp := fun vs H Q _ => ∃ W Hi P wss, WI W Hi H ∧ TsP [tPk K C P, tLst (wss.map (tWs K))] vs Hi ∧ (∀ ws ∈ wss, (∀ w ∈ ws, WtOk P.L w) ∧ ws.length ≤ 5) ∧ 1 ≤ wss.length ∧ wss.length ≤ 8 ∧ Sm (P.L : Rat) ∧ ∀ v H', RLs K C D W Hi H P wss v H' → Q v H'
section
variable {c : Cst} {sc : Scope} {G : Gm} {X : Cx} {σ : L2.St} {Hi H Hi0 H0 : Hp} {pos : Pos} {rest : List Stmt} {D : Ends}
/-- a loop that never leaves, whatever comes behind -/
theorem bW_forL {α : Type} {xs : List α} {F : α → Ty} {tg iter : Expr} {js : List Nat} {body : List Stmt} (Us : α → List Ty) (Gi : Nat → Gm) (C : CtxOk c sc X) (g : Gr c.W Hi0 H0 Hi H) (s : GS G σ Hi) (hi : XL c sc G tg iter xs F) (h0 : GLe G (Gi 0)) (hg : ∀ x, x ∈ xs → XG c sc tg (F x) js (Us x))
    (hb : ∀ i x, xs[i]? = some x → ∀ Hi0 H0, XB c sc Hi0 H0 (SS c.W Hi0 H0 (gset (Gi i) js (Us x)) []) body (SS c.W Hi0 H0 (Gi (i + 1)) []) tBot) (h : ∀ σ' Hi' H', Gr c.W Hi0 H0 Hi' H' → GS (Gi xs.length) σ' Hi' → bW X rest D σ' H') (hs : ∀ env x, foldedSetIterable iter env x = pure x) :
    bW X (.For tg iter body [] pos :: rest) D σ H := by
  refine bW_cons (ps_for (never_of C) C.calm iW_pi gW_pg bW_ps (hs _)) ?_
  intro pins st I
  refine thn (hi X C σ Hi H g.wi s pins st I) fun v s1 h1 => thn h1 fun itv s2 ⟨ita, fp, tn, J, H1, e, I2, Tt, stt, fr, Hi1, g1, ok⟩ => ⟨ita, fp, tn, J, H1, e, I2, Tt, stt, fr, ?_⟩
  refine ⟨fun i m σ' H' => m = xs.length - i ∧ i ≤ xs.length ∧ ∃ Hi', Gr c.W Hi0 H0 Hi' H' ∧ Le Hi1 Hi' ∧ GS (Gi i) σ' Hi', ⟨xs.length, by omega, Nat.zero_le _, Hi1, g.trans g1, Le.refl _, (s.mo g1.le).le h0⟩, ?_⟩
  rintro i m σ2 H2 ⟨rfl, hin, Hi2, g2, l2, s2⟩
  obtain ⟨go, stop⟩ := ok Hi2 H2 l2 g2.wi
  by_cases hlt : i < xs.length
  · obtain ⟨go1, yld⟩ := go i hlt
    have hx : xs[i]? = some xs[i] := List.getElem?_eq_getElem hlt
    refine .inr ⟨go1, fun σ' H' => ∃ Hi', Gr c.W Hi0 H0 Hi' H' ∧ Le Hi1 Hi' ∧ GS (Gi (i + 1)) σ' Hi', fun σ' H' q => ⟨xs.length - (i + 1), by omega, rfl, hlt, q⟩, fun x H3 hy => ?_⟩
    obtain ⟨Hi3, g3, tx3⟩ := yld x H3 hy
    rw [tyO_at hx] at tx3
    refine hg _ (List.getElem_mem hlt) X C σ2 Hi3 H3 x g3.wi tx3 _ fun vs tvs => ?_
    have gs : GS (gset (Gi i) js (Us xs[i])) (setAll σ2 js vs) Hi3 := (s2.mo g3.le).setAll tvs
    have g03 := g2.trans g3
    refine bW_mono (hb i _ hx Hi3 H3 X C _ H3 ⟨Hi3, Gr.refl g3.wi, gs, OwnOk.nil⟩) (fun σ' H' ⟨Hi', q1, q2, _⟩ => ⟨Hi', g03.trans q1, l2.trans (g3.le.trans q1.le), q2⟩) (fun v H' ⟨Hi', q1, q2⟩ => (q2 : False).elim) (fun _ _ (q : False) => q.elim) (fun _ _ (q : False) => q.elim)
  · have e' : i = xs.length := by omega
    subst e'
    exact .inl ⟨stop, h σ2 Hi2 H2 g2 s2⟩
theorem bW_guard {p : Bool} {t : Expr} {b1 : List Stmt} (C : CtxOk c sc X) (g : Gr c.W Hi0 H0 Hi H) (s : GS G σ Hi) (ht : XT c sc G t p) (hp : p = false) (h : ∀ Hi' H', Gr c.W Hi0 H0 Hi' H' → GS G σ Hi' → bW X rest D σ H') : bW X (.If t b1 [] pos :: rest) D σ H := by
  subst hp
  refine bW_cons (ps_if tW_pt bW_ps bW_ps) (ht.use C g.wi s fun Hi' H' g' => ?_)
  rw [if_neg (by decide)]
  exact bW_of pss_nil (h Hi' H' (g.trans g') (s.mo g'.le))
/-- [Loads(plank, list(weights)) for weights in loadings] -/
theorem lds_t {C D : Addr} {P : Pk} {wss : List (List (Rat × Rat))} {elt tg iter : Expr} {scope : Scope} (K : PySem.W.Frag) (vs : List Nat) (j : Nat) (hj : j ∈ vs) (Cx : CtxOk c sc X) (w : WI c.W Hi H) (g : GS G σ Hi) (hi : XL c sc G tg iter wss (tWs K)) (hl : wss.length ≤ 100000)
    (hg : ∀ ws ∈ wss, XG c.inb scope tg (tWs K ws) [j] [tWs K ws]) (he : ∀ ws ∈ wss, ∀ X', CtxOk c.inb scope X' → ∀ σ' Hi' H', WI c.W Hi' H' → GS (gset (gwipe G vs) [j] [tWs K ws]) σ' Hi' → eW X' elt σ' H' (RL K C D c.W Hi' H' P ws)) :
    tLc (iW X tg iter) (gU c.inb scope tg) (tU c.inb scope []) (eU c.inb scope elt) vs σ H (RLs K C D c.W Hi H P wss) := by
  refine fun pins s I => (iW_pi (X := X)).run pins s σ H _ I fun pins s I => ?_
  refine thn (hi X Cx σ Hi H w g pins s I) fun v s1 h1 => thn h1 fun itv s2 ⟨ita, fp, tn, J, H1, e, I2, T, st, fr, Hi1, g1, ok⟩ => ⟨ita, fp, tn, J, H1, e, I2, T, st, fr, fun L hL => ?_⟩
  have hL0 : H L = none := fresh_back g1 hL
  have hLi := g1.wi.none hL
  have hLc := g1.wi.off hL
  refine ⟨fun i m H' => m = wss.length - i ∧ i ≤ wss.length ∧ ∃ Hi' acc ls, Gr c.W Hi H Hi' H' ∧ Le Hi1 Hi' ∧ H' L = some (.lst acc) ∧ Hi' L = none ∧ TsP (ls.map (tLd K C D)) acc Hi' ∧ Made K c.W Hi H Hi' H' P (wss.take i) ls,
    ⟨wss.length, by omega, Nat.zero_le _, Hi1, [], [], g1.put hL0 hLi hLc, Le.refl _, upd_same, hLi, (show TsP (([] : List Ld).map (tLd K C D)) [] Hi1 from trivial), rfl, (fun _ h => nomatch h), OwnOk.nil⟩, ?_⟩
  rintro i m H2 ⟨rfl, hin, Hi2, acc, ls, g2, l2, hx, hLi2, tx, md⟩
  obtain ⟨go, stop⟩ := ok Hi2 H2 l2 g2.wi
  by_cases hlt : i < wss.length
  · obtain ⟨go1, yld⟩ := go i hlt
    have hxi : wss[i]? = some wss[i] := List.getElem?_eq_getElem hlt
    have hmx : wss[i] ∈ wss := List.getElem_mem hlt
    refine .inr ⟨go1, fun H' => ∃ Hi' acc ls, Gr c.W Hi H Hi' H' ∧ Le Hi1 Hi' ∧ H' L = some (.lst acc) ∧ Hi' L = none ∧ TsP (ls.map (tLd K C D)) acc Hi' ∧ Made K c.W Hi H Hi' H' P (wss.take (i + 1)) ls, fun H' ⟨Hi', acc, ls, q⟩ => ⟨wss.length - (i + 1), by omega, rfl, hlt, Hi', acc, ls, q⟩, fun x H3 hy => ?_⟩
    obtain ⟨Hi3, g3, tx3⟩ := yld x H3 hy
    rw [tyO_at hxi] at tx3
    intro X' C'
    refine hg _ hmx X' C' (L2.wipe σ vs) Hi3 H3 x g3.wi tx3 _ fun us tus => ?_
    refine ⟨(wipe_setAll (js := [j]) (fun k hk => by rw [List.mem_singleton.mp hk]; exact hj)).trans wipe_wipe, fun X2 C2 pins' s' I' => pts_nil.run pins' s' _ _ _ I' ?_⟩
    unfold tYes
    simp only [if_true]
    have gs : GS (gset (gwipe G vs) [j] [tWs K wss[i]]) (setAll (L2.wipe σ vs) [j] us) Hi3 := ((g.mo (g2.trans g3).le).wipe _).setAll tus
    intro X3 C3
    refine eW_mono (he _ hmx X3 C3 _ Hi3 H3 g3.wi gs) fun y H4 ⟨Hi4, kn, ov, g4, t4, k4⟩ => ?_
    have hL3 : H3 L = some (.lst acc) := g3.keep L _ hx hLc
    have hLi3 : Hi3 L = none := g3.off L _ hLi2 hx (fun _ z => nomatch z)
    have hL4 : H4 L = some (.lst acc) := g4.keep L _ hL3 hLc
    have hLi4 : Hi4 L = none := g4.off L _ hLi3 hL3 (fun _ z => nomatch z)
    have g23 := g2.trans g3
    have own := own_snoc (md.own.gr g3) g23 g4 k4
    rw [← lcs_snoc] at own
    have hlen : acc.length ≤ i := by
      rw [tx.len, List.length_map]
      have : ls.length = (wss.take i).length := by rw [← md.ws, List.length_map]
      rw [this, List.length_take]
      omega
    refine ⟨acc, hL4, Nat.lt_of_lt_of_le (by omega : acc.length < 100001) (by decide), Hi4, acc ++ [y], ls ++ [⟨P, wss[i], kn, ov⟩], (g23.trans g4).put hL0 hLi4 hLc, l2.trans (g3.le.trans g4.le), upd_same, hLi4, ?_, ?_, ?_, own_put own hL4⟩
    · rw [List.map_append]
      exact (tx.mo (g3.le.trans g4.le)).app ⟨t4, trivial⟩
    · rw [List.map_append, md.ws, take_snoc hxi]; rfl
    · intro l hl
      rcases List.mem_append.mp hl with hl | hl
      · exact md.pl l hl
      · rw [List.mem_singleton.mp hl]
  · have e' : i = wss.length := by omega
    subst e'
    refine .inl ⟨stop, upd Hi2 L (.lst acc), ls, g2.seal hL0 hx hLi2 hLc, ⟨L, acc, rfl, upd_same, tx.mo (Le.of (same_new hLi2))⟩, by rw [md.ws, List.take_length], md.pl, md.own.nd, fun o ho => ?_⟩
    obtain ⟨⟨u, q1, q2⟩, q3, q4, q5⟩ := md.own.at_ o ho
    have ne : o.a ≠ L := fun z => by
      obtain ⟨l, _, hl⟩ := List.mem_flatMap.mp ho
      have hl : o = oDT l.ov [] ∨ o = oDT l.kn [] := by simpa [lcs] using hl
      rw [z, hx] at q1
      cases q1
      rcases hl with z2 | z2
      · rw [z2] at q2; obtain ⟨kvs, e, _⟩ := q2; cases e
      · rw [z2] at q2; obtain ⟨kvs, e, _⟩ := q2; cases e
    exact ⟨⟨u, q1, o.mo (Le.of (same_new hLi2)) q2⟩, by rw [upd_ne ne]; exact q3, q4, q5⟩
theorem ew_lds {C D : Addr} {P : Pk} {wss : List (List (Rat × Rat))} {elt tg iter : Expr} {scope : Scope} (K : PySem.W.Frag) (own : List (Str × Nat)) (j : Nat) (Cx : CtxOk c sc X) (w : WI c.W Hi H) (g : GS G σ Hi) (hi : XL c sc G tg iter wss (tWs K)) (hl : wss.length ≤ 100000)
    (hg : ∀ ws ∈ wss, XG c.inb scope tg (tWs K ws) [j] [tWs K ws]) (he : ∀ ws ∈ wss, ∀ X', CtxOk c.inb scope X' → ∀ σ' Hi' H', WI c.W Hi' H' → GS (gset (gwipe G (own.map (·.2))) [j] [tWs K ws]) σ' Hi' → eW X' elt σ' H' (RL K C D c.W Hi' H' P ws))
    (hd : c.d = true := by rfl) (ok : blkC c.N sc scope own = true := by kernel_rfl) (hj : j ∈ own.map (·.2) := by decide) (hs : ∀ env x, foldedSetIterable iter env x = pure x := by intro _ _; rfl) : eW X (.ListComp elt [⟨tg, iter, [], 0⟩] scope pos) σ H (RLs K C D c.W Hi H P wss) := by
  have ok : BlkOk X.N X.env.scope scope own := by rw [Cx.hN, Cx.hd hd]; exact blkOk_by ok
  exact eW_of (pe_lc Cx.calm (Cx.hN ▸ Cx.nd) iW_pi ok (fun s H a cl fp => ⟨fun pins s' σ' H' v u Q I r h => h _ (ctx_blk Cx s H a cl fp) pins s' u I r⟩) (fun s H a cl fp => ⟨fun pins s' σ' H' Q I h => h _ (ctx_blk Cx s H a cl fp) pins s' I⟩)
    (fun s H a cl fp => ⟨fun pins s' σ' H' Q I h => h _ (ctx_blk Cx s H a cl fp) pins s' I⟩) (hs _)) (lds_t K _ j hj Cx w g hi hl hg he)
end
theorem loadings_ok {b : Bs} {C D : Addr} (B : Bt b) (hI : FAreW b C) (hM : MkAt b "Loads" D [] (spLI b.K C D) 1) {x qual : Str} {params : Arguments} {f : Addr} {fd : FuncData} {ps : List Str} (F : FunD b.K x qual params (bodyOf 51) (scOf 51) [] [] f fd) (S : FnScope ["plank", "loadings", "at", "weights"] ps (scOf 51)) (hn : ps.length = 2) :
    FnOk b.P b.w b.K b.mg b.base CX0 7 f fd ps (spLoadings b.K C D) := by
  refine F.ok S (fun vs H Q E ⟨W, Hi, P, wss, w, t, _⟩ => by rw [t.len, hn]; rfl) (fun cdv A outer s H vs Q E hr ⟨W, Hi, P, wss, w, t, ok, h1, h8, hL, q⟩ => ?_)
  refine ⟨_, PSs.nox bW_ps, ?_⟩
  have e : L2.start ["plank", "loadings", "at", "weights"] vs = vs.map some ++ List.replicate 2 none := by unfold L2.start; rw [t.len]; rfl
  have s0 : GS [some (tPk b.K C P), some (tLst (wss.map (tWs b.K))), none, none] (L2.start ["plank", "loadings", "at", "weights"] vs) Hi := by rw [e]; exact gs_start 2 t
  have Cx := ctx_fn (W := W) (outer := outer) (H := H) (E := E) (b := b) (k := 6) S hr
  generalize hX : (cxOf CX0 b.P b.w b.K b.mg b.base ["plank", "loadings", "at", "weights"] qual (scOf 51) f cdv A outer s H E).nox = X at Cx ⊢
  generalize L2.start ["plank", "loadings", "at", "weights"] vs = σ0 at s0 ⊢
  refine bW_guard (c := ⟨b, ["plank", "loadings", "at", "weights"], 6, W, true⟩) Cx (Gr.refl w) s0 (xt_w (xw_or (xt_not (xt_val (xe_blt B.isinstance (xa_cons (xv 1 rfl rfl rfl) (xa_cons (xe_ty (z := "list") B.list) xa_nil)) (cb_isiK (p := true) ty_lst)))) fun h => (xw_or1 (xt_not (xt_chain xe_int (xe_blt B.len (xa_cons (xv 1 rfl rfl rfl) xa_nil) (cb_len sq_lst)) (xe_gi B.mload) cm_le cm_le))))) ?_ fun Hi1 H1 g1 s1 => ?_
  · rw [List.length_map]
    have a1 : (1 : Int) ≤ (wss.length : Nat) := by omega
    have a2 : ((wss.length : Nat) : Int) ≤ 8 := by omega
    simp [a1, a2]
  refine bW_forL (c := ⟨b, ["plank", "loadings", "at", "weights"], 6, W, true⟩) (xs := wss.zipIdx) (F := fun q => tTup b.K [tInt (q.2 : Nat), tWs b.K q.1]) (js := [2, 3]) (fun q => [tInt (q.2 : Nat), tWs b.K q.1]) (fun _ => [some (tPk b.K C P), some (tLst (wss.map (tWs b.K))), none, none]) Cx g1 s1 (xl_enumL B.enumerate ls_lst (xv 1 rfl rfl rfl)) (GLe.refl _) (fun q hq => xg_tup (xgs_cons (xg_name 2) (xgs_cons (xg_name 3) xgs_nil)) tp_tup) (fun i q hiq Hi0 H0 => ?_) (fun σ' Hi2 H2 g2 s2 => ?_) (by intro _ _; rfl)
  · have hm : q.1 ∈ wss := List.fst_mem_of_mem_zipIdx (List.mem_of_getElem? hiq)
    refine xb_guard (xt_not (xt_val (xe_call hI (xa_cons (xv 0 rfl rfl rfl) (xa_cons (xv 3 rfl rfl rfl) xa_nil)) ⟨P, q.1, rfl, (ok _ hm).1, (ok _ hm).2, hL, rfl⟩))) rfl ?_
    exact xb_end ⟨fun _ _ h => h, fun _ _ h => h, trivial⟩
  · refine bW_cons (ps_ret eW_pe) ?_
    refine eW_mono (ew_lds (c := ⟨b, ["plank", "loadings", "at", "weights"], 6, W, true⟩) (C := C) (D := D) (P := P) b.K [("weights", 3)] 3 Cx g2.wi s2 (xl_list ls_lst (xv 1 rfl rfl rfl)) (by omega) (fun ws hw => xg_name 3) (fun ws hw X' C' σ' Hi' H' w' s' => ?_)) fun v H3 ⟨Hi3, ls, g3, t3, m3⟩ => ?_
    · exact ew_make (c := Cst.inb ⟨b, ["plank", "loadings", "at", "weights"], 6, W, true⟩) hM C' w' s' (xa_cons (xv 0 rfl rfl rfl) (xa_cons (xe_bty B.list (xa_cons (xv 3 rfl rfl rfl) xa_nil) (cb_list sq_lst)) xa_nil)) (by exact Nat.le_of_ble_eq_true rfl) rfl (fun _ => rfl) (fun _ => rfl)
    · refine q v H3 ⟨Hi3, ls, g2.trans g3, t3, m3.ws, m3.pl, m3.own.nd, fun o ho => ?_⟩
      obtain ⟨q1, q2, q3, q4⟩ := m3.own.at_ o ho
      exact ⟨q1, q2, fresh_back g2 q3, q4⟩
end Pf

set_option maxHeartbeats 4000000
namespace Pf
open PySem PySem.Spec PyProof.Rows L2 Lg Ra
/-! ### by planks and weights alone -/
abbrev Wts := List (Rat × Rat)
def overW (P : Pk) (ws : Wts) (lot : List Int) (p : Int) : Bool := decide (P.str p < loadOf P.sh ws (kOn P.n lot p))
def weakW (P : Pk) (wss : List Wts) (R lot : List Int) : List Int := lot.filter fun p => !decide (p ∈ R) && wss.any fun ws => overW P ws lot p
def keptW (P : Pk) (wss : List Wts) (R : List Int) : List Int × List Int := settle (weakW P wss R) (rgI P.n)
def valsW (P : Pk) (wss : List Wts) (kept : List Int) (p : Int) : List Rat := wss.map fun ws => loadOf P.sh ws (kOn P.n kept p)
theorem weak_W {P : Pk} {ls : List Ld} (h : ∀ l ∈ ls, l.P = P) (R : List Int) : weakL ls R = weakW P (ls.map Ld.ws) R := by
  funext lot
  unfold weakL weakW
  congr 1
  funext p
  congr 1
  rw [List.any_map]
  have : ∀ (ms : List Ld), (∀ l ∈ ms, l.P = P) → (ms.any fun l => Pk.over l lot p) = ms.any ((fun ws => overW P ws lot p) ∘ Ld.ws) := by
    intro ms
    induction ms with
    | nil => intro _; rfl
    | cons l ms ih =>
      intro hm
      rw [List.any_cons, List.any_cons, ih fun x hx => hm x (List.mem_cons_of_mem _ hx)]
      have e := hm l List.mem_cons_self
      congr 1
      unfold Pk.over overW Ld.load Function.comp
      rw [e]
  exact this ls h
theorem kept_W {P : Pk} {ls : List Ld} (h : ∀ l ∈ ls, l.P = P) (R : List Int) : keptL P.n ls R = keptW P (ls.map Ld.ws) R := by
  unfold keptL keptW
  rw [weak_W h]
theorem vals_W {P : Pk} {ls : List Ld} (h : ∀ l ∈ ls, l.P = P) (kept : List Int) (p : Int) : vals P.n ls kept p = valsW P (ls.map Ld.ws) kept p := by
  unfold vals valsW
  rw [List.map_map]
  refine List.map_congr_left fun l hl => ?_
  unfold Ld.load Function.comp
  rw [h l hl]
/-- what fair tells -/
def fairV (P : Pk) (wss : List Wts) (R : List Int) (p : Int) : List Rat := wss.map fun ws => loadOf P.sh ws (kOn P.n (keptW P [ws] R).2 p)
def fairA (P : Pk) (wss : List Wts) (R : List Int) (p : Int) : Ans := (p, bst (fairV P wss R p))
def steadyA (P : Pk) (wss : List Wts) (R : List Int) (p : Int) : Ans := (p, bst (valsW P wss (keptW P wss R).2 p))
/-- what the calls need -/
structure LdIn (P : Pk) (wss : List Wts) (R : List Int) : Prop where
  pok : P.Ok
  rise : P.Rise
  wt : ∀ ws ∈ wss, (∀ w ∈ ws, WtOk P.L w) ∧ ws.length ≤ 5
  one : 1 ≤ wss.length
  most : wss.length ≤ 8
  sz : wss.length * P.n < 64
  lot : Lot P.n R
  ne : R ≠ []
def chs (K : PySem.W.Frag) (ls : List Ld) : Wd := ls.flatMap fun l => [ovCh K l, knCh K l]
theorem sm_L {P : Pk} (ok : P.Ok) : Sm (P.L : Rat) := (bd_place (i := P.L) (L := P.L) ⟨by have := ok.l2; omega, Int.le_refl _⟩ ok.l1).mono (by decide)
theorem ls_ok {P : Pk} {wss : List Wts} {R : List Int} {ls : List Ld} {K : PySem.W.Frag} (h : LdIn P wss R) (h1 : ls.map Ld.ws = wss) (h2 : ∀ l ∈ ls, l.P = P) : LsOk K (chs K ls) P ls :=
  ⟨h2, fun l hl => by
    have hw : l.ws ∈ wss := h1 ▸ List.mem_map.mpr ⟨l, hl, rfl⟩
    have e := h2 l hl
    exact ⟨e ▸ h.pok, e ▸ h.rise, (h.wt _ hw).2, fun w hw' => e ▸ (h.wt _ hw).1 w hw'⟩, fun l hl => ⟨List.mem_flatMap.mpr ⟨l, hl, by simp⟩, List.mem_flatMap.mpr ⟨l, hl, by simp⟩⟩⟩
section
variable {c : Cst} {sc : Scope} {G : Gm} {X : Cx} {e : Expr} {es : List Expr} {σ : L2.St} {Hi H Hi0 H0 : Hp} {pos p2 : Pos} {C D : Addr} {T : Ty} {rest : List Stmt}
theorem xb_loads (i : Nat) {x : Str} {p' p : Pos} {P : Pk} {wss : List Wts} {R : List Int} (F : FnAt c.b "loadings_of" 2 (spLoadings c.b.K C D) 7) (hW : c.W = []) (hI : LdIn P wss R) (ha : XA c sc G (e :: es) [tPk c.b.K C P, tLst (wss.map (tWs c.b.K))])
    (h : ∀ ls Hi0 H0, ls.map Ld.ws = wss → (∀ l ∈ ls, l.P = P) → XB { c with W := chs c.b.K ls } sc Hi0 H0 (SS (chs c.b.K ls) Hi0 H0 (G.set i (some (tLs c.b.K C D ls))) []) rest (fun _ _ => False) T)
    (hk : 7 ≤ c.k := by exact Nat.le_of_ble_eq_true rfl) (hg : sc.names.lookup ("loadings_of" : Str) = some .globalImplicit := by rfl) (hN : c.N[i]? = some x := by rfl) (hx : Loc' sc x := by first | exact Or.inl rfl | exact Or.inr rfl)
    (hs : ∀ env, swapsWith (.Call (.Name "loadings_of" p) (e :: es) [] p2) (some (.Name x p')) pos.line env = pure false := by intro _; rfl) (he : ∀ env, starEach (e :: es) env = (false, eval e env) :: starEach es env := by intro _; rfl) (hpl : ∀ env, (backTo p2 (starEach es env)).any (·.1) = false := by intro _; rfl) :
    XB c sc Hi0 H0 (SS c.W Hi0 H0 G []) (.Assign [.Name x p'] (.Call (.Name "loadings_of" p) (e :: es) [] p2) pos :: rest) (fun _ _ => False) T := fun X C' σ H ⟨Hi, g, s, k⟩ => by
  refine bW_cons (ps_set (i := i) (C'.hN ▸ C'.nd) (by rw [C'.hN]; exact hN) (C'.sto x hx).1 (pe_fn F C' hk aW_pa hg (by decide +kernel) he hpl) (hs _) (C'.sto x hx).2) ?_
  refine ha.use C' g.wi s fun vs Hi1 H1 g1 t1 => ?_
  rw [List.append_nil]
  refine ⟨c.W, Hi1, P, wss, g1.wi, t1, hI.wt, hI.one, hI.most, sm_L hI.pok, fun v H2 ⟨Hi2, ls, g2, t2, m2⟩ => ?_⟩
  have g02 := (g.trans g1).trans g2
  have ad : (chs c.b.K ls).map Ch.a = (ls.flatMap lcs).map Own.a := by
    unfold chs lcs
    rw [List.map_flatMap, List.map_flatMap]
    rfl
  have cw : WI (chs c.b.K ls) Hi2 H2 := by
    refine ⟨g02.wi.same, by rw [ad]; exact m2.own.nd, fun d hd => ?_⟩
    obtain ⟨l, hl, hd⟩ := List.mem_flatMap.mp hd
    have hd : d = ovCh c.b.K l ∨ d = knCh c.b.K l := by simpa using hd
    have one : ∀ a, oDT a [] ∈ ls.flatMap lcs → Hi2 a = none ∧ H2 a = some (.dT []) := fun a ha => by
      obtain ⟨⟨u, q1, kvs, e1, q2⟩, q3, _⟩ := m2.own.at_ _ ha
      have e2 : kvs = [] := List.length_eq_zero_iff.mp q2.len
      subst e1 e2
      exact ⟨q3, q1⟩
    rcases hd with rfl | rfl
    · obtain ⟨q1, q2⟩ := one l.ov (List.mem_flatMap.mpr ⟨l, hl, by simp [lcs]⟩)
      exact ⟨q1, [], q2, by simp, fun _ h => nomatch h⟩
    · obtain ⟨q1, q2⟩ := one l.kn (List.mem_flatMap.mpr ⟨l, hl, by simp [lcs]⟩)
      exact ⟨q1, [], q2, by simp, fun _ h => nomatch h⟩
  have C2 : CtxOk { c with W := chs c.b.K ls } sc X := ⟨C'.hP, C'.hw, C'.hK, C'.hm, C'.hb, C'.hN, C'.hd, C'.vis, C'.gl, C'.sto, C'.loc, C'.nd, C'.calm, C'.room, C'.xe⟩
  have st : SS (chs c.b.K ls) Hi2 H2 (G.set i (some (tLs c.b.K C D ls))) [] (σ.set i (some v)) H2 := ⟨Hi2, Gr.refl cw, (s.mo (g1.le.trans g2.le)).set t2 i, OwnOk.nil⟩
  refine bW_mono (h ls Hi2 H2 m2.ws m2.pl X C2 _ H2 st) (fun _ _ q => q) (fun u H3 ⟨Hi3, g3, t3⟩ => ⟨Hi3, ?_, t3⟩) (fun _ _ q => q) (fun _ _ q => q)
  rw [hW] at g02 ⊢
  refine ⟨g02.le.trans g3.le, ⟨g3.wi.same, List.nodup_nil, fun _ h => nomatch h⟩, fun a o ha _ => ?_, fun a o ha hc t => ?_, fun _ h => nomatch h⟩
  · refine g3.keep a o (g02.keep a o ha fun _ h => nomatch h) fun d hd z => ?_
    have : d.a ∈ (chs c.b.K ls).map Ch.a := List.mem_map.mpr ⟨d, hd, rfl⟩
    rw [ad] at this
    obtain ⟨o', ho', e'⟩ := List.mem_map.mp this
    have := fresh_back (g.trans g1) (m2.own.at_ o' ho').2.2.1
    rw [e', z, ha] at this
    cases this
  · exact g3.off a o (g02.off a o ha hc t) (g02.keep a o hc fun _ h => nomatch h) t
end
def stp1 (b x : Rat × Nat) : Rat × Nat := if b.1 < x.1 then x else b
theorem stp_1 (b x : Rat × Nat) : stp (some b) x = some (stp1 b x) := by
  unfold stp stp1
  by_cases h : b.1 < x.1 <;> simp [h]
theorem fold_1 : ∀ (xs : List (Rat × Nat)) (b : Rat × Nat), xs.foldl stp (some b) = some (xs.foldl stp1 b)
  | [], _ => rfl
  | x :: xs, b => by rw [List.foldl_cons, List.foldl_cons, stp_1, fold_1 xs]
theorem bst_1 (v : Rat) (vs : List Rat) : (v :: vs).zipIdx.foldl stp1 (v, 0) = bst (v :: vs) := by
  unfold bst bsO
  rw [List.zipIdx_cons, List.foldl_cons, List.foldl_cons]
  have e1 : stp none (v, 0) = some (v, 0) := rfl
  have e2 : stp1 (v, 0) (v, 0) = (v, 0) := by unfold stp1; split <;> rfl
  rw [e1, e2, fold_1]
  rfl
def spSteady (K : PySem.W.Frag) (C D : Addr) : FS := fun W Ts T => ∃ (P : Pk) (wss : List Wts) (R : List Int), W = [] ∧ Ts = [tPk K C P, tLst (wss.map (tWs K)), tLo K R] ∧ LdIn P wss R ∧ T = tTup K [tLst ((R.map (steadyA P wss R)).map (tAns K)), tLo K (keptW P wss R).2]
abbrev FSteady (b : Bs) (C D : Addr) : Prop := FnAt b "steady" 3 (spOf 3 (spSteady b.K C D)) 13
theorem n_le {P : Pk} (ok : P.Ok) : P.n ≤ 12 := ok.len
theorem xf_steady {b : Bs} {C D : Addr} (B : Bt b) (hL : FnAt b "loadings_of" 2 (spLoadings b.K C D) 7) (hS : FCheck b C) (hC : FCorner b C D) : XF b ["plank", "loadings", "lot", "some"] 12 (scOf 53) 3 (bodyOf 53) (spSteady b.K C D) := by
  rintro W Ts T ⟨P, wss, R, rfl, rfl, hI, rfl⟩ - Hi0 H0
  have n12 := n_le hI.pok
  have rl := lot_len hI.lot
  refine XB.post (N := fun _ _ => False) ?_ fun _ _ h => h.elim
  refine xb_loads (C := C) (D := D) 3 hL rfl hI (xa_cons (xv 0 rfl rfl rfl) (xa_cons (xv 1 rfl rfl rfl) xa_nil)) fun ls Hi0 H0 h1 h2 => ?_
  have lk := ls_ok (K := b.K) hI h1 h2
  have ll : ls.length = wss.length := by rw [← h1, List.length_map]
  refine xb_drop (c := ⟨b, _, 12, chs b.K ls, true⟩) (xe_call hS (xa_cons (xv 0 rfl rfl rfl) (xa_cons (xv 2 rfl rfl rfl) xa_nil)) ⟨P, R, rfl, hI.lot, hI.ne, by omega, rfl⟩) ?_
  refine xb_retE (XE.eq (xe_takeT (n := 2) tp_tup (xe_call hC (xa_cons (xv 3 rfl rfl rfl) (xa_cons (xv 2 rfl rfl rfl) xa_nil)) ⟨P, ls, R, rfl, hI.lot, by intro z; have := hI.one; rw [← ll, z] at this; simp at this, lk, by rw [ll]; exact hI.sz, by omega, rfl⟩) xe_int rfl (by simp)) ?_)
  have ek := kept_W h2 R
  rw [h1] at ek
  have ea : R.map (ansL P.n ls (keptL P.n ls R).2) = R.map (steadyA P wss R) := by
    refine List.map_congr_left fun p _ => ?_
    unfold ansL steadyA
    rw [ek, vals_W h2, h1]
  show tTup b.K [tLst ((R.map (ansL P.n ls (keptL P.n ls R).2)).map (tAns b.K)), tLo b.K (keptL P.n ls R).2] = _
  rw [ea, ek]
def spFair (K : PySem.W.Frag) (C D : Addr) : FS := fun W Ts T => ∃ (P : Pk) (wss : List Wts) (R : List Int), W = [] ∧ Ts = [tPk K C P, tLst (wss.map (tWs K)), tLo K R] ∧ LdIn P wss R ∧ T = tLst ((R.map (fairA P wss R)).map (tAns K))
abbrev FFair (b : Bs) (C D : Addr) : Prop := FnAt b "fair" 3 (spOf 3 (spFair b.K C D)) 13
/-- a row of fair's -/
def rowL (n : Nat) (R : List Int) (l : Ld) : List Ans := R.map (ansL n [l] (keptL n [l] R).2)
theorem xf_fair {b : Bs} {C D : Addr} (B : Bt b) (hL : FnAt b "loadings_of" 2 (spLoadings b.K C D) 7) (hS : FCheck b C) (hC : FCorner b C D) (hB : FBelow b) : XF b ["plank", "loadings", "lot", "some", "found", "rows", "place", "prop", "best", "which", "loads", "at", "numbers"] 12 (scOf 52) 3 (bodyOf 52) (spFair b.K C D) := by
  rintro W Ts T ⟨P, wss, R, rfl, rfl, hI, rfl⟩ - Hi0 H0
  have n12 := n_le hI.pok
  have rl := lot_len hI.lot
  refine XB.post (N := fun _ _ => False) ?_ fun _ _ h => h.elim
  refine xb_loads (C := C) (D := D) 3 hL rfl hI (xa_cons (xv 0 rfl rfl rfl) (xa_cons (xv 1 rfl rfl rfl) xa_nil)) fun ls Hi0 H0 h1 h2 => ?_
  have lk := ls_ok (K := b.K) hI h1 h2
  have ll : ls.length = wss.length := by rw [← h1, List.length_map]
  have lm := hI.most
  have l1 := hI.one
  have one : ∀ l ∈ ls, LsOk b.K (chs b.K ls) P [l] := fun l hl => ⟨fun x hx => by rw [List.mem_singleton.mp hx]; exact lk.pl l hl, fun x hx => by rw [List.mem_singleton.mp hx]; exact lk.ok l hl, fun x hx => by rw [List.mem_singleton.mp hx]; exact lk.ch l hl⟩
  refine xb_drop (c := ⟨b, _, 12, chs b.K ls, true⟩) (xe_call hS (xa_cons (xv 0 rfl rfl rfl) (xa_cons (xv 2 rfl rfl rfl) xa_nil)) ⟨P, R, rfl, hI.lot, hI.ne, by omega, rfl⟩) ?_
  refine xb_own 4 (xn_lst xa_nil) fun w => ?_
  refine xb_lcG (F := fun r : List Ans => tLst (r.map (tAns b.K))) (g := rowL P.n R) 5 (xc (xs := ls) (F := tLd b.K C D) [("loads", 10)] [10] (fun l => [tLd b.K C D l]) (fun _ => true) (fun l => tLst ((rowL P.n R l).map (tAns b.K))) (xl_list ls_lst (xv 3 rfl rfl rfl)) (fun l hl => xg_name 10) (fun l hl => xts_nil)
    (fun l hl _ => xe_ix (xe_call hC (xa_cons (xe_lstD (xa_cons (xv 10 rfl rfl rfl) xa_nil)) (xa_cons (xv 2 rfl rfl rfl) xa_nil)) ⟨P, [l], R, rfl, hI.lot, by simp, one l hl, by simp; omega, by omega, rfl⟩) xe_int (ix_at (n := 0) sq_tup rfl rfl)) (by omega)) ?_
  obtain ⟨l0, lr, els⟩ : ∃ l0 lr, ls = l0 :: lr := by
    cases ls with
    | nil => simp at ll; omega
    | cons a r => exact ⟨a, r, rfl⟩
  have vl : ∀ l ∈ ls, ∀ p ∈ R, Bd 400 (ansL P.n [l] (keptL P.n [l] R).2 p).2.1 := fun l hl p hp => by
    show Bd 400 (l.load (kOn P.n (keptL P.n [l] R).2 p))
    exact load_bd1 (lk.ok l hl) (by rw [h2 l hl]; exact (kept_lot _ _ _).tri (kept_keep hI.lot hp))
  refine xb_forL (xs := R.zipIdx) (F := fun q => tTup b.K [tInt (q.2 : Nat), tInt q.1]) (js := [6, 7]) (fun q => [tInt (q.2 : Nat), tInt q.1]) (fun i => [some (tPk b.K C P), some (tLst (wss.map (tWs b.K))), some (tLo b.K R), some (tLs b.K C D ls), some (tRef w), some (tLst ((ls.map (rowL P.n R)).map fun r : List Ans => tLst (r.map (tAns b.K)))), none, none, none, none, none, none, none])
    (fun i => [oLst w (((R.take i).map (fairA P wss R)).map (tAns b.K))]) (xl_enumT B.enumerate tp_tup (xv 2 rfl rfl rfl)) ⟨fun _ _ h => h, fun _ _ h => h, fun _ _ h => h, fun _ _ h => h, fun _ _ h => h, fun _ _ h => h, trivial⟩ rfl (fun q hq => xg_tup (xgs_cons (xg_name 6) (xgs_cons (xg_name 7) xgs_nil)) tp_tup) (fun i q hiq Hi0 H0 => ?_) ?_
  · obtain ⟨p, m⟩ := q
    have hil : i < R.length := by
      have := (List.getElem?_eq_some_iff.mp hiq).1
      simpa using this
    have hz := zipIdx_at i hil
    rw [hz] at hiq
    have epm : (R[i], i) = (p, m) := Option.some.inj hiq
    have ep : R[i] = p := congrArg Prod.fst epm
    have em : i = m := congrArg Prod.snd epm
    subst em
    have hip : R[i]? = some p := by rw [List.getElem?_eq_getElem hil, ep]
    have hpR : p ∈ R := List.mem_of_getElem? hip
    have rowAt : ∀ l : Ld, ((rowL P.n R l).map (tAns b.K))[i]? = some (tAns b.K (ansL P.n [l] (keptL P.n [l] R).2 p)) := fun l => by
      unfold rowL
      rw [List.getElem?_map, List.getElem?_map, hip]; rfl
    have row0 : (((ls.map (rowL P.n R)).map fun r : List Ans => tLst (r.map (tAns b.K))))[0]? = some (tLst ((rowL P.n R l0).map (tAns b.K))) := by rw [els]; rfl
    let vs : List Rat := ls.map fun l => (ansL P.n [l] (keptL P.n [l] R).2 p).2.1
    let v0 : Rat := (ansL P.n [l0] (keptL P.n [l0] R).2 p).2.1
    refine xb_asg 8 (T1 := tFr b.K v0) (xe_ix (xe_ix (xe_ix (xv 5 rfl rfl rfl) xe_int (ix_at (n := 0) sq_lst rfl row0)) (xv 6 rfl rfl rfl) (ix_at (n := i) sq_lst rfl (rowAt l0))) xe_int (ix_at (n := 1) sq_tup rfl rfl)) ?_
    refine xb_asg 9 xe_int ?_
    refine xb_forL (xs := (ls.map (rowL P.n R)).zipIdx) (F := fun q => tTup b.K [tInt (q.2 : Nat), tLst (q.1.map (tAns b.K))]) (js := [11, 12]) (fun q => [tInt (q.2 : Nat), tLst (q.1.map (tAns b.K))]) (fun j => [some (tPk b.K C P), some (tLst (wss.map (tWs b.K))), some (tLo b.K R), some (tLs b.K C D ls), some (tRef w), some (tLst ((ls.map (rowL P.n R)).map fun r : List Ans => tLst (r.map (tAns b.K)))), some (tInt (i : Nat)), some (tInt p), some (tFr b.K ((vs.zipIdx.take j).foldl stp1 (v0, 0)).1), some (tInt (((vs.zipIdx.take j).foldl stp1 (v0, 0)).2 : Nat)), none, none, none])
      (fun j => [oLst w (((R.take i).map (fairA P wss R)).map (tAns b.K))]) (xl_enumL (F := fun r : List Ans => tLst (r.map (tAns b.K))) B.enumerate ls_lst (xv 5 rfl rfl rfl)) ⟨fun _ _ h => h, fun _ _ h => h, fun _ _ h => h, fun _ _ h => h, fun _ _ h => h, fun _ _ h => h, fun _ _ h => h, fun _ _ h => h, fun _ _ h => h, fun _ _ h => h, trivial⟩ rfl (fun q hq => xg_tup (xgs_cons (xg_name 11) (xgs_cons (xg_name 12) xgs_nil)) tp_tup) (fun j q hjq Hi0 H0 => ?_) ?_
    · obtain ⟨r, m⟩ := q
      have hjl : j < ls.length := by
        have := (List.getElem?_eq_some_iff.mp hjq).1
        simpa using this
      have hlj : ls[j]? = some ls[j] := List.getElem?_eq_getElem hjl
      have hml : ls[j] ∈ ls := List.getElem_mem hjl
      have hz2 := zipIdx_at (xs := ls.map (rowL P.n R)) j (by simpa using hjl)
      rw [hz2] at hjq
      have erm : ((ls.map (rowL P.n R))[j]'(by simpa using hjl), j) = (r, m) := Option.some.inj hjq
      have er : rowL P.n R ls[j] = r := by
        have := congrArg Prod.fst erm
        simpa using this
      have em : j = m := congrArg Prod.snd erm
      subst em
      subst er
      have hv : vs.zipIdx[j]? = some ((ansL P.n [ls[j]] (keptL P.n [ls[j]] R).2 p).2.1, j) := by
        show (ls.map fun l => (ansL P.n [l] (keptL P.n [l] R).2 p).2.1).zipIdx[j]? = _
        rw [zipIdx_map, List.getElem?_map, zipIdx_at j hjl]; rfl
      rw [take_snoc hv, List.foldl_append]
      have bdA : Bd 400 ((vs.zipIdx.take j).foldl stp1 (v0, 0)).1 := by
        have : ∀ (xs : List (Rat × Nat)), (∀ x ∈ xs, Bd 400 x.1) → ∀ a : Rat × Nat, Bd 400 a.1 → Bd 400 (xs.foldl stp1 a).1 := by
          intro xs
          induction xs with
          | nil => exact fun _ a ha => ha
          | cons x xs ih =>
            intro hx a ha
            refine ih (fun y hy => hx y (List.mem_cons_of_mem _ hy)) (stp1 a x) ?_
            unfold stp1
            split
            · exact hx x List.mem_cons_self
            · exact ha
        refine this _ (fun x hx => ?_) _ (vl l0 (by rw [els]; exact List.mem_cons_self) p hpR)
        have hx := List.mem_of_mem_take hx
        have hx : x ∈ (ls.map fun l => (ansL P.n [l] (keptL P.n [l] R).2 p).2.1).zipIdx := hx
        rw [zipIdx_map] at hx
        obtain ⟨y, hy, rfl⟩ := List.mem_map.mp hx
        exact vl _ (List.fst_mem_of_mem_zipIdx hy) p hpR
      generalize hacc : (vs.zipIdx.take j).foldl stp1 (v0, 0) = acc at bdA ⊢
      have bdV := vl _ hml p hpR
      show XB _ _ _ _ _ _ (SS _ _ _ [some (tPk b.K C P), some (tLst (wss.map (tWs b.K))), some (tLo b.K R), some (tLs b.K C D ls), some (tRef w), some (tLst ((ls.map (rowL P.n R)).map fun r : List Ans => tLst (r.map (tAns b.K)))), some (tInt (i : Nat)), some (tInt p), some (tFr b.K (stp1 acc ((ansL P.n [ls[j]] (keptL P.n [ls[j]] R).2 p).2.1, j)).1), some (tInt ((stp1 acc ((ansL P.n [ls[j]] (keptL P.n [ls[j]] R).2 p).2.1, j)).2 : Nat)), none, none, none] _) _
      refine xb_if (p := decide (acc.1 < (ansL P.n [ls[j]] (keptL P.n [ls[j]] R).2 p).2.1)) (M := SS (chs b.K ls) Hi0 H0 [some (tPk b.K C P), some (tLst (wss.map (tWs b.K))), some (tLo b.K R), some (tLs b.K C D ls), some (tRef w), some (tLst ((ls.map (rowL P.n R)).map fun r : List Ans => tLst (r.map (tAns b.K)))), some (tInt (i : Nat)), some (tInt p), some (tFr b.K (stp1 acc ((ansL P.n [ls[j]] (keptL P.n [ls[j]] R).2 p).2.1, j)).1), some (tInt ((stp1 acc ((ansL P.n [ls[j]] (keptL P.n [ls[j]] R).2 p).2.1, j)).2 : Nat)), none, none, none] [oLst w (((R.take i).map (fairA P wss R)).map (tAns b.K))])
        (xt_val (xe_call hB (xa_cons (xv 8 rfl rfl rfl) (xa_cons (xe_ix (xe_ix (xv 12 rfl rfl rfl) (xv 6 rfl rfl rfl) (ix_at (n := i) sq_lst rfl (rowAt ls[j]))) xe_int (ix_at (n := 1) sq_tup rfl rfl)) xa_nil)) ⟨_, _, rfl, sm_of bdA, sm_of bdV, rfl⟩)) (fun h => ?_) (fun h => ?_) ?_
      · have h := of_decide_eq_true h
        have e : stp1 acc ((ansL P.n [ls[j]] (keptL P.n [ls[j]] R).2 p).2.1, j) = ((ansL P.n [ls[j]] (keptL P.n [ls[j]] R).2 p).2.1, j) := by unfold stp1; rw [if_pos h]
        rw [e]
        refine xb_par 8 9 (xe_ix (xe_ix (xv 12 rfl rfl rfl) (xv 6 rfl rfl rfl) (ix_at (n := i) sq_lst rfl (rowAt ls[j]))) xe_int (ix_at (n := 1) sq_tup rfl rfl)) (xv 11 rfl rfl rfl) ?_ rfl rfl (by decide) rfl rfl (by intro _; rfl) (by intro _; rfl) sw2
        exact xb_end ⟨fun _ _ h => h, fun _ _ h => h, fun _ _ h => h, fun _ _ h => h, fun _ _ h => h, fun _ _ h => h, fun _ _ h => h, fun _ _ h => h, fun _ _ h => h, fun _ _ h => h, trivial⟩
      · have h := of_decide_eq_false h
        have e : stp1 acc ((ansL P.n [ls[j]] (keptL P.n [ls[j]] R).2 p).2.1, j) = acc := by unfold stp1; rw [if_neg h]
        rw [e]
        exact xb_end ⟨fun _ _ h => h, fun _ _ h => h, fun _ _ h => h, fun _ _ h => h, fun _ _ h => h, fun _ _ h => h, fun _ _ h => h, fun _ _ h => h, fun _ _ h => h, fun _ _ h => h, trivial⟩
      · exact xb_end ⟨fun _ _ h => h, fun _ _ h => h, fun _ _ h => h, fun _ _ h => h, fun _ _ h => h, fun _ _ h => h, fun _ _ h => h, fun _ _ h => h, fun _ _ h => h, fun _ _ h => h, trivial⟩
    · have e1 : vs.zipIdx.take (ls.map (rowL P.n R)).zipIdx.length = vs.zipIdx := List.take_of_length_le (by show (ls.map fun l => (ansL P.n [l] (keptL P.n [l] R).2 p).2.1).zipIdx.length ≤ _; simp)
      have e2 : vs.zipIdx.foldl stp1 (v0, 0) = bst (fairV P wss R p) := by
        have ev : vs = fairV P wss R p := by
          show (ls.map fun l => (ansL P.n [l] (keptL P.n [l] R).2 p).2.1) = _
          unfold fairV
          rw [← h1, List.map_map]
          refine List.map_congr_left fun l hl => ?_
          show l.load (kOn P.n (keptL P.n [l] R).2 p) = loadOf P.sh l.ws (kOn P.n (keptW P [l.ws] R).2 p)
          rw [kept_W (P := P) (ls := [l]) (fun x hx => by rw [List.mem_singleton.mp hx]; exact h2 l hl)]
          show loadOf l.P.sh l.ws _ = _
          rw [h2 l hl]
          rfl
        have ev0 : vs = v0 :: (lr.map fun l => (ansL P.n [l] (keptL P.n [l] R).2 p).2.1) := by
          show (ls.map fun l => (ansL P.n [l] (keptL P.n [l] R).2 p).2.1) = _
          rw [els]; rfl
        rw [← ev, ev0]
        exact bst_1 _ _
      rw [e1, e2]
      refine xb_app 0 (xv 4 rfl rfl rfl) (xe_tp (xa_cons (xv 7 rfl rfl rfl) (xa_cons (xv 8 rfl rfl rfl) (xa_cons (xv 9 rfl rfl rfl) xa_nil)))) rfl (by rw [List.length_map, List.length_map, List.length_take]; omega) ?_
      rw [take_snoc hip, List.map_append, List.map_append]
      exact xb_end ⟨fun _ _ h => h, fun _ _ h => h, fun _ _ h => h, fun _ _ h => h, fun _ _ h => h, fun _ _ h => h, trivial⟩
  · refine xb_seal 4 rfl seal_lst ?_
    rw [List.length_zipIdx, List.take_length]
    exact xb_retE (xv 4 rfl rfl rfl)
end Pf

set_option maxHeartbeats 4000000
namespace Pf
open PySem PySem.Spec PyProof.Rows L2 Lg Ra
/-! ### the law's numbers -/
def cellF (ns : List Int) (k : Nat) : Int := if k < ns.length then ns.getD k 0 else 3 * k + 1
theorem dg_at {ds : List Int} {i : Nat} (h : i < ds.length) : (ds.map tInt)[i]? = some (tInt (ds.getD i 0)) := by
  rw [List.getElem?_map, List.getD_eq_getElem?_getD, List.getElem?_eq_getElem h]; rfl
def spCell (K : PySem.W.Frag) : FS := fun _ Ts T => ∃ (ns : List Int) (k : Nat), Ts = [tSq K (ns.map tInt), tInt (k : Int)] ∧ k ≤ 1000 ∧ T = tInt (cellF ns k)
abbrev FCell (b : Bs) : Prop := FnAt b "_law_cell" 2 (spOf 2 (spCell b.K)) 1
theorem xf_cell {b : Bs} (B : Bt b) : XF b ["_law_script", "_law_k"] 0 (scOf 55) 2 (bodyOf 55) (spCell b.K) := by
  rintro W Ts T ⟨ns, k, rfl, hk, rfl⟩ - Hi0 H0
  refine xb_ifret (xt_cmp (xv 1 rfl rfl rfl) (xe_blt B.len (xa_cons (xv 0 rfl rfl rfl) xa_nil) (cb_len sq_sq)) cm_lt) (fun h => ?_) (fun h => ?_)
  · have h : k < ns.length := by have := of_decide_eq_true h; rw [List.length_map] at this; omega
    refine xb_retE (XE.eq (xe_ix (xv 0 rfl rfl rfl) (xv 1 rfl rfl rfl) (ix_at (n := k) sq_sq rfl (dg_at h))) ?_)
    unfold cellF; rw [if_pos h]
  · have h : ¬ k < ns.length := by have := of_decide_eq_false h; rw [List.length_map] at this; omega
    have hk2 : ((k : Nat) : Int).natAbs < 2 ^ 10 := by
      have : (2 : Nat) ^ 10 = 1024 := by decide
      omega
    refine xb_retE (XE.eq (xe_bin (xe_bin xe_int (xv 1 rfl rfl rfl) (ok_mul (mulW (n := 2) (m := 10) (by decide) hk2))) xe_int ok_add) ?_)
    unfold cellF; rw [if_neg h]
abbrev n1F (num : Int) (k : Nat) : Int := (num * 69621 + 40503 * k + 17) % 2147483629
abbrev n2F (num : Int) (k : Nat) : Int := (n1F num k * (n1F num k / 907 + 30011)) % 2147483587
def dgS (cell : Int) : Nat → Int × Int × List Int
  | 0 => (if 10 ^ 18 ≤ cell then cell else 0, cell % 2147483629, [])
  | i + 1 => let s := dgS cell i
    if 0 < s.1 then (s.1 / 1009, n2F s.2.1 i, s.2.2 ++ [s.1 % 1009]) else (s.1, n2F s.2.1 i, s.2.2 ++ [n2F s.2.1 i / 11 % 1009])
theorem dgS_succ (cell : Int) (i : Nat) : dgS cell (i + 1) = if 0 < (dgS cell i).1 then ((dgS cell i).1 / 1009, n2F (dgS cell i).2.1 i, (dgS cell i).2.2 ++ [(dgS cell i).1 % 1009]) else ((dgS cell i).1, n2F (dgS cell i).2.1 i, (dgS cell i).2.2 ++ [n2F (dgS cell i).2.1 i / 11 % 1009]) := rfl
theorem dgS_num (cell : Int) (i : Nat) : 0 ≤ (dgS cell i).2.1 ∧ (dgS cell i).2.1 < 2147483648 := by
  cases i with
  | zero => exact ⟨Int.emod_nonneg _ (by decide), Int.lt_trans (Int.emod_lt_of_pos _ (by decide)) (by decide)⟩
  | succ i =>
    have : (dgS cell (i + 1)).2.1 = n2F (dgS cell i).2.1 i := by
      rw [dgS_succ]
      split <;> rfl
    rw [this]
    exact ⟨Int.emod_nonneg _ (by decide), Int.lt_trans (Int.emod_lt_of_pos _ (by decide)) (by decide)⟩
theorem dgS_len (cell : Int) : ∀ i, (dgS cell i).2.2.length = i
  | 0 => rfl
  | i + 1 => by
    have ih := dgS_len cell i
    rw [dgS_succ]
    split <;> simp [ih]
def digF (cell : Int) (wanted : Nat) : List Int := (dgS cell wanted).2.2
theorem digF_len (cell : Int) (n : Nat) : (digF cell n).length = n := dgS_len cell n
theorem n1_bd (num : Int) (k : Nat) : 0 ≤ n1F num k ∧ n1F num k < 2147483648 := ⟨Int.emod_nonneg _ (by decide), Int.lt_trans (Int.emod_lt_of_pos _ (by decide)) (by decide)⟩
theorem abs_lt {i : Int} {n : Nat} (h0 : 0 ≤ i) (h : i < (2 ^ n : Nat)) : i.natAbs < 2 ^ n := by omega
def spDigits (K : PySem.W.Frag) : FS := fun _ Ts T => ∃ (cell : Int) (n : Nat), Ts = [tInt cell, tInt (n : Int)] ∧ n ≤ 1000 ∧ T = tLst ((digF cell n).map tInt)
abbrev FDigits (b : Bs) : Prop := FnAt b "_law_digits" 2 (spOf 2 (spDigits b.K)) 1
theorem xf_digits {b : Bs} (B : Bt b) : XF b ["_law_cell_here", "_law_wanted", "_law_found", "_law_rest", "_law_number", "_law_k"] 0 (scOf 56) 2 (bodyOf 56) (spDigits b.K) := by
  rintro W Ts T ⟨cell, n, rfl, hn, rfl⟩ - Hi0 H0
  refine xb_own 2 (xn_lst xa_nil) fun w => ?_
  refine xb_asg 3 xe_int ?_
  refine xb_if (p := decide ((10 : Int) ^ (18 : Int).toNat ≤ cell)) (M := SS W Hi0 H0 [some (tInt cell), some (tInt (n : Int)), some (tRef w), some (tInt (dgS cell 0).1), none, none] [oLst w []]) (xt_cmp (xv 0 rfl rfl rfl) (xe_bin xe_int xe_int (ok_pow ⟨by decide, by decide, by decide⟩)) cm_ge) (fun h => ?_) (fun h => ?_) ?_
  · have h : (10 : Int) ^ 18 ≤ cell := of_decide_eq_true h
    refine xb_asg 3 (xv 0 rfl rfl rfl) (xb_end ⟨fun _ _ h => h, fun _ _ h => h, fun _ _ h => h, fun v H q => ?_, trivial⟩)
    have e : (dgS cell 0).1 = cell := by unfold dgS; exact if_pos h
    rw [e]; exact q
  · have h : ¬ (10 : Int) ^ 18 ≤ cell := of_decide_eq_false h
    refine xb_end ⟨fun _ _ h => h, fun _ _ h => h, fun _ _ h => h, fun v H q => ?_, trivial⟩
    have e : (dgS cell 0).1 = 0 := by unfold dgS; exact if_neg h
    rw [e]; exact q
  refine xb_asg 4 (xe_bin (xe_bty B.int (xa_cons (xv 0 rfl rfl rfl) xa_nil) cb_int) xe_int (ok_mod (by decide))) ?_
  refine xb_forL (xs := rgI n) (F := tInt) (js := [5]) (fun k => [tInt k]) (fun i => [some (tInt cell), some (tInt (n : Int)), some (tRef w), some (tInt (dgS cell i).1), some (tInt (dgS cell i).2.1), none]) (fun i => [oLst w ((dgS cell i).2.2.map tInt)]) (xl_rg1 B.range (xv 1 rfl rfl rfl) (by omega)) ⟨fun _ _ h => h, fun _ _ h => h, fun _ _ h => h, fun _ _ h => h, fun _ _ h => h, trivial⟩ rfl (fun k hk => xg_name 5) (fun i k hik Hi0 H0 => ?_) ?_
  · have hil : i < n := by have := (List.getElem?_eq_some_iff.mp hik).1; rwa [rgI_len] at this
    rw [rgI_at hil] at hik
    have ek : (i : Int) = k := Option.some.inj hik
    subst ek
    have nb := dgS_num cell i
    have n1 := n1_bd (dgS cell i).2.1 i
    have q1 : (dgS cell i).2.1.natAbs < 2 ^ 31 := abs_lt nb.1 nb.2
    have q2 : (n1F (dgS cell i).2.1 i).natAbs < 2 ^ 31 := abs_lt n1.1 n1.2
    have q3 : (n1F (dgS cell i).2.1 i / 907 + 30011).natAbs < 2 ^ 32 := by
      have a1 : n1F (dgS cell i).2.1 i / 907 ≤ n1F (dgS cell i).2.1 i := Int.ediv_le_self _ n1.1
      have a2 : 0 ≤ n1F (dgS cell i).2.1 i / 907 := Int.ediv_nonneg n1.1 (by decide)
      refine abs_lt (by omega) ?_
      have : ((2 ^ 32 : Nat) : Int) = 4294967296 := by decide
      omega
    have q4 : ((i : Nat) : Int).natAbs < 2 ^ 10 := by
      have : (2 : Nat) ^ 10 = 1024 := by decide
      omega
    have dv : ∀ (x j : Int), 0 < j → j.natAbs < 2 ^ 20 → CDivW x j := fun x j h1 h2 => wide_div h1 h2 (by decide) (by decide)
    refine xb_asg 4 (T1 := tInt (n1F (dgS cell i).2.1 i)) (xe_bin (xe_bty B.int (xa_cons (xe_bin (xe_bin (xe_bin (xv 4 rfl rfl rfl) xe_int (ok_mul (mulW (m := 17) q1 (by decide)))) (xe_bin xe_int (xv 5 rfl rfl rfl) (ok_mul (mulW (n := 16) (by decide) q4))) ok_add) xe_int ok_add) xa_nil) cb_int) xe_int (ok_mod (by decide))) ?_
    refine xb_asg 4 (T1 := tInt (n2F (dgS cell i).2.1 i)) (xe_bin (xe_bty B.int (xa_cons (xe_bin (xv 4 rfl rfl rfl) (xe_bin (xe_bin (xv 4 rfl rfl rfl) xe_int (ok_div (dv _ _ (by decide) (by decide)))) xe_int ok_add) (ok_mul (mulW q2 q3))) xa_nil) cb_int) xe_int (ok_mod (by decide))) ?_
    have ll : (dgS cell i).2.2.length < 100000 := by rw [dgS_len]; omega
    refine xb_if (p := decide (0 < (dgS cell i).1)) (M := SS W Hi0 H0 [some (tInt cell), some (tInt (n : Int)), some (tRef w), some (tInt (dgS cell (i + 1)).1), some (tInt (dgS cell (i + 1)).2.1), none] [oLst w ((dgS cell (i + 1)).2.2.map tInt)]) (xt_cmp (xv 3 rfl rfl rfl) xe_int cm_gt) (fun h => ?_) (fun h => ?_) (xb_end (GLe.refl _))
    · have h : 0 < (dgS cell i).1 := of_decide_eq_true h
      have e : dgS cell (i + 1) = ((dgS cell i).1 / 1009, n2F (dgS cell i).2.1 i, (dgS cell i).2.2 ++ [(dgS cell i).1 % 1009]) := by
        rw [dgS_succ, if_pos h]
      rw [e]
      refine xb_app 0 (xv 2 rfl rfl rfl) (xe_bin (xe_bty B.int (xa_cons (xv 3 rfl rfl rfl) xa_nil) cb_int) xe_int (ok_mod (by decide))) rfl (by rw [List.length_map]; exact ll) ?_
      refine xb_asg 3 (xe_bin (xv 3 rfl rfl rfl) xe_int (ok_div (dv _ _ (by decide) (by decide)))) ?_
      rw [List.map_append]
      exact xb_end ⟨fun _ _ h => h, fun _ _ h => h, fun _ _ h => h, fun _ _ h => h, fun _ _ h => h, trivial⟩
    · have h : ¬ 0 < (dgS cell i).1 := of_decide_eq_false h
      have e : dgS cell (i + 1) = ((dgS cell i).1, n2F (dgS cell i).2.1 i, (dgS cell i).2.2 ++ [n2F (dgS cell i).2.1 i / 11 % 1009]) := by
        rw [dgS_succ, if_neg h]
      rw [e]
      refine xb_app 0 (xv 2 rfl rfl rfl) (xe_bin (xe_bty B.int (xa_cons (xe_bin (xv 4 rfl rfl rfl) xe_int (ok_div (dv _ _ (by decide) (by decide)))) xa_nil) cb_int) xe_int (ok_mod (by decide))) rfl (by rw [List.length_map]; exact ll) ?_
      rw [List.map_append]
      exact xb_end ⟨fun _ _ h => h, fun _ _ h => h, fun _ _ h => h, fun _ _ h => h, fun _ _ h => h, trivial⟩
  · refine xb_seal 2 rfl seal_lst ?_
    rw [rgI_len]
    exact xb_retE (xv 2 rfl rfl rfl)
/-! ### the law's fractions -/
abbrev FLCut (b : Bs) : Prop := FnAt b "_law_cut" 2 (spOf 2 (spCut b.K)) 1
theorem xf_lcut {b : Bs} (B : Bt b) : XF b ["_law_top", "_law_bottom", "_law_one", "_law_other"] 0 (scOf 57) 2 (bodyOf 57) (spCut b.K) := by
  rintro W Ts T ⟨t, d, rfl, h0, h1, rfl⟩ - Hi0 H0
  refine xb_par 2 3 (xe_blt B.abs (xa_cons (xv 0 rfl rfl rfl) xa_nil) cb_abs) (xv 1 rfl rfl rfl) ?_ rfl rfl (by decide) rfl rfl (by intro _; rfl) (by intro _; rfl) sw2
  refine xb_while (α := { p : Nat × Nat // Nat.gcd p.1 p.2 = Nat.gcd t.natAbs d }) (fun x => [some (tInt t), some (tInt (d : Int)), some (tInt (x.1.1 : Int)), some (tInt (x.1.2 : Int))]) (fun _ => []) (fun x => x.1.2) (fun x => decide ((0 : Int) < (x.1.2 : Int))) ⟨(t.natAbs, d), rfl⟩ (GLe.refl _) rfl (fun x => xt_cmp (xv 3 rfl rfl rfl) xe_int cm_gt) (fun x h => ?_) (fun x h => ?_)
  · obtain ⟨⟨p, q⟩, hx⟩ := x
    have hq : 0 < q := by have := of_decide_eq_true h; have : (0 : Int) < ((q : Nat) : Int) := this; omega
    refine xb_par 2 3 (xv 3 rfl rfl rfl) (xe_bin (xe_bty B.int (xa_cons (xv 2 rfl rfl rfl) xa_nil) cb_int) (xv 3 rfl rfl rfl) (ok_mod (by show (0 : Int) < ((q : Nat) : Int); omega))) ?_ rfl rfl (by decide) rfl rfl (by intro _; rfl) (by intro _; rfl) sw2
    refine xb_nil fun σ H s => ⟨⟨(q, p % q), ?_⟩, Nat.mod_lt _ hq, s⟩
    rw [← hx]
    show Nat.gcd q (p % q) = Nat.gcd p q
    rw [Nat.gcd_comm p q, Nat.gcd_rec q p, Nat.gcd_comm]
  · obtain ⟨⟨p, q⟩, hx⟩ := x
    have hq : q = 0 := by have := of_decide_eq_false h; have : ¬ (0 : Int) < ((q : Nat) : Int) := this; omega
    subst hq
    have e : p = Nat.gcd t.natAbs d := by rw [← hx]; exact (Nat.gcd_zero_right p).symm
    subst e
    exact xb_retE (XE.eq (xe_tp (xa_cons (xe_bin (xv 0 rfl rfl rfl) (xv 2 rfl rfl rfl) (ok_div (divG h0 h1))) (xa_cons (xe_bin (xv 1 rfl rfl rfl) (xv 2 rfl rfl rfl) (ok_div (divG h0 h1))) xa_nil))) (tFr_mk b.K t d h0))
abbrev FLPlus (b : Bs) : Prop := FnAt b "_law_plus" 2 (spOf 2 (spPlus b.K)) 2
abbrev FLMinus (b : Bs) : Prop := FnAt b "_law_minus" 2 (spOf 2 (spLess b.K)) 2
abbrev FLBy (b : Bs) : Prop := FnAt b "_law_by" 2 (spOf 2 (spTimes b.K)) 2
abbrev FLBelow (b : Bs) : Prop := FnAt b "_law_is_below" 2 (spOf 2 (spBelow b.K)) 1
theorem xf_lplus {b : Bs} (hC : FLCut b) : XF b ["_law_one", "_law_other"] 1 (scOf 58) 2 (bodyOf 58) (spPlus b.K) := by
  rintro W Ts T ⟨p, q, rfl, hp, hq, rfl⟩ - Hi0 H0
  refine xb_retE (XE.eq (xe_call hC (xa_cons (xe_bin (xe_bin (fN (xv 0 rfl rfl rfl)) (fD (xv 1 rfl rfl rfl)) (ok_mul (smND hp hq))) (xe_bin (fN (xv 1 rfl rfl rfl)) (fD (xv 0 rfl rfl rfl)) (ok_mul (smND hq hp))) ok_add)
    (xa_cons ((xe_bin (fD (xv 0 rfl rfl rfl)) (fD (xv 1 rfl rfl rfl)) (ok_mul (smDD hp hq))).eq (congrArg tInt (dd_cast p q))) xa_nil)) ⟨_, _, rfl, dd_nz p q, dd_sm hp hq, rfl⟩) (congrArg (tFr b.K) (Rat.add_def' p q).symm))
theorem xf_lminus {b : Bs} (hC : FLCut b) : XF b ["_law_one", "_law_other"] 1 (scOf 59) 2 (bodyOf 59) (spLess b.K) := by
  rintro W Ts T ⟨p, q, rfl, hp, hq, rfl⟩ - Hi0 H0
  refine xb_retE (XE.eq (xe_call hC (xa_cons (xe_bin (xe_bin (fN (xv 0 rfl rfl rfl)) (fD (xv 1 rfl rfl rfl)) (ok_mul (smND hp hq))) (xe_bin (fN (xv 1 rfl rfl rfl)) (fD (xv 0 rfl rfl rfl)) (ok_mul (smND hq hp))) ok_sub)
    (xa_cons ((xe_bin (fD (xv 0 rfl rfl rfl)) (fD (xv 1 rfl rfl rfl)) (ok_mul (smDD hp hq))).eq (congrArg tInt (dd_cast p q))) xa_nil)) ⟨_, _, rfl, dd_nz p q, dd_sm hp hq, rfl⟩) (congrArg (tFr b.K) (Rat.sub_def' p q).symm))
theorem xf_lby {b : Bs} (hC : FLCut b) : XF b ["_law_one", "_law_other"] 1 (scOf 60) 2 (bodyOf 60) (spTimes b.K) := by
  rintro W Ts T ⟨p, q, rfl, hp, hq, rfl⟩ - Hi0 H0
  refine xb_retE (XE.eq (xe_call hC (xa_cons (xe_bin (fN (xv 0 rfl rfl rfl)) (fN (xv 1 rfl rfl rfl)) (ok_mul (smNN hp hq)))
    (xa_cons ((xe_bin (fD (xv 0 rfl rfl rfl)) (fD (xv 1 rfl rfl rfl)) (ok_mul (smDD hp hq))).eq (congrArg tInt (dd_cast p q))) xa_nil)) ⟨_, _, rfl, dd_nz p q, dd_sm hp hq, rfl⟩) (congrArg (tFr b.K) (Rat.mul_def' p q).symm))
theorem xf_lbelow {b : Bs} : XF b ["_law_one", "_law_other"] 0 (scOf 62) 2 (bodyOf 62) (spBelow b.K) := by
  rintro W Ts T ⟨p, q, rfl, hp, hq, rfl⟩ - Hi0 H0
  exact xb_retE (XE.eq (xe_cmp (xe_bin (fN (xv 0 rfl rfl rfl)) (fD (xv 1 rfl rfl rfl)) (ok_mul (smND hp hq))) (xe_bin (fN (xv 1 rfl rfl rfl)) (fD (xv 0 rfl rfl rfl)) (ok_mul (smND hq hp))) cm_lt) (congrArg tBl (decide_eq_decide.mpr (Rat.lt_iff p q).symm)))
end Pf

set_option maxHeartbeats 4000000
namespace Pf
open PySem PySem.Spec PyProof.Rows L2 Lg Ra
/-! ### the law's world, shares, loads -/
structure WdK (Tw : Ty) (L : Int) (sp : List Int) : Prop where
  long : DgK Tw (tStr "long") (tInt L)
  spots : DgK Tw (tStr "spots") (tLst (sp.map tInt))
def shW (L : Int) (sp : List Int) (k : Tr) (s : Rat) : Rat := shr (plc L sp k.1) (plc L sp k.2.1) (plc L sp k.2.2) s
def pls (L : Int) (sp : List Int) : List Int := 0 :: (sp ++ [L])
theorem pls_at {L : Int} {sp : List Int} {r : Int} (h1 : -1 ≤ r) (h2 : r ≤ sp.length) : ((pls L sp).map tInt)[(r + 1).toNat]? = some (tInt (plc L sp r)) :=
  dg_at (by unfold pls; simp; omega)
/-- a key's type: a tuple of three numbers -/
abbrev KyK (K : PySem.W.Frag) (Tk : Ty) (k : Tr) : Prop := TpK K Tk ([k.1, k.2.1, k.2.2].map tInt)
theorem tFr_i {K : PySem.W.Frag} {i : Int} : tTup K [tInt i, tInt 1] = tFr K (i : Rat) := rfl
def spLShare (K : PySem.W.Frag) : FS := fun _ Ts T => ∃ (Tw Tk : Ty) (L : Int) (sp : List Int) (k : Tr) (s : Rat), Ts = [Tw, Tk, tFr K s] ∧ WdK Tw L sp ∧ KyK K Tk k ∧ Tri sp.length k ∧ Rise L sp ∧ Bd 20 s ∧ sp.length ≤ 1000 ∧ T = tFr K (shW L sp k s)
abbrev FLShare (b : Bs) : Prop := FnAt b "_law_share" 3 (spOf 3 (spLShare b.K)) 2
theorem den_lt {n m : Nat} {q : Rat} {d : Int} (h : Bd n q) (h1 : Bd m (d : Rat)) (l : n + m ≤ 8000) : q.den * d.toNat < 2 ^ 8000 := by
  have h2 : d.natAbs < 2 ^ m := h1.1
  have h3 : d.toNat ≤ d.natAbs := by omega
  exact Nat.lt_of_lt_of_le (mul_lt h.2 (Nat.lt_of_le_of_lt h3 h2)) (Nat.pow_le_pow_right (by decide) l)
theorem xf_lshare {b : Bs} (hC : FLCut b) (hB : FLBelow b) : XF b ["_law_world_here", "_law_key", "_law_spot", "_law_places", "_law_low", "_law_here", "_law_high", "_law_rest"] 1 (scOf 63) 3 (bodyOf 63) (spLShare b.K) := by
  rintro W Ts T ⟨Tw, Tk, L, sp, ⟨lf, p, r⟩, s, rfl, wk, kk, ⟨t1, t2, t3, t4⟩, rs, hs, hl, rfl⟩ - Hi0 H0
  simp only at t1 t2 t3 t4
  have l1 : plc L sp lf < plc L sp p := rs.lt lf p t1 t2 (by omega)
  have l2 : plc L sp p < plc L sp r := rs.lt p r (by omega) t3 (by omega)
  have b1 := bd_place (rs.ge lf t1 (by omega)) rs.L1
  have b2 := bd_place (rs.ge p (by omega) (by omega)) rs.L1
  have b3 := bd_place (rs.ge r (by omega) t4) rs.L1
  have c1 : (plc L sp lf).natAbs < 2 ^ 10 := b1.1
  have c2 : (plc L sp p).natAbs < 2 ^ 10 := b2.1
  have c3 : (plc L sp r).natAbs < 2 ^ 10 := b3.1
  refine xb_asg 3 (T1 := tLst ((pls L sp).map tInt)) (XE.eq (xe_bin (xe_bin (xe_lstD (xa_cons xe_int xa_nil)) (xe_dget wk.spots (xv 0 rfl rfl rfl) xe_str) (ok_catL (by simp; omega))) (xe_lstD (xa_cons (xe_dget wk.long (xv 0 rfl rfl rfl) xe_str) xa_nil)) (ok_catL (by simp; omega))) (by unfold pls; simp)) ?_
  refine xb_unp (js := [4, 5, 6]) (Ts := [tInt (plc L sp lf), tInt (plc L sp p), tInt (plc L sp r)]) (T1 := tLst (([lf, p, r].map (plc L sp)).map tInt)) (xe_lcG (F := tInt) (g := plc L sp) (xc (xs := [lf, p, r]) (F := tInt) [("_law_rest", 7)] [7] (fun q => [tInt q]) (fun _ => true) (fun q => tInt (plc L sp q)) (xl_tup kk (xv 1 rfl rfl rfl)) (fun q hq => xg_name 7) (fun q hq => xts_nil)
    (fun q hq _ => by
      have hq' : -1 ≤ q ∧ q ≤ sp.length := by
        have : q = lf ∨ q = p ∨ q = r := by simpa using hq
        omega
      exact xe_ix (xv 3 rfl rfl rfl) (xe_bin (xv 7 rfl rfl rfl) xe_int ok_add) (ix_at (n := (q + 1).toNat) sq_lst (by omega) (pls_at hq'.1 hq'.2))) (by simp))) (xg_unl (xgs_cons (xg_name 4) (xgs_cons (xg_name 5) (xgs_cons (xg_name 6) xgs_nil))) ls_lst) ?_
  refine xb_ifret (xt_w (xw_and (xt_val (xe_call hB (xa_cons (fr_int (xe_tp (xa_cons (xv 4 rfl rfl rfl) (xa_cons xe_int xa_nil)))) (xa_cons (xv 2 rfl rfl rfl) xa_nil)) ⟨_, _, rfl, sm_of b1, sm_of hs, rfl⟩)) fun h => (xw_and1 (xt_not (xt_val (xe_call hB (xa_cons (fr_int (xe_tp (xa_cons (xv 5 rfl rfl rfl) (xa_cons xe_int xa_nil)))) (xa_cons (xv 2 rfl rfl rfl) xa_nil)) ⟨_, _, rfl, sm_of b2, sm_of hs, rfl⟩)))))) (fun h => ?_) (fun h => ?_)
  · have h : ((plc L sp lf : Int) : Rat) < s ∧ ¬ ((plc L sp p : Int) : Rat) < s := by simpa using h
    have e2 : (s.den : Int) * (plc L sp p - plc L sp lf) = ((s.den * (plc L sp p - plc L sp lf).toNat : Nat) : Int) := by
      rw [Int.natCast_mul]
      congr 1
      omega
    have bd : Bd 21 ((plc L sp p - plc L sp lf : Int) : Rat) := by rw [Rat.intCast_sub]; exact b2.sub b1
    have cd : (plc L sp p - plc L sp lf).natAbs < 2 ^ 21 := bd.1
    refine xb_retE (XE.eq (xe_call hC (xa_cons (xe_bin (fN (xv 2 rfl rfl rfl)) (xe_bin (xv 4 rfl rfl rfl) (fD (xv 2 rfl rfl rfl)) (ok_mul (mulW c1 (m := 20) hs.2))) ok_sub) (xa_cons (XE.eq (xe_bin (fD (xv 2 rfl rfl rfl)) (xe_bin (xv 5 rfl rfl rfl) (xv 4 rfl rfl rfl) ok_sub) (ok_mul (mulW (n := 20) hs.2 cd))) (congrArg tInt e2)) xa_nil)) ⟨_, _, rfl, Nat.mul_ne_zero s.den_nz (by omega), den_lt hs bd (by decide), rfl⟩) ?_)
    rw [share_mk s (plc L sp lf) (plc L sp p - plc L sp lf) (by omega)]
    unfold shW shr
    rw [if_pos ⟨h.1, Rat.not_lt.mp h.2⟩]
  have h : ¬ (((plc L sp lf : Int) : Rat) < s ∧ s ≤ ((plc L sp p : Int) : Rat)) := by
    intro z
    have z2 : ¬ ((plc L sp p : Int) : Rat) < s := Rat.not_lt.mpr z.2
    simp [z.1, z2] at h
  refine xb_ifret (xt_w (xw_and (xt_val (xe_call hB (xa_cons (fr_int (xe_tp (xa_cons (xv 5 rfl rfl rfl) (xa_cons xe_int xa_nil)))) (xa_cons (xv 2 rfl rfl rfl) xa_nil)) ⟨_, _, rfl, sm_of b2, sm_of hs, rfl⟩)) fun h => (xw_and1 (xt_val (xe_call hB (xa_cons (xv 2 rfl rfl rfl) (xa_cons (fr_int (xe_tp (xa_cons (xv 6 rfl rfl rfl) (xa_cons xe_int xa_nil)))) xa_nil)) ⟨_, _, rfl, sm_of hs, sm_of b3, rfl⟩))))) (fun h2 => ?_) (fun h2 => ?_)
  · have h2 : ((plc L sp p : Int) : Rat) < s ∧ s < ((plc L sp r : Int) : Rat) := by simpa using h2
    have e2 : (s.den : Int) * (plc L sp r - plc L sp p) = ((s.den * (plc L sp r - plc L sp p).toNat : Nat) : Int) := by
      rw [Int.natCast_mul]
      congr 1
      omega
    have bd : Bd 21 ((plc L sp r - plc L sp p : Int) : Rat) := by rw [Rat.intCast_sub]; exact b3.sub b2
    have cd : (plc L sp r - plc L sp p).natAbs < 2 ^ 21 := bd.1
    refine xb_retE (XE.eq (xe_call hC (xa_cons (xe_bin (xe_bin (xv 6 rfl rfl rfl) (fD (xv 2 rfl rfl rfl)) (ok_mul (mulW c3 (m := 20) hs.2))) (fN (xv 2 rfl rfl rfl)) ok_sub) (xa_cons (XE.eq (xe_bin (fD (xv 2 rfl rfl rfl)) (xe_bin (xv 6 rfl rfl rfl) (xv 5 rfl rfl rfl) ok_sub) (ok_mul (mulW (n := 20) hs.2 cd))) (congrArg tInt e2)) xa_nil)) ⟨_, _, rfl, Nat.mul_ne_zero s.den_nz (by omega), den_lt hs bd (by decide), rfl⟩) ?_)
    rw [share_mk2 s (plc L sp r) (plc L sp r - plc L sp p) (by omega)]
    unfold shW shr
    rw [if_neg h, if_pos h2]
  · have h2 : ¬ (((plc L sp p : Int) : Rat) < s ∧ s < ((plc L sp r : Int) : Rat)) := by
      intro z
      simp [z.1, z.2] at h2
    refine xb_retE (XE.eq (xe_tp (xa_cons xe_int (xa_cons xe_int xa_nil))) ?_)
    unfold shW shr
    rw [if_neg h, if_neg h2]
    rfl
/-- weights as the law has them -/
structure HvOk (ws : Wts) : Prop where
  few : ws.length ≤ 5
  bd : ∀ w ∈ ws, Bd 20 w.1 ∧ Bd 20 w.2
theorem shW_bd {L : Int} {sp : List Int} {k : Tr} {n : Nat} {s : Rat} (rs : Rise L sp) (t : Tri sp.length k) (hs : Bd n s) : Bd (n + 32) (shW L sp k s) := by
  obtain ⟨t1, t2, t3, t4⟩ := t
  exact shr_bd hs (bd_place (rs.ge _ t1 (by omega)) rs.L1) (bd_place (rs.ge _ (by omega) (by omega)) rs.L1) (bd_place (rs.ge _ (by omega) t4) rs.L1) (rs.lt _ _ t1 t2 (by omega)) (rs.lt _ _ (by omega) t3 (by omega))
theorem lterm_bd {L : Int} {sp : List Int} {k : Tr} {ws : Wts} (rs : Rise L sp) (t : Tri sp.length k) (h : HvOk ws) {w : Rat × Rat} (hw : w ∈ ws) : Bd 72 (w.2 * shW L sp k w.1) := (h.bd w hw).2.mul (shW_bd rs t (h.bd w hw).1)
theorem lload_bd {L : Int} {sp : List Int} {k : Tr} {ws : Wts} (rs : Rise L sp) (t : Tri sp.length k) (h : HvOk ws) (i : Nat) : Bd 400 (sumF ((ws.map fun w => w.2 * shW L sp k w.1).take i)) := by
  refine (sum_bd (n := 72) fun x hx => ?_).mono ?_
  · obtain ⟨w, hw, rfl⟩ := List.mem_map.mp (List.mem_of_mem_take hx)
    exact lterm_bd rs t h hw
  · have := h.few
    have h2 : ((ws.map fun w => w.2 * shW L sp k w.1).take i).length ≤ 5 := by rw [List.length_take, List.length_map]; omega
    have := Nat.mul_le_mul_right 73 h2
    omega
theorem lload_bd1 {L : Int} {sp : List Int} {k : Tr} {ws : Wts} (rs : Rise L sp) (t : Tri sp.length k) (h : HvOk ws) : Bd 400 (loadOf (shW L sp) ws k) := by
  have := lload_bd rs t h (ws.map fun w => w.2 * shW L sp k w.1).length
  rw [List.take_length] at this
  exact this
def spLLoad (K : PySem.W.Frag) : FS := fun _ Ts T => ∃ (Tw Tk : Ty) (L : Int) (sp : List Int) (k : Tr) (ws : Wts), Ts = [Tw, tWs K ws, Tk] ∧ WdK Tw L sp ∧ KyK K Tk k ∧ Tri sp.length k ∧ Rise L sp ∧ HvOk ws ∧ sp.length ≤ 1000 ∧ T = tFr K (loadOf (shW L sp) ws k)
abbrev FLLoad (b : Bs) : Prop := FnAt b "_law_load" 3 (spOf 3 (spLLoad b.K)) 3
theorem xf_lload {b : Bs} (hS : FLShare b) (hP : FLPlus b) (hB : FLBy b) : XF b ["_law_world_here", "_law_heavy_here", "_law_key", "_law_found", "_law_spot", "_law_much"] 2 (scOf 64) 3 (bodyOf 64) (spLLoad b.K) := by
  rintro W Ts T ⟨Tw, Tk, L, sp, k, ws, rfl, wk, kk, tr, rs, hv, hl, rfl⟩ - Hi0 H0
  refine xb_asg 3 (T1 := tFr b.K 0) (xe_tp (xa_cons xe_int (xa_cons xe_int xa_nil))) ?_
  refine xb_forL (xs := ws) (F := tWt b.K) (js := [4, 5]) (fun w => [tFr b.K w.1, tFr b.K w.2]) (fun i => [some Tw, some (tWs b.K ws), some Tk, some (tFr b.K (sumF ((ws.map fun w => w.2 * shW L sp k w.1).take i))), none, none]) (fun _ => []) (xl_list ls_lst (xv 1 rfl rfl rfl)) ⟨fun _ _ h => h, fun _ _ h => h, fun _ _ h => h, fun _ _ h => h, trivial⟩ rfl (fun w hw => xg_tup (xgs_cons (xg_name 4) (xgs_cons (xg_name 5) xgs_nil)) tp_tup) (fun i w hiw Hi0 H0 => ?_) ?_
  · have hw : w ∈ ws := List.mem_of_getElem? hiw
    have hm : (ws.map fun w => w.2 * shW L sp k w.1)[i]? = some (w.2 * shW L sp k w.1) := by rw [List.getElem?_map, hiw]; rfl
    refine xb_asg 3 (xe_call hP (xa_cons (xv 3 rfl rfl rfl) (xa_cons (xe_call hB (xa_cons (xv 5 rfl rfl rfl) (xa_cons (xe_call hS (xa_cons (xv 0 rfl rfl rfl) (xa_cons (xv 2 rfl rfl rfl) (xa_cons (xv 4 rfl rfl rfl) xa_nil))) ⟨Tw, Tk, L, sp, k, w.1, rfl, wk, kk, tr, rs, (hv.bd w hw).1, hl, rfl⟩) xa_nil)) ⟨_, _, rfl, sm_of (hv.bd w hw).2, sm_of (shW_bd rs tr (hv.bd w hw).1), rfl⟩) xa_nil)) ⟨_, _, rfl, sm_of (lload_bd rs tr hv i), sm_of (lterm_bd rs tr hv hw), rfl⟩) ?_
    rw [take_snoc hm, sumF_snoc]
    exact xb_end ⟨fun _ _ h => h, fun _ _ h => h, fun _ _ h => h, fun _ _ h => h, trivial⟩
  · refine xb_retE (XE.eq (xv 3 rfl rfl rfl) ?_)
    unfold loadOf
    rw [List.take_of_length_le (by simp)]
end Pf

set_option maxHeartbeats 4000000
namespace Pf
open PySem PySem.Spec PyProof.Rows L2 Lg Ra
/-! ### all keys -/
def kx (n : Nat) (p l : Int) : List Tr := (rgI2 (p + 1) (n + 1)).map fun r => (l, p, r)
def kp (n : Nat) (p : Int) : List Tr := (rgI2 (-1) p).flatMap (kx n p)
def keysF (n : Nat) : List Tr := (rgI n).flatMap (kp n)
theorem mem_rg2 {i j x : Int} : x ∈ rgI2 i j ↔ i ≤ x ∧ x < j := by
  unfold rgI2
  rw [List.mem_map]
  constructor
  · rintro ⟨k, hk, rfl⟩
    have := List.mem_range.mp hk
    omega
  · rintro ⟨h1, h2⟩
    exact ⟨(x - i).toNat, List.mem_range.mpr (by omega), by omega⟩
theorem mem_keys {n : Nat} {k : Tr} : k ∈ keysF n ↔ Tri n k := by
  unfold keysF kp kx
  simp only [List.mem_flatMap, List.mem_map, mem_rg2]
  constructor
  · rintro ⟨p, hp, l, hl, r, hr, rfl⟩
    have := mem_rg.mp hp
    exact ⟨by simp only; omega, by simp only; omega, by simp only; omega, by simp only; omega⟩
  · rintro ⟨h1, h2, h3, h4⟩
    obtain ⟨l, p, r⟩ := k
    simp only at h1 h2 h3 h4
    exact ⟨p, mem_rg.mpr (by omega), l, ⟨h1, h2⟩, r, ⟨by omega, by omega⟩, rfl⟩
theorem rg2_nodup (i j : Int) : (rgI2 i j).Nodup := by
  unfold rgI2
  refine List.pairwise_map.mpr ?_
  exact List.nodup_range.imp fun h => by omega
theorem flat_nodup {α β : Type} {f : α → List β} : ∀ {xs : List α}, xs.Nodup → (∀ x ∈ xs, (f x).Nodup) → (∀ x ∈ xs, ∀ y ∈ xs, ∀ z, z ∈ f x → z ∈ f y → x = y) → (xs.flatMap f).Nodup
  | [], _, _, _ => by simp
  | x :: xs, nd, h1, h2 => by
    obtain ⟨n1, n2⟩ := List.nodup_cons.mp nd
    rw [List.flatMap_cons]
    refine List.nodup_append.mpr ⟨h1 x List.mem_cons_self, flat_nodup n2 (fun y hy => h1 y (List.mem_cons_of_mem _ hy)) (fun y hy z hz => h2 y (List.mem_cons_of_mem _ hy) z (List.mem_cons_of_mem _ hz)), fun a ha b hb e => ?_⟩
    subst e
    obtain ⟨y, hy, hay⟩ := List.mem_flatMap.mp hb
    have := h2 x List.mem_cons_self y (List.mem_cons_of_mem _ hy) a ha hay
    exact n1 (this ▸ hy)
theorem keys_nodup (n : Nat) : (keysF n).Nodup := by
  refine flat_nodup (rise_nodup (lot_rg n).rise) (fun p _ => flat_nodup (rg2_nodup _ _) (fun l _ => ?_) fun l _ l' _ z hz hz' => ?_) fun p _ p' _ z hz hz' => ?_
  · unfold kx
    refine List.pairwise_map.mpr ((rg2_nodup _ _).imp fun {a b} h e => h ?_)
    exact congrArg (fun t : Tr => t.2.2) e
  · obtain ⟨r, _, rfl⟩ := List.mem_map.mp hz
    obtain ⟨r', _, e⟩ := List.mem_map.mp hz'
    exact (congrArg Prod.fst e).symm
  · obtain ⟨l, _, hz⟩ := List.mem_flatMap.mp hz
    obtain ⟨l', _, hz'⟩ := List.mem_flatMap.mp hz'
    obtain ⟨r, _, rfl⟩ := List.mem_map.mp hz
    obtain ⟨r', _, e⟩ := List.mem_map.mp hz'
    exact (congrArg (fun t : Tr => t.2.1) e).symm
theorem keys_nodupK (n : Nat) : ((keysF n).map kOf).Nodup := List.pairwise_map.mpr ((keys_nodup n).imp fun h e => h (kOf_inj e))
theorem kx_len (n : Nat) {p : Int} (l : Int) (h : 0 ≤ p) : (kx n p l).length ≤ n := by unfold kx; rw [List.length_map, rgI2_len]; omega
theorem kp_len (n : Nat) {p : Int} (h : 0 ≤ p) (h2 : p < n) : (kp n p).length ≤ n * n := by
  refine Nat.le_trans (flat_len fun l _ => kx_len n l h) (Nat.mul_le_mul_right _ ?_)
  rw [rgI2_len]; omega
theorem keys_len {n : Nat} (h : n ≤ 12) : (keysF n).length ≤ 1728 := by
  have := flat_len (xs := rgI n) (f := kp n) (M := n * n) fun p hp => by
    have := mem_rg.mp hp
    exact kp_len n this.1 this.2
  rw [rgI_len] at this
  refine Nat.le_trans this ?_
  exact Nat.le_trans (Nat.mul_le_mul h (Nat.mul_le_mul h h)) (by decide)
/-- a key that is tracked -/
abbrev tKT (k : Tr) : Ty := tKI [k.1, k.2.1, k.2.2]
theorem kyT {K : PySem.W.Frag} {k : Tr} : KyK K (tKT k) k := tp_key
theorem kyU {K : PySem.W.Frag} {k : Tr} : KyK K (tK K k) k := tp_tup
def spKeys : FS := fun _ Ts T => ∃ n : Nat, Ts = [tInt (n : Int)] ∧ n ≤ 12 ∧ T = tLst ((keysF n).map tKT)
abbrev FKeys (b : Bs) : Prop := FnAt b "_law_keys" 1 (spOf 1 spKeys) 1
theorem xf_keys {b : Bs} (B : Bt b) : XF b ["_law_many", "_law_found", "_law_prop", "_law_left", "_law_right_here"] 0 (scOf 65) 1 (bodyOf 65) spKeys := by
  rintro W Ts T ⟨n, rfl, hn, rfl⟩ - Hi0 H0
  have kl := keys_len hn
  refine xb_own 1 (xn_lst xa_nil) fun w => ?_
  refine xb_forL (xs := rgI n) (F := tInt) (js := [2]) (fun p => [tInt p]) (fun i => [some (tInt (n : Int)), some (tRef w), none, none, none]) (fun i => [oLst w ((((rgI n).take i).flatMap (kp n)).map tKT)]) (xl_rg1 B.range (xv 0 rfl rfl rfl) (by omega)) ⟨fun _ _ h => h, fun _ _ h => h, trivial⟩ rfl (fun p hp => xg_name 2) (fun i p hip Hi0 H0 => ?_) ?_
  · have hp := mem_rg.mp (List.mem_of_getElem? hip)
    have pre : (((rgI n).take i).flatMap (kp n)).length ≤ i * (n * n) := by
      refine Nat.le_trans (flat_len (M := n * n) fun q hq => ?_) (Nat.mul_le_mul_right _ (by rw [List.length_take]; omega))
      have := mem_rg.mp (List.mem_of_mem_take hq)
      exact kp_len n this.1 this.2
    have hin : i < n := by have := (List.getElem?_eq_some_iff.mp hip).1; rwa [rgI_len] at this
    have preb : (((rgI n).take i).flatMap (kp n)).length ≤ 1728 := Nat.le_trans pre (Nat.le_trans (Nat.mul_le_mul (by omega : i ≤ 12) (Nat.mul_le_mul hn hn)) (by decide))
    refine xb_forL (xs := rgI2 (-1) p) (F := tInt) (js := [3]) (fun l => [tInt l]) (fun j => [some (tInt (n : Int)), some (tRef w), some (tInt p), none, none]) (fun j => [oLst w ((((rgI n).take i).flatMap (kp n) ++ ((rgI2 (-1) p).take j).flatMap (kx n p)).map tKT)]) (xl_rg2 B.range (xe_neg xe_int) (xv 2 rfl rfl rfl) ⟨by decide, by decide, by omega, by omega⟩) ⟨fun _ _ h => h, fun _ _ h => h, fun _ _ h => h, trivial⟩ (by simp) (fun l hl => xg_name 3) (fun j l hjl Hi0 H0 => ?_) ?_
    · have hjb : j < (rgI2 (-1) p).length := (List.getElem?_eq_some_iff.mp hjl).1
      rw [rgI2_len] at hjb
      have inb : (((rgI2 (-1) p).take j).flatMap (kx n p)).length ≤ 12 * 12 := by
        refine Nat.le_trans (flat_len (M := n) fun q hq => kx_len n q hp.1) (Nat.mul_le_mul ?_ hn)
        rw [List.length_take]; omega
      have hx := kx_len n l hp.1
      refine xb_ext (Us := (kx n p l).map tKT) 0 (xv 1 rfl rfl rfl) (xe_lcG (F := tKT) (g := fun r : Int => ((l, p, r) : Tr)) (xc (xs := rgI2 (p + 1) (n + 1)) (F := tInt) [("_law_right_here", 4)] [4] (fun r => [tInt r]) (fun _ => true) (fun r => tKT (l, p, r)) (xl_rg2 B.range (xe_bin (xv 2 rfl rfl rfl) xe_int ok_add) (xe_bin (xv 0 rfl rfl rfl) xe_int ok_add) ⟨by omega, by omega, by omega, by omega⟩) (fun r hr => xg_name 4) (fun r hr => xts_nil)
        (fun r hr _ => xe_key [l, p, r] (xa_cons (xv 3 rfl rfl rfl) (xa_cons (xv 2 rfl rfl rfl) (xa_cons (xv 4 rfl rfl rfl) xa_nil))) (by simp)) (by rw [rgI2_len]; omega))) rfl (by rw [List.length_map, List.length_append, List.length_map]; omega) ?_
      rw [← List.map_append, List.append_assoc]
      have e : ((rgI2 (-1) p).take (j + 1)).flatMap (kx n p) = ((rgI2 (-1) p).take j).flatMap (kx n p) ++ kx n p l := by
        rw [take_snoc hjl, List.flatMap_append]; simp
      rw [e]
      exact xb_end ⟨fun _ _ h => h, fun _ _ h => h, fun _ _ h => h, trivial⟩
    · rw [List.take_length]
      have e : ((rgI n).take (i + 1)).flatMap (kp n) = ((rgI n).take i).flatMap (kp n) ++ (rgI2 (-1) p).flatMap (kx n p) := by
        rw [take_snoc hip, List.flatMap_append]; simp [kp]
      rw [e]
      exact xb_end ⟨fun _ _ h => h, fun _ _ h => h, trivial⟩
  · refine xb_seal 1 rfl seal_lst ?_
    rw [List.take_length]
    exact xb_retE (xv 1 rfl rfl rfl)
/-! ### the law's weights -/
abbrev dg (ds : List Int) (i : Nat) : Int := ds.getD i 0
def botF (ds : List Int) (k : Nat) : Int := 1 + dg ds (1 + k) % 3
def spotF (ds : List Int) (L : Int) (sp : List Int) (k : Nat) : Rat := if dg ds (11 + k) % 3 = 0 then ((sp.getD (dg ds (6 + k) % (sp.length : Nat)).toNat 0 : Int) : Rat) else mkRat (dg ds (6 + k) % (L * botF ds k + 1)) (botF ds k).toNat
def muchF (ds : List Int) (k : Nat) : Rat := mkRat (1 + dg ds (16 + k) % 9) (1 + dg ds (21 + k) % 3).toNat
def heavyF (ds : List Int) (L : Int) (sp : List Int) : Wts := (List.range (dg ds 0 % 6).toNat).map fun k => (spotF ds L sp k, muchF ds k)
theorem mod_in {x m : Int} (h : 0 < m) : 0 ≤ x % m ∧ x % m < m := ⟨Int.emod_nonneg _ (by omega), Int.emod_lt_of_pos _ h⟩
theorem bot_in (ds : List Int) (k : Nat) : 1 ≤ botF ds k ∧ botF ds k ≤ 3 := by
  have := mod_in (x := dg ds (1 + k)) (m := 3) (by decide)
  unfold botF
  omega
theorem heavy_len (ds : List Int) (L : Int) (sp : List Int) : (heavyF ds L sp).length ≤ 5 := by
  unfold heavyF
  rw [List.length_map, List.length_range]
  have := mod_in (x := dg ds 0) (m := 6) (by decide)
  omega
theorem mk_le {t : Int} {d : Nat} {m : Int} (h : 0 < d) (h1 : t ≤ m * d) : mkRat t d ≤ (m : Rat) := by
  have e : mkRat t d = (t : Rat) / (d : Rat) := by
    rw [Rat.mkRat_eq_div]
  rw [e]
  have hd : (0 : Rat) < (d : Rat) := by exact_mod_cast h
  have : (t : Rat) ≤ (m : Rat) * (d : Rat) := by exact_mod_cast h1
  exact Rat.not_lt.mp fun z => Rat.not_lt.mpr this ((Rat.lt_div_iff hd).mp z)
theorem mk_ge {t : Int} {d : Nat} (h : 0 < d) (h1 : 0 ≤ t) : 0 ≤ mkRat t d := by
  rw [Rat.mkRat_eq_div]
  have hd : (0 : Rat) < (d : Rat) := by exact_mod_cast h
  have : (0 : Rat) ≤ (t : Rat) := by exact_mod_cast h1
  rw [Rat.div_def]
  exact Rat.mul_nonneg this (Rat.le_of_lt (Rat.inv_pos.mpr hd))
theorem mk_pos {t : Int} {d : Nat} (h : 0 < d) (h1 : 0 < t) : 0 < mkRat t d := by
  rw [Rat.mkRat_eq_div]
  have hd : (0 : Rat) < (d : Rat) := by exact_mod_cast h
  have : (0 : Rat) < (t : Rat) := by exact_mod_cast h1
  rw [Rat.div_def]
  exact Rat.mul_pos this (Rat.inv_pos.mpr hd)
theorem sp_at {sp : List Int} {j : Int} (h0 : 0 < sp.length) : (sp.map tInt)[(j % (sp.length : Nat)).toNat]? = some (tInt (sp.getD (j % (sp.length : Nat)).toNat 0)) := by
  have := mod_in (x := j) (m := (sp.length : Nat)) (by omega)
  exact dg_at (by omega)
/-- spots inside a plank -/
structure SpIn (L : Int) (sp : List Int) : Prop where
  ne : 0 < sp.length
  L0 : 0 ≤ L
  L1 : L ≤ 1000
  at_ : ∀ x ∈ sp, 0 ≤ x ∧ x ≤ L
theorem spot_ok {ds : List Int} {L : Int} {sp : List Int} (h : SpIn L sp) (k : Nat) : Bd 20 (spotF ds L sp k) ∧ 0 ≤ spotF ds L sp k ∧ spotF ds L sp k ≤ L := by
  have b := bot_in ds k
  have hL1 := h.L1
  have hL0 := h.L0
  unfold spotF
  split
  · have m := mod_in (x := dg ds (6 + k)) (m := (sp.length : Nat)) (by have := h.ne; omega)
    have hm : sp.getD (dg ds (6 + k) % (sp.length : Nat)).toNat 0 ∈ sp := by
      rw [List.getD_eq_getElem?_getD, List.getElem?_eq_getElem (by omega)]
      exact List.getElem_mem _
    have r := h.at_ _ hm
    refine ⟨(bd_place r hL1).mono (by decide), by exact_mod_cast r.1, by exact_mod_cast r.2⟩
  · have hp : 0 ≤ L * botF ds k := Int.mul_nonneg hL0 (by omega)
    have hp2 : L * botF ds k ≤ 1000 * 3 := Int.mul_le_mul hL1 b.2 (by omega) (by decide)
    have m := mod_in (x := dg ds (6 + k)) (m := L * botF ds k + 1) (by omega)
    have d0 : 0 < (botF ds k).toNat := by omega
    have dc : ((botF ds k).toNat : Int) = botF ds k := by omega
    refine ⟨Bd.mk (by omega) ?_ ?_, mk_ge d0 m.1, mk_le d0 (by rw [dc]; omega)⟩
    · have : (2 : Nat) ^ 20 = 1048576 := by decide
      omega
    · have : (2 : Nat) ^ 20 = 1048576 := by decide
      omega
theorem much_ok (ds : List Int) (k : Nat) : Bd 20 (muchF ds k) ∧ 0 < muchF ds k := by
  have m1 := mod_in (x := dg ds (16 + k)) (m := 9) (by decide)
  have m2 := mod_in (x := dg ds (21 + k)) (m := 3) (by decide)
  have : (2 : Nat) ^ 20 = 1048576 := by decide
  unfold muchF
  exact ⟨Bd.mk (by omega) (by omega) (by omega), mk_pos (by omega) (by omega)⟩
theorem heavy_wt {ds : List Int} {L : Int} {sp : List Int} (h : SpIn L sp) : ∀ w ∈ heavyF ds L sp, WtOk L w := fun w hw => by
  obtain ⟨k, _, rfl⟩ := List.mem_map.mp hw
  obtain ⟨a1, a2, a3⟩ := spot_ok (ds := ds) h k
  obtain ⟨b1, b2⟩ := much_ok ds k
  exact ⟨a1, b1, a2, a3, b2⟩
theorem heavy_hv {ds : List Int} {L : Int} {sp : List Int} (h : SpIn L sp) : HvOk (heavyF ds L sp) := ⟨heavy_len ds L sp, fun w hw => ⟨(heavy_wt h w hw).s1, (heavy_wt h w hw).s2⟩⟩
def spHeavy (K : PySem.W.Frag) : FS := fun _ Ts T => ∃ (Tw : Ty) (ds : List Int) (L : Int) (sp : List Int), Ts = [tLst (ds.map tInt), Tw] ∧ 26 ≤ ds.length ∧ WdK Tw L sp ∧ SpIn L sp ∧ T = tWs K (heavyF ds L sp)
abbrev FHeavy (b : Bs) : Prop := FnAt b "_law_heavy" 2 (spOf 2 (spHeavy b.K)) 2
theorem xf_heavy {b : Bs} (B : Bt b) (hC : FLCut b) : XF b ["_law_digits_here", "_law_world_here", "_law_found", "_law_k", "_law_bottom", "_law_spot"] 1 (scOf 66) 2 (bodyOf 66) (spHeavy b.K) := by
  rintro W Ts T ⟨Tw, ds, L, sp, rfl, hd, wk, hs, rfl⟩ - Hi0 H0
  have hL0 := hs.L0
  have hL1 := hs.L1
  have m0 := mod_in (x := dg ds 0) (m := 6) (by decide)
  have e0 : dg ds 0 % 6 = ((dg ds 0 % 6).toNat : Nat) := by omega
  refine xb_own 2 (xn_lst xa_nil) fun w => ?_
  refine xb_forL (xs := rgI (dg ds 0 % 6).toNat) (F := tInt) (js := [3]) (fun k => [tInt k]) (fun i => [some (tLst (ds.map tInt)), some Tw, some (tRef w), none, none, none]) (fun i => [oLst w (((heavyF ds L sp).take i).map (tWt b.K))]) (xl_rg1 B.range (XE.eq (xe_bin (xe_bty B.int (xa_cons (xe_ix (xv 0 rfl rfl rfl) xe_int (ix_at (n := 0) sq_lst rfl (dg_at (by omega)))) xa_nil) cb_int) xe_int (ok_mod (by decide))) (congrArg tInt e0)) (by omega)) ⟨fun _ _ h => h, fun _ _ h => h, fun _ _ h => h, trivial⟩ rfl (fun k hk => xg_name 3) (fun i k hik Hi0 H0 => ?_) ?_
  · have hil : i < (dg ds 0 % 6).toNat := by have := (List.getElem?_eq_some_iff.mp hik).1; rwa [rgI_len] at this
    rw [rgI_at hil] at hik
    have ek : (i : Int) = k := Option.some.inj hik
    subst ek
    have hb := bot_in ds i
    have hp : 0 ≤ L * botF ds i := Int.mul_nonneg hL0 (by omega)
    have dc : botF ds i = ((botF ds i).toNat : Int) := by omega
    have so := spot_ok (ds := ds) hs i
    have mo := much_ok ds i
    have q1 : L.natAbs < 2 ^ 10 := Nat.lt_of_le_of_lt (by omega : L.natAbs ≤ 1000) (by decide)
    have q2 : (botF ds i).natAbs < 2 ^ 2 := by have : (2 : Nat) ^ 2 = 4 := by decide
                                               omega
    have q8 : ∀ x : Nat, x ≤ 100 → x < 2 ^ 8000 := fun x h => Nat.lt_of_le_of_lt h (Nat.lt_of_lt_of_le (by decide : 100 < 2 ^ 7) (Nat.pow_le_pow_right (by decide) (by decide)))
    have dgi : ∀ (a : Nat), a + i < 26 → (ds.map tInt)[a + i]? = some (tInt (dg ds (a + i))) := fun a h => dg_at (by omega)
    refine xb_asg 4 (T1 := tInt (botF ds i)) (xe_bin xe_int (xe_bin (xe_bty B.int (xa_cons (xe_ix (xv 0 rfl rfl rfl) (xe_bin xe_int (xv 3 rfl rfl rfl) ok_add) (ix_at (n := 1 + i) sq_lst (by omega) (dgi 1 (by omega)))) xa_nil) cb_int) xe_int (ok_mod (by decide))) ok_add) ?_
    refine xb_asg 5 (T1 := tFr b.K (mkRat (dg ds (6 + i) % (L * botF ds i + 1)) (botF ds i).toNat)) (xe_call hC (xa_cons (xe_bin (xe_bty B.int (xa_cons (xe_ix (xv 0 rfl rfl rfl) (xe_bin xe_int (xv 3 rfl rfl rfl) ok_add) (ix_at (n := 6 + i) sq_lst (by omega) (dgi 6 (by omega)))) xa_nil) cb_int) (xe_bin (xe_bin (xe_dget wk.long (xv 1 rfl rfl rfl) xe_str) (xv 4 rfl rfl rfl) (ok_mul (mulW q1 q2))) xe_int ok_add) (ok_mod (by omega))) (xa_cons (XE.eq (xv 4 rfl rfl rfl) (congrArg tInt dc)) xa_nil)) ⟨_, _, rfl, by omega, q8 _ (by omega), rfl⟩) ?_
    refine xb_if (p := decide (dg ds (11 + i) % 3 = 0)) (M := SS W Hi0 H0 [some (tLst (ds.map tInt)), some Tw, some (tRef w), some (tInt (i : Nat)), none, some (tFr b.K (spotF ds L sp i))] [oLst w (((heavyF ds L sp).take i).map (tWt b.K))]) (xt_cmp (xe_bin (xe_bty B.int (xa_cons (xe_ix (xv 0 rfl rfl rfl) (xe_bin xe_int (xv 3 rfl rfl rfl) ok_add) (ix_at (n := 11 + i) sq_lst (by omega) (dgi 11 (by omega)))) xa_nil) cb_int) xe_int (ok_mod (by decide))) xe_int cm_eq) (fun h => ?_) (fun h => ?_) ?_
    · have h : dg ds (11 + i) % 3 = 0 := of_decide_eq_true h
      have ms := mod_in (x := dg ds (6 + i)) (m := (sp.length : Nat)) (by have := hs.ne; omega)
      have es : spotF ds L sp i = ((sp.getD (dg ds (6 + i) % (sp.length : Nat)).toNat 0 : Int) : Rat) := by unfold spotF; rw [if_pos h]
      refine xb_asg 5 (T1 := tFr b.K (spotF ds L sp i)) (XE.eq (xe_tp (xa_cons (xe_ix (xe_dget wk.spots (xv 1 rfl rfl rfl) xe_str) (xe_bin (xe_bty B.int (xa_cons (xe_ix (xv 0 rfl rfl rfl) (xe_bin xe_int (xv 3 rfl rfl rfl) ok_add) (ix_at (n := 6 + i) sq_lst (by omega) (dgi 6 (by omega)))) xa_nil) cb_int) (xe_blt B.len (xa_cons (xe_dget wk.spots (xv 1 rfl rfl rfl) xe_str) xa_nil) (cb_len sq_lst)) (ok_mod (by rw [List.length_map]; have := hs.ne; omega))) (ix_at (n := (dg ds (6 + i) % (sp.length : Nat)).toNat) sq_lst (by rw [List.length_map]; omega) (sp_at hs.ne))) (xa_cons xe_int xa_nil))) (by rw [es]; rfl)) ?_
      exact xb_end ⟨fun _ _ h => h, fun _ _ h => h, fun _ _ h => h, fun _ _ h => h, fun _ _ h => h, trivial⟩
    · have h : ¬ dg ds (11 + i) % 3 = 0 := of_decide_eq_false h
      have es : spotF ds L sp i = mkRat (dg ds (6 + i) % (L * botF ds i + 1)) (botF ds i).toNat := by unfold spotF; rw [if_neg h]
      rw [es]
      exact xb_end ⟨fun _ _ h => h, fun _ _ h => h, fun _ _ h => h, fun _ _ h => h, fun _ _ h => h, trivial⟩
    · have m2 := mod_in (x := dg ds (21 + i)) (m := 3) (by decide)
      have dc2 : 1 + dg ds (21 + i) % 3 = ((1 + dg ds (21 + i) % 3).toNat : Int) := by omega
      have hi : (heavyF ds L sp)[i]? = some (spotF ds L sp i, muchF ds i) := by
        unfold heavyF
        rw [List.getElem?_map, List.getElem?_range hil]; rfl
      have hl5 := heavy_len ds L sp
      refine xb_app 0 (xv 2 rfl rfl rfl) (T1 := tWt b.K (spotF ds L sp i, muchF ds i)) (xe_tp (xa_cons (xv 5 rfl rfl rfl) (xa_cons (xe_call hC (xa_cons (xe_bin xe_int (xe_bin (xe_bty B.int (xa_cons (xe_ix (xv 0 rfl rfl rfl) (xe_bin (xe_int (i := 16)) (xv 3 rfl rfl rfl) ok_add) (ix_at (n := 16 + i) sq_lst (by omega) (dgi 16 (by omega)))) xa_nil) cb_int) xe_int (ok_mod (by decide))) ok_add) (xa_cons (XE.eq (xe_bin xe_int (xe_bin (xe_bty B.int (xa_cons (xe_ix (xv 0 rfl rfl rfl) (xe_bin (xe_int (i := 21)) (xv 3 rfl rfl rfl) ok_add) (ix_at (n := 21 + i) sq_lst (by omega) (dgi 21 (by omega)))) xa_nil) cb_int) xe_int (ok_mod (by decide))) ok_add) (congrArg tInt dc2)) xa_nil)) ⟨_, _, rfl, by omega, q8 _ (by omega), rfl⟩) xa_nil))) rfl (by rw [List.length_map, List.length_take]; omega) ?_
      rw [take_snoc hi, List.map_append]
      exact xb_end ⟨fun _ _ h => h, fun _ _ h => h, fun _ _ h => h, trivial⟩
  · refine xb_seal 2 rfl seal_lst ?_
    rw [rgI_len]
    have e : (heavyF ds L sp).take (dg ds 0 % 6).toNat = heavyF ds L sp := List.take_of_length_le (by unfold heavyF; simp)
    rw [e]
    exact xb_retE (xv 2 rfl rfl rfl)
end Pf

set_option maxHeartbeats 4000000
namespace Lg
open PySem PySem.Spec PyProof.Rows L2
section
variable {c : Cst} {sc : Scope} {G : Gm} {T T1 : Ty} {Hi0 H0 : Hp} {pos : Pos} {O : List Own} {rest : List Stmt} {N : L2.St → Hp → Prop}
theorem sw_cell {elt : Expr} {gs : List Comprehension} {scope : Scope} {pos py : Pos} {y : Str} {l : Nat} {env : Env} (hy : env.scope.names.lookup y = some .cell) : swapsWith (.ListComp elt gs scope pos) (some (.Name y py)) l env = pure false := by
  have ky : env.kindOf y = some .cell := hy
  unfold swapsWith
  simp only [ky]
  show pure (((env.blockKind == .function) && false && _) && _) = pure false
  rw [Bool.and_false]
  rfl
/-- x = [..], x a cell -/
theorem xb_cell (i : Nat) {x : Str} {p' pos2 : Pos} {elt : Expr} {gs : List Comprehension} {scope : Scope} (he : XE c sc G (.ListComp elt gs scope pos2) T1) (h : XB c sc Hi0 H0 (SS c.W Hi0 H0 (G.set i (some T1)) O) rest N T) (hN : c.N[i]? = some x := by rfl) (hy : sc.names.lookup x = some .cell := by rfl) (hd : c.d = true := by rfl) :
    XB c sc Hi0 H0 (SS c.W Hi0 H0 G O) (.Assign [.Name x p'] (.ListComp elt gs scope pos2) pos :: rest) N T := fun X C σ H ⟨Hi, g, s, k⟩ =>
  bW_cons (ps_set (i := i) (C.hN ▸ C.nd) (by rw [C.hN]; exact hN) (C.sto x (.inr hy)).1 eW_pe (sw_cell (by rw [C.hd hd]; exact hy)) (C.sto x (.inr hy)).2) (he.use C g.wi s fun v Hi' H' g' t' =>
    h X C _ H' ⟨Hi', g.trans g', (s.mo g'.le).set t' i, k.gr g'⟩)
end
end Lg
namespace Pf
open PySem PySem.Spec PyProof.Rows L2 Lg Ra
/-! ### the law's world -/
structure Wo where
  L : Int
  sp : List Int
  hv : Wts
  st : List Rat
abbrev Wo.n (w : Wo) : Nat := w.sp.length
def manyF (ds : List Int) (most : Nat) : Nat := (1 + dg ds 0 % most).toNat
def wideF (ds : List Int) : Int := [1, 2, 5, 30].getD (dg ds 1 % 4).toNat 0
def gapsF (ds : List Int) (n : Nat) : List Int := (rgI (n + 1)).map fun k => 1 + dg ds (2 + k.toNat) % wideF ds
def psum (g : List Int) (i : Nat) : Int := (g.take i).sum
def spotsF (ds : List Int) (n : Nat) : List Int := (rgI n).map fun k => psum (gapsF ds n) (k + 1).toNat
def longF (ds : List Int) (n : Nat) : Int := (gapsF ds n).sum
def moresF (ds : List Int) (k : Nat) : List Rat := [0, mkRat (-1) 2, mkRat 1 3, 1, 4, ((dg ds (50 + k) % 20 : Int) : Rat)]
def moreF (ds : List Int) (k : Nat) : Rat := (moresF ds k).getD (dg ds (40 + k) % 6).toNat 0
def rawF (ds : List Int) (n : Nat) (hv : Wts) (k : Nat) : Rat := loadOf (shW (longF ds n) (spotsF ds n)) hv ((k : Int) - 1, (k : Int), (k : Int) + 1) + moreF ds k
def strF (ds : List Int) (n : Nat) (hv : Wts) (k : Nat) : Rat := if (rawF ds n hv k).num < 0 then 0 else rawF ds n hv k
def worldF (ds : List Int) (most : Nat) : Wo :=
  let n := manyF ds most
  let hv := heavyF (ds.drop 10) (longF ds n) (spotsF ds n)
  ⟨longF ds n, spotsF ds n, hv, (List.range n).map (strF ds n hv)⟩
theorem many_in {ds : List Int} {most : Nat} (h : most = 3 ∨ most = 4) : 1 ≤ manyF ds most ∧ manyF ds most ≤ most := by
  have := mod_in (x := dg ds 0) (m := (most : Nat)) (by omega)
  unfold manyF
  omega
theorem wide_in (ds : List Int) : 1 ≤ wideF ds ∧ wideF ds ≤ 30 := by
  have := mod_in (x := dg ds 1) (m := 4) (by decide)
  unfold wideF
  have h : (dg ds 1 % 4).toNat = 0 ∨ (dg ds 1 % 4).toNat = 1 ∨ (dg ds 1 % 4).toNat = 2 ∨ (dg ds 1 % 4).toNat = 3 := by omega
  rcases h with h | h | h | h <;> rw [h] <;> decide
theorem gaps_len (ds : List Int) (n : Nat) : (gapsF ds n).length = n + 1 := by unfold gapsF; rw [List.length_map, rgI_len]
theorem gaps_in {ds : List Int} {n : Nat} : ∀ g ∈ gapsF ds n, 1 ≤ g ∧ g ≤ 30 := fun g hg => by
  obtain ⟨k, _, rfl⟩ := List.mem_map.mp hg
  have w := wide_in ds
  have := mod_in (x := dg ds (2 + k.toNat)) (m := wideF ds) (by omega)
  omega
theorem psum_succ {g : List Int} {i : Nat} {x : Int} (h : g[i]? = some x) : psum g (i + 1) = psum g i + x := by
  unfold psum
  rw [take_snoc h, List.sum_append]
  simp
theorem psum_lt {g : List Int} (h : ∀ x ∈ g, 1 ≤ x) : ∀ {i j : Nat}, i < j → j ≤ g.length → psum g i < psum g j
  | i, 0, hl, _ => by omega
  | i, j + 1, hl, hj => by
    have hx : g[j]? = some g[j] := List.getElem?_eq_getElem (by omega)
    have h1 := h g[j] (List.getElem_mem _)
    rw [psum_succ hx]
    by_cases e : i = j
    · subst e; omega
    · have := psum_lt h (i := i) (j := j) (by omega) (by omega)
      omega
theorem psum_le {g : List Int} (h : ∀ x ∈ g, x ≤ 30) : ∀ {i : Nat}, i ≤ g.length → psum g i ≤ 30 * i
  | 0, _ => by simp [psum]
  | i + 1, hi => by
    have hx : g[i]? = some g[i] := List.getElem?_eq_getElem (by omega)
    have h1 := h g[i] (List.getElem_mem _)
    have := psum_le h (i := i) (by omega)
    rw [psum_succ hx]
    omega
theorem spots_len (ds : List Int) (n : Nat) : (spotsF ds n).length = n := by unfold spotsF; rw [List.length_map, rgI_len]
theorem plc_gap {ds : List Int} {n : Nat} {r : Int} (h1 : -1 ≤ r) (h2 : r ≤ n) : plc (longF ds n) (spotsF ds n) r = psum (gapsF ds n) (r + 1).toNat := by
  by_cases ha : r = -1
  · subst ha; rfl
  by_cases hb : r = n
  · subst hb
    have := plc_right (L := longF ds n) (sp := spotsF ds n)
    rw [spots_len] at this
    rw [this]
    unfold longF psum
    have e : ((n : Int) + 1).toNat = n + 1 := by omega
    rw [e, List.take_of_length_le (by rw [gaps_len]; omega)]
  · obtain ⟨k, rfl⟩ : ∃ k : Nat, r = k := ⟨r.toNat, by omega⟩
    refine plc_prop (sp := spotsF ds n) ?_
    unfold spotsF
    rw [List.getElem?_map, rgI_at (by omega)]
    rfl
theorem rise_w {ds : List Int} {n : Nat} (h4 : n ≤ 4) : Rise (longF ds n) (spotsF ds n) := by
  have g1 : ∀ x ∈ gapsF ds n, 1 ≤ x := fun x hx => (gaps_in x hx).1
  have g2 : ∀ x ∈ gapsF ds n, x ≤ 30 := fun x hx => (gaps_in x hx).2
  have eL : longF ds n = psum (gapsF ds n) (n + 1) := by
    unfold longF psum
    rw [List.take_of_length_le (by rw [gaps_len]; omega)]
  have p0 : psum (gapsF ds n) 0 = 0 := rfl
  refine ⟨fun i j h1 h2 h3 => ?_, fun i h1 h2 => ?_, ?_⟩
  · rw [spots_len] at h3
    rw [plc_gap h1 (by omega), plc_gap (by omega) h3]
    exact psum_lt g1 (by omega) (by rw [gaps_len]; omega)
  · rw [spots_len] at h2
    rw [plc_gap h1 h2, eL]
    have l := gaps_len ds n
    constructor
    · by_cases e : (i + 1).toNat = 0
      · rw [e]; exact Int.le_refl _
      · have := psum_lt g1 (i := 0) (j := (i + 1).toNat) (by omega) (by omega)
        omega
    · by_cases e : (i + 1).toNat = n + 1
      · rw [e]; exact Int.le_refl _
      · have := psum_lt g1 (i := (i + 1).toNat) (j := n + 1) (by omega) (by omega)
        omega
  · rw [eL]
    have := psum_le g2 (i := n + 1) (by rw [gaps_len]; omega)
    omega
theorem long_ge {ds : List Int} {n : Nat} (h1 : 1 ≤ n) : 2 ≤ longF ds n := by
  have g1 : ∀ x ∈ gapsF ds n, 1 ≤ x := fun x hx => (gaps_in x hx).1
  have eL : longF ds n = psum (gapsF ds n) (n + 1) := by
    unfold longF psum
    rw [List.take_of_length_le (by rw [gaps_len]; omega)]
  have l := gaps_len ds n
  have a1 := psum_lt g1 (i := 0) (j := 1) (by omega) (by omega)
  have a2 := psum_lt g1 (i := 1) (j := n + 1) (by omega) (by omega)
  have p0 : psum (gapsF ds n) 0 = 0 := rfl
  omega
theorem spin_w {ds : List Int} {n : Nat} (h1 : 1 ≤ n) (h4 : n ≤ 4) : SpIn (longF ds n) (spotsF ds n) := by
  have r := rise_w (ds := ds) h4
  have l := spots_len ds n
  refine ⟨by omega, by have := long_ge (ds := ds) h1; omega, r.L1, fun x hx => ?_⟩
  obtain ⟨i, hi⟩ := List.mem_iff_getElem?.mp hx
  have hil := (List.getElem?_eq_some_iff.mp hi).1
  have := r.ge (i : Int) (by omega) (by omega)
  rw [plc_prop hi] at this
  exact this
theorem more_bd (ds : List Int) (k : Nat) : Bd 10 (moreF ds k) := by
  have m := mod_in (x := dg ds (40 + k)) (m := 6) (by decide)
  have m2 := mod_in (x := dg ds (50 + k)) (m := 20) (by decide)
  unfold moreF moresF
  have h : (dg ds (40 + k) % 6).toNat = 0 ∨ (dg ds (40 + k) % 6).toNat = 1 ∨ (dg ds (40 + k) % 6).toNat = 2 ∨ (dg ds (40 + k) % 6).toNat = 3 ∨ (dg ds (40 + k) % 6).toNat = 4 ∨ (dg ds (40 + k) % 6).toNat = 5 := by omega
  rcases h with h | h | h | h | h | h <;> rw [h]
  · exact Bd.zero.mono (by decide)
  · exact Bd.mk (n := 10) (t := -1) (d := 2) (by decide) (by decide) (by decide)
  · exact Bd.mk (n := 10) (t := 1) (d := 3) (by decide) (by decide) (by decide)
  · exact Bd.one.mono (by decide)
  · exact Bd.int (i := 4) (by decide) (by decide)
  · refine Bd.int (i := dg ds (50 + k) % 20) ?_ (by decide)
    have : (2 : Nat) ^ 10 = 1024 := by decide
    omega
theorem tri_k {n k : Nat} (h : k < n) : Tri n ((k : Int) - 1, (k : Int), (k : Int) + 1) := ⟨by simp only; omega, by simp only; omega, by simp only; omega, by simp only; omega⟩
theorem raw_bd {ds : List Int} {n : Nat} {hv : Wts} {k : Nat} (h4 : n ≤ 4) (hh : HvOk hv) (hk : k < n) : Bd 450 (rawF ds n hv k) := by
  have := lload_bd1 (rise_w (ds := ds) h4) (k := ((k : Int) - 1, (k : Int), (k : Int) + 1)) (by rw [spots_len]; exact tri_k hk) hh
  exact (this.add (more_bd ds k)).mono (by decide)
abbrev kLong : Key := Sum.inr ("long" : Str)
abbrev kSpots : Key := Sum.inr ("spots" : Str)
abbrev kHeavy : Key := Sum.inr ("heavy" : Str)
abbrev kStrong : Key := Sum.inr ("strong" : Str)
def tWo (K : PySem.W.Frag) (w : Wo) : Ty := tDK [(kLong, tInt w.L), (kSpots, tLst (w.sp.map tInt)), (kHeavy, tWs K w.hv), (kStrong, tLst (w.st.map (tFr K)))]
theorem fr_tFr {P : HO → Prop} (np : noTup P) {K : PySem.W.Frag} {q : Rat} : Free P (tFr K q) := fr_tTup np fun T hT => by
  rcases List.mem_cons.mp hT with rfl | hT
  · exact fr_tInt
  · rw [List.mem_singleton.mp hT]; exact fr_tInt
theorem fr_tWs {K : PySem.W.Frag} {ws : Wts} : Free isD (tWs K ws) := fr_tLst fun T hT => by
  obtain ⟨w, _, rfl⟩ := List.mem_map.mp hT
  refine fr_tTup nt_D fun T hT => ?_
  rcases List.mem_cons.mp hT with rfl | hT
  · exact fr_tFr nt_D
  · rw [List.mem_singleton.mp hT]; exact fr_tFr nt_D
theorem isD_q {p : Addr} {ks : List (Key × Ty)} : ∀ u H, (oDK p ks).q u H → isD u := fun u H ⟨kvs, e, _⟩ => ⟨kvs, e⟩
theorem tFr_half {K : PySem.W.Frag} : tTup K [tInt (-1), tInt 2] = tFr K (mkRat (-1) 2) := by
  have e := tFr_mk K (-1) 2 (by decide)
  have e1 : (-1 : Int) / ((Nat.gcd (-1 : Int).natAbs 2 : Nat) : Int) = -1 := by decide +kernel
  have e2 : ((2 : Nat) : Int) / ((Nat.gcd (-1 : Int).natAbs 2 : Nat) : Int) = 2 := by decide +kernel
  rw [e1, e2] at e
  exact e
theorem tFr_third {K : PySem.W.Frag} : tTup K [tInt 1, tInt 3] = tFr K (mkRat 1 3) := by
  have e := tFr_mk K 1 3 (by decide)
  have e1 : (1 : Int) / ((Nat.gcd (1 : Int).natAbs 3 : Nat) : Int) = 1 := by decide +kernel
  have e2 : ((3 : Nat) : Int) / ((Nat.gcd (1 : Int).natAbs 3 : Nat) : Int) = 3 := by decide +kernel
  rw [e1, e2] at e
  exact e
theorem frs_at {K : PySem.W.Frag} {qs : List Rat} {i : Nat} (h : i < qs.length) : (qs.map (tFr K))[i]? = some (tFr K (qs.getD i 0)) := by
  rw [List.getElem?_map, List.getD_eq_getElem?_getD, List.getElem?_eq_getElem h]; rfl
theorem wk2 {L : Int} {sp : List Int} {r : List (Key × Ty)} (h : (kLong :: kSpots :: r.map (·.1)).Nodup) : WdK (tDK ((kLong, tInt L) :: (kSpots, tLst (sp.map tInt)) :: r)) L sp :=
  ⟨dg_K (i := 0) rfl h, dg_K (i := 1) rfl h⟩
theorem dg_heavy {K : PySem.W.Frag} {L : Int} {sp : List Int} {A S : Ty} : DgK (tDK ([(kLong, tInt L), (kSpots, tLst (sp.map tInt)), (kHeavy, A)] ++ [(kStrong, S)])) (tStr "heavy") A := dg_K (i := 2) rfl (by decide +kernel : (kLong :: kSpots :: [kHeavy, kStrong]).Nodup)
theorem dg_strong {K : PySem.W.Frag} {L : Int} {sp : List Int} {A S : Ty} : DgK (tDK ([(kLong, tInt L), (kSpots, tLst (sp.map tInt)), (kHeavy, A)] ++ [(kStrong, S)])) (tStr "strong") S := dg_K (i := 3) rfl (by decide +kernel : (kLong :: kSpots :: [kHeavy, kStrong]).Nodup)
theorem dg_spots {K : PySem.W.Frag} {L : Int} {sp : List Int} {A S : Ty} : DgK (tDK ([(kLong, tInt L), (kSpots, tLst (sp.map tInt)), (kHeavy, A)] ++ [(kStrong, S)])) (tStr "spots") (tLst (sp.map tInt)) := dg_K (i := 1) rfl (by decide +kernel : (kLong :: kSpots :: [kHeavy, kStrong]).Nodup)
theorem dg_long {K : PySem.W.Frag} {L : Int} {sp : List Int} {A S : Ty} : DgK (tDK ([(kLong, tInt L), (kSpots, tLst (sp.map tInt)), (kHeavy, A)] ++ [(kStrong, S)])) (tStr "long") (tInt L) := dg_K (i := 0) rfl (by decide +kernel : (kLong :: kSpots :: [kHeavy, kStrong]).Nodup)
theorem wk_wo {K : PySem.W.Frag} {w : Wo} : WdK (tWo K w) w.L w.sp := ⟨dg_long (K := K), dg_spots (K := K)⟩
def spWorld (K : PySem.W.Frag) : FS := fun W Ts T => ∃ (ds : List Int) (most : Nat), W = [] ∧ Ts = [tLst (ds.map tInt), tInt (most : Int)] ∧ 280 ≤ ds.length ∧ (most = 3 ∨ most = 4) ∧ T = tWo K (worldF ds most)
abbrev FWorld (b : Bs) : Prop := FnAt b "_law_world" 2 (spOf 2 (spWorld b.K)) 4
theorem xf_world {b : Bs} (B : Bt b) (hH : FHeavy b) (hL : FLLoad b) (hP : FLPlus b) : XF b ["_law_digits_here", "_law_most", "_law_many", "_law_wide", "_law_gaps", "_law_world_here", "_law_k", "_law_much", "_law_more"] 3 (scOf 67) 2 (bodyOf 67) (spWorld b.K) := by
  rintro W Ts T ⟨ds, most, rfl, rfl, hd, hm, rfl⟩ - Hi0 H0
  obtain ⟨n1, n4⟩ := many_in (ds := ds) hm
  have n4 : manyF ds most ≤ 4 := by omega
  have mm := mod_in (x := dg ds 0) (m := (most : Nat)) (by omega)
  have em : 1 + dg ds 0 % (most : Nat) = ((manyF ds most : Nat) : Int) := by unfold manyF; omega
  have m1 := mod_in (x := dg ds 1) (m := 4) (by decide)
  have ww := wide_in ds
  unfold worldF
  simp only
  generalize hn : manyF ds most = n at n1 n4 em ⊢
  have sl := spots_len ds n
  have rs := rise_w (ds := ds) n4
  have si := spin_w (ds := ds) n1 n4
  refine xb_asg 2 (T1 := tInt (n : Int)) (XE.eq (xe_bin xe_int (xe_bin (xe_bty B.int (xa_cons (xe_ix (xv 0 rfl rfl rfl) xe_int (ix_at (n := 0) sq_lst rfl (dg_at (by omega)))) xa_nil) cb_int) (xv 1 rfl rfl rfl) (ok_mod (by omega))) ok_add) (congrArg tInt em)) ?_
  refine xb_asg 3 (T1 := tInt (wideF ds)) (xe_ix (xe_lstD (Ts := [1, 2, 5, 30].map tInt) (xa_cons xe_int (xa_cons xe_int (xa_cons xe_int (xa_cons xe_int xa_nil))))) (xe_bin (xe_bty B.int (xa_cons (xe_ix (xv 0 rfl rfl rfl) xe_int (ix_at (n := 1) sq_lst rfl (dg_at (by omega)))) xa_nil) cb_int) xe_int (ok_mod (by decide))) (ix_at (n := (dg ds 1 % 4).toNat) sq_lst (show (((dg ds 1 % 4).toNat : Nat) : Int) = dg ds 1 % 4 by omega) (dg_at (by show (dg ds 1 % 4).toNat < 4; omega)))) ?_
  refine xb_cell 4 (T1 := tLst ((gapsF ds n).map tInt)) (xe_lcG (F := tInt) (g := fun k : Int => 1 + dg ds (2 + k.toNat) % wideF ds) (xc (xs := rgI (n + 1)) (F := tInt) [("_law_k", 6)] [6] (fun k => [tInt k]) (fun _ => true) (fun k => tInt (1 + dg ds (2 + k.toNat) % wideF ds)) (xl_rg1 B.range (XE.eq (xe_bin (xv 2 rfl rfl rfl) xe_int ok_add) (congrArg tInt (by omega))) (by omega)) (fun k hk => xg_name 6) (fun k hk => xts_nil)
    (fun k hk _ => by
      have hk := mem_rg.mp hk
      exact xe_bin xe_int (xe_bin (xe_bty B.int (xa_cons (xe_ix (xv 0 rfl rfl rfl) (xe_bin (xe_int (i := 2)) (xv 6 rfl rfl rfl) ok_add) (ix_at (n := 2 + k.toNat) sq_lst (by omega) (dg_at (by omega)))) xa_nil) cb_int) (xv 3 rfl rfl rfl) (ok_mod (by omega))) ok_add) (by rw [rgI_len]; omega))) ?_
  refine xb_disp2 (T1 := tInt (longF ds n)) (T2 := tLst ((spotsF ds n).map tInt)) (z1 := "long") (z2 := "spots") 5 xe_str (xe_blt B.sum (xa_cons (xv 4 rfl rfl rfl) xa_nil) cb_sum) xe_str (xe_lcG (F := tInt) (g := fun k : Int => psum (gapsF ds n) (k + 1).toNat) (xc (xs := rgI n) (F := tInt) [("_law_k", 6)] [6] (fun k => [tInt k]) (fun _ => true) (fun k => tInt (psum (gapsF ds n) (k + 1).toNat)) (xl_rg1 B.range (xv 2 rfl rfl rfl) (by omega)) (fun k hk => xg_name 6) (fun k hk => xts_nil)
    (fun k hk _ => by
      have hk := mem_rg.mp hk
      exact xe_blt B.sum (xa_cons (XE.eq (xe_takeL (n := (k + 1).toNat) ls_lst (xv 4 rfl rfl rfl) (xe_bin (xv 6 rfl rfl rfl) xe_int ok_add) (by omega)) (by rw [← List.map_take])) xa_nil) cb_sum) (by rw [rgI_len]; omega))) (by decide +kernel) fun w => ?_
  have nd2 : (kLong :: kSpots :: ([] : List Key)).Nodup := by decide +kernel
  have nd4 : (kLong :: kSpots :: [kHeavy, kStrong]).Nodup := by decide +kernel
  refine xb_dputKS (c := ⟨b, _, 3, [], true⟩) (T1 := tWs b.K (heavyF (ds.drop 10) (longF ds n) (spotsF ds n))) (z := "heavy") 0 (xs_lend (P := isD) (Tp := tDK [(kLong, tInt (longF ds n)), (kSpots, tLst ((spotsF ds n).map tInt))]) 5 0 rfl rfl rfl seal_dK isD_q fr_tWs (xe_call hH (xa_cons (XE.eq (xe_dropL (n := 10) ls_lst (xv 0 rfl rfl rfl) xe_int rfl) (by rw [← List.map_drop])) (xa_cons (xv 5 rfl rfl rfl) xa_nil)) ⟨_, ds.drop 10, _, _, rfl, by rw [List.length_drop]; omega, wk2 (r := []) nd2, si, rfl⟩)) (xv 5 rfl rfl rfl) xe_str rfl (List.nodup_cons.mp (by decide +kernel : (kHeavy :: [kLong, kSpots]).Nodup)).1 (show 2 < 100000 by decide) ?_
  refine xb_dputNew (z := "strong") 0 (xn_lst xa_nil) (xv 5 rfl rfl rfl) xe_str rfl (List.nodup_cons.mp (by decide +kernel : (kStrong :: [kLong, kSpots, kHeavy]).Nodup)).1 (show 3 < 100000 by decide) fun q => ?_
  generalize hhv : heavyF (ds.drop 10) (longF ds n) (spotsF ds n) = hv
  have hvo : HvOk hv := hhv ▸ heavy_hv si
  have sm : ∀ k, k < n → Sm (rawF ds n hv k) := fun k hk => sm_of (raw_bd n4 hvo hk)
  refine xb_forL (xs := rgI n) (F := tInt) (js := [6]) (fun k => [tInt k]) (fun i => [some (tLst (ds.map tInt)), some (tInt (most : Int)), some (tInt (n : Int)), some (tInt (wideF ds)), some (tLst ((gapsF ds n).map tInt)), some (tRef w), none, none, none]) (fun i => [oLst q (((List.range i).map (strF ds n hv)).map (tFr b.K)), oDK w ([(kLong, tInt (longF ds n)), (kSpots, tLst ((spotsF ds n).map tInt)), (kHeavy, tWs b.K hv)] ++ [(kStrong, tRef q)])])
    (xl_rg1 B.range (xv 2 rfl rfl rfl) (by omega)) ⟨fun _ _ h => h, fun _ _ h => h, fun _ _ h => h, fun _ _ h => h, fun _ _ h => h, fun _ _ h => h, trivial⟩ rfl (fun k hk => xg_name 6) (fun i k hik Hi0 H0 => ?_) ?_
  · have hil : i < n := by have := (List.getElem?_eq_some_iff.mp hik).1; rwa [rgI_len] at this
    rw [rgI_at hil] at hik
    have ek : (i : Int) = k := Option.some.inj hik
    subst ek
    have mi := mod_in (x := dg ds (40 + i)) (m := 6) (by decide)
    have tr : Tri (spotsF ds n).length ((i : Int) - 1, (i : Int), (i : Int) + 1) := by rw [sl]; exact tri_k hil
    refine xb_asgS (c := ⟨b, _, 3, [], true⟩) (T1 := tFr b.K (loadOf (shW (longF ds n) (spotsF ds n)) hv ((i : Int) - 1, (i : Int), (i : Int) + 1))) 7 (xs_lend (P := isD) (Tp := tDK ([(kLong, tInt (longF ds n)), (kSpots, tLst ((spotsF ds n).map tInt)), (kHeavy, tWs b.K hv)] ++ [(kStrong, tRef q)])) 5 1 rfl rfl rfl seal_dK isD_q (fr_tFr nt_D)
      (xe_call hL (xa_cons (xv 5 rfl rfl rfl) (xa_cons (xe_dget (dg_heavy (K := b.K)) (xv 5 rfl rfl rfl) xe_str) (xa_cons (xe_tp (xa_cons (xe_bin (xv 6 rfl rfl rfl) xe_int ok_sub) (xa_cons (xv 6 rfl rfl rfl) (xa_cons (xe_bin (xv 6 rfl rfl rfl) xe_int ok_add) xa_nil)))) xa_nil))) ⟨_, _, longF ds n, spotsF ds n, ((i : Int) - 1, (i : Int), (i : Int) + 1), hv, rfl, wk2 nd4, kyU (K := b.K) (k := ((i : Int) - 1, (i : Int), (i : Int) + 1)), tr, rs, hvo, by omega, rfl⟩)) ?_
    refine xb_asg 8 (T1 := tFr b.K (moreF ds i)) (xe_ix (xe_lstD (Ts := (moresF ds i).map (tFr b.K)) (xa_cons (xe_tp (xa_cons xe_int (xa_cons xe_int xa_nil))) (xa_cons (XE.eq (xe_tp (xa_cons (xe_neg xe_int) (xa_cons xe_int xa_nil))) tFr_half) (xa_cons (XE.eq (xe_tp (xa_cons xe_int (xa_cons xe_int xa_nil))) tFr_third) (xa_cons (xe_tp (xa_cons xe_int (xa_cons xe_int xa_nil))) (xa_cons (xe_tp (xa_cons xe_int (xa_cons xe_int xa_nil))) (xa_cons (xe_tp (xa_cons (xe_bin (xe_bty B.int (xa_cons (xe_ix (xv 0 rfl rfl rfl) (xe_bin (xe_int (i := 50)) (xv 6 rfl rfl rfl) ok_add) (ix_at (n := 50 + i) sq_lst (by omega) (dg_at (by omega)))) xa_nil) cb_int) xe_int (ok_mod (by decide))) (xa_cons xe_int xa_nil))) xa_nil)))))) (hl := show (6 : Nat) ≤ 100000 by decide))
      (xe_bin (xe_bty B.int (xa_cons (xe_ix (xv 0 rfl rfl rfl) (xe_bin (xe_int (i := 40)) (xv 6 rfl rfl rfl) ok_add) (ix_at (n := 40 + i) sq_lst (by omega) (dg_at (by omega)))) xa_nil) cb_int) xe_int (ok_mod (by decide))) (ix_at (n := (dg ds (40 + i) % 6).toNat) sq_lst (show (((dg ds (40 + i) % 6).toNat : Nat) : Int) = dg ds (40 + i) % 6 by omega) (frs_at (by show (dg ds (40 + i) % 6).toNat < 6; omega)))) ?_
    refine xb_asg 7 (T1 := tFr b.K (rawF ds n hv i)) (xe_call hP (xa_cons (xv 7 rfl rfl rfl) (xa_cons (xv 8 rfl rfl rfl) xa_nil)) ⟨_, _, rfl, sm_of (lload_bd1 rs tr hvo), sm_of (more_bd ds i), rfl⟩) ?_
    refine xb_appS (c := ⟨b, _, 3, [], true⟩) (w := q) (T1 := tFr b.K (strF ds n hv i)) 0 (xs_lend (P := isD) (Tp := tDK ([(kLong, tInt (longF ds n)), (kSpots, tLst ((spotsF ds n).map tInt)), (kHeavy, tWs b.K hv)] ++ [(kStrong, tRef q)])) 5 1 rfl rfl rfl seal_dK isD_q fr_tRef (xe_dget (dg_strong (K := b.K)) (xv 5 rfl rfl rfl) xe_str))
      (xs_of (xe_ix (xe_lstD (xa_cons (xv 7 rfl rfl rfl) (xa_cons (xe_tp (xa_cons xe_int (xa_cons xe_int xa_nil))) xa_nil))) (xe_bty B.int (xa_cons (xe_cmp (fN (xv 7 rfl rfl rfl)) xe_int cm_lt) xa_nil) cb_intb) (ix_at (n := if (rawF ds n hv i).num < 0 then 1 else 0) sq_lst (by by_cases h : (rawF ds n hv i).num < 0 <;> simp [h]) (by
        unfold strF
        by_cases h : (rawF ds n hv i).num < 0
        · simp only [h, if_true]; rfl
        · simp only [h, if_false]; rfl)))) rfl (by simp; omega) ?_
    have e : ((List.range (i + 1)).map (strF ds n hv)).map (tFr b.K) = ((List.range i).map (strF ds n hv)).map (tFr b.K) ++ [tFr b.K (strF ds n hv i)] := by rw [List.range_succ]; simp
    rw [e]
    exact xb_end ⟨fun _ _ h => h, fun _ _ h => h, fun _ _ h => h, fun _ _ h => h, fun _ _ h => h, fun _ _ h => h, trivial⟩
  · rw [rgI_len]
    refine xb_seal2 5 rfl ?_
    show XB _ _ _ _ _ _ _ (tWo b.K ⟨longF ds n, spotsF ds n, hv, (List.range n).map (strF ds n hv)⟩)
    exact xb_retE (xv 5 rfl rfl rfl)
end Pf

set_option maxHeartbeats 4000000
namespace Pf
open PySem PySem.Spec PyProof.Rows L2 Lg Ra
/-! ### the law's tables and lots -/
abbrev kyL (k : Tr) : List Key := [k.1, k.2.1, k.2.2].map Sum.inl
theorem kyL_inj {k l : Tr} (h : kyL k = kyL l) : k = l := by
  obtain ⟨a, b, c⟩ := k
  obtain ⟨d, e, f⟩ := l
  simp [kyL] at h
  obtain ⟨rfl, rfl, rfl⟩ := h
  rfl
theorem kyL_nodup (n : Nat) : ((keysF n).map kyL).Nodup := List.pairwise_map.mpr ((keys_nodup n).imp fun h e => h (kyL_inj e))
def tbF (n : Nat) (F : Tr → Ty) : List (List Key × Ty) := (keysF n).map fun k => (kyL k, F k)
abbrev tTab (n : Nat) (F : Tr → Ty) : Ty := tDT (tbF n F)
theorem tb_keys (n : Nat) (F : Tr → Ty) : (tbF n F).map (·.1) = (keysF n).map kyL := by unfold tbF; rw [List.map_map]; rfl
theorem tab_dg {n : Nat} {F : Tr → Ty} {k : Tr} (h : Tri n k) : DgK (tTab n F) (tKT k) (F k) := by
  obtain ⟨i, hi⟩ := List.mem_iff_getElem?.mp (mem_keys.mpr h)
  refine dg_T (k := kyL k) (i := i) ?_ (by rw [tb_keys]; exact kyL_nodup n)
  unfold tbF
  rw [List.getElem?_map, hi]
  rfl
theorem tb_take_new {n : Nat} {F : Tr → Ty} {i : Nat} {k : Tr} (h : (keysF n)[i]? = some k) : kyL k ∉ (((keysF n).take i).map fun k => (kyL k, F k)).map (·.1) := fun m => by
  rw [List.map_map] at m
  obtain ⟨l, hl, e⟩ := List.mem_map.mp m
  have e := kyL_inj e
  subst e
  obtain ⟨j, hj⟩ := List.mem_iff_getElem?.mp hl
  have nd := keys_nodup n
  rw [List.getElem?_take] at hj
  split at hj
  · rename_i hlt
    have h1 := List.getElem?_eq_some_iff.mp hj
    have h2 := List.getElem?_eq_some_iff.mp h
    obtain ⟨l1, e1⟩ := h1
    obtain ⟨l2, e2⟩ := h2
    exact (List.pairwise_iff_getElem.mp nd) j i l1 l2 hlt (e1.trans e2.symm)
  · simp at hj
theorem tb_take_succ {n : Nat} {F : Tr → Ty} {i : Nat} {k : Tr} (h : (keysF n)[i]? = some k) : ((keysF n).take (i + 1)).map (fun k => (kyL k, F k)) = ((keysF n).take i).map (fun k => (kyL k, F k)) ++ [(kyL k, F k)] := by
  rw [take_snoc h, List.map_append]; rfl
structure Wo.Ok (w : Wo) : Prop where
  l2 : 2 ≤ w.L
  n1 : 1 ≤ w.n
  n4 : w.n ≤ 4
  len : w.st.length = w.n
  rise : Rise w.L w.sp
  st : ∀ s ∈ w.st, Bd 450 s ∧ 0 ≤ s
  hv : HvOk w.hv
def Wo.pk (w : Wo) : Pk := ⟨w.L, w.sp.zip w.st⟩
theorem plc_at {L : Int} {sp : List Int} {i : Nat} {x : Int} (h : sp[i]? = some x) : plc L sp (i : Int) = x := plc_prop h
theorem wo_pk {w : Wo} (o : w.Ok) : w.pk.Ok := by
  refine ⟨o.l2, o.rise.L1, ?_, fun s hs => ?_, fun i s t hs ht => ?_⟩
  · show (w.sp.zip w.st).length ≤ 12
    rw [List.length_zip]; have := o.n4; unfold Wo.n at this; omega
  · obtain ⟨i, hi⟩ := List.mem_iff_getElem?.mp hs
    obtain ⟨h1, h2⟩ := List.getElem?_zip_eq_some.mp hi
    have il := (List.getElem?_eq_some_iff.mp h1).1
    have a := o.rise.lt (-1) i (by omega) (by omega) (by omega)
    have b := o.rise.lt i w.sp.length (by omega) (by omega) (by omega)
    rw [plc_at h1] at a b
    rw [show plc w.L w.sp (-1) = 0 from rfl] at a
    rw [plc_right] at b
    have m := List.mem_of_getElem? h2
    exact ⟨a, b, sm_of (o.st _ m).1, (o.st _ m).2⟩
  · obtain ⟨h1, _⟩ := List.getElem?_zip_eq_some.mp hs
    obtain ⟨h2, _⟩ := List.getElem?_zip_eq_some.mp ht
    have il := (List.getElem?_eq_some_iff.mp h2).1
    have a := o.rise.lt i (i + 1 : Nat) (by omega) (by omega) (by omega)
    rw [plc_at h1, plc_at h2] at a
    exact a
/-! made -/
def spMade (K : PySem.W.Frag) (C : Addr) : FS := fun _ Ts T => ∃ w : Wo, Ts = [tWo K w] ∧ w.Ok ∧ T = tPk K C w.pk
abbrev FMade (b : Bs) (C : Addr) : Prop := FnAt b "_law_made" 1 (spOf 1 (spMade b.K C)) 8
abbrev MPk (b : Bs) (C : Addr) : Prop := MkAt b "Plank" C [V.non] (spMk C 4 (spInitP b.K C)) 6
theorem xf_made {b : Bs} {C : Addr} (B : Bt b) (hM : MPk b C) : XF b ["_law_world_here"] 7 (scOf 68) 1 (bodyOf 68) (spMade b.K C) := by
  rintro W Ts T ⟨w, rfl, o, rfl⟩ - Hi0 H0
  have hz : ((w.sp.zip w.st).map fun s => [tInt s.1, tFr b.K s.2]).map (tTup b.K) = w.pk.st.map (tPr b.K) := by rw [List.map_map]; rfl
  refine xb_retE (xe_make (Us := [tNon]) hM (xa_cons (xe_dget (dg_long (K := b.K)) (xv 0 rfl rfl rfl) xe_str) (xa_cons (XE.eq (xn_lz2L (Rs := (w.sp.zip w.st).map fun s => [tInt s.1, tFr b.K s.2]) B.list B.zip ls_lst ls_lst (xe_dget (dg_spots (K := b.K)) (xv 0 rfl rfl rfl) xe_str) (xe_dget (dg_strong (K := b.K)) (xv 0 rfl rfl rfl) xe_str) ?_ ?_).xe (congrArg Lg.tLst hz)) xa_nil)) (fun Hi => ⟨rfl, trivial⟩) ⟨w.pk, rfl, wo_pk o, rfl⟩)
  · rw [List.length_map, List.length_zip, List.length_map, List.length_map]
  · intro j R hR
    rw [List.getElem?_map] at hR
    obtain ⟨s, hs, rfl⟩ := Option.map_eq_some_iff.mp hR
    obtain ⟨h1, h2⟩ := List.getElem?_zip_eq_some.mp hs
    exact ⟨_, _, by rw [List.getElem?_map, h1]; rfl, by rw [List.getElem?_map, h2]; rfl, rfl⟩
/-! spares, lying -/
abbrev lodF (w : Wo) (ws : Wts) (k : Tr) : Rat := loadOf (shW w.L w.sp) ws k
abbrev spaF (w : Wo) (ws : Wts) (k : Tr) : Rat := w.st.getD k.2.1.toNat 0 - lodF w ws k
theorem lod_bd {w : Wo} (o : w.Ok) {ws : Wts} (h : HvOk ws) {k : Tr} (t : Tri w.n k) : Bd 400 (lodF w ws k) := lload_bd1 o.rise t h
theorem Wo.Ok.str {w : Wo} (o : w.Ok) {k : Nat} (h : k < w.n) : Bd 450 (w.st.getD k 0) ∧ 0 ≤ w.st.getD k 0 := by
  have l := o.len
  have e : w.st[k]? = some w.st[k] := List.getElem?_eq_getElem (by omega)
  rw [List.getD_eq_getElem?_getD, e]
  exact o.st _ (List.getElem_mem _)
def spSpares (K : PySem.W.Frag) : FS := fun _ Ts T => ∃ (w : Wo) (ws : Wts), Ts = [tWo K w, tWs K ws] ∧ w.Ok ∧ HvOk ws ∧ T = tTab w.n fun k => tFr K (spaF w ws k)
abbrev FSpares (b : Bs) : Prop := FnAt b "_law_spares" 2 (spOf 2 (spSpares b.K)) 4
theorem xf_spares {b : Bs} (B : Bt b) (hK : FKeys b) (hM : FLMinus b) (hL : FLLoad b) : XF b ["_law_world_here", "_law_heavy_here", "_law_found", "_law_key"] 3 (scOf 69) 2 (bodyOf 69) (spSpares b.K) := by
  rintro W Ts T ⟨w, ws, rfl, o, hw, rfl⟩ - Hi0 H0
  have kl := keys_len (n := w.n) (by have := o.n4; omega)
  refine xb_ownT 2 fun p => ?_
  refine xb_forL (xs := keysF w.n) (F := tKT) (js := [3]) (fun k => [tKT k]) (fun i => [some (tWo b.K w), some (tWs b.K ws), some (tRef p), none]) (fun i => [oDT p (((keysF w.n).take i).map fun k => (kyL k, tFr b.K (spaF w ws k)))])
    (xl_list ls_lst (xe_call hK (xa_cons (xe_blt B.len (xa_cons (xe_dget (dg_spots (K := b.K)) (xv 0 rfl rfl rfl) xe_str) xa_nil) (cb_len sq_lst)) xa_nil) ⟨w.n, by simp, by have := o.n4; omega, rfl⟩)) ⟨fun _ _ h => h, fun _ _ h => h, fun _ _ h => h, trivial⟩ rfl (fun k hk => xg_name 3) (fun i k hik Hi0 H0 => ?_) ?_
  · have t := mem_keys.mp (List.mem_of_getElem? hik)
    have il := (List.getElem?_eq_some_iff.mp hik).1
    have t1 : 0 ≤ k.2.1 ∧ k.2.1 < w.n := ⟨by have := t.lo; have := t.lp; omega, by have := t.pr; have := t.hi; omega⟩
    refine xb_dputT 0 (key := kyL k) (T1 := tFr b.K (spaF w ws k)) (xe_call hM (xa_cons (xe_ix (xe_dget (dg_strong (K := b.K)) (xv 0 rfl rfl rfl) xe_str) (xe_ix (xv 3 rfl rfl rfl) xe_int (ix_at (n := 1) sq_key rfl rfl)) (ix_at (n := k.2.1.toNat) sq_lst (by omega) (frs_at (by rw [o.len]; omega))))
      (xa_cons (xe_call hL (xa_cons (xv 0 rfl rfl rfl) (xa_cons (xv 1 rfl rfl rfl) (xa_cons (xv 3 rfl rfl rfl) xa_nil))) ⟨tWo b.K w, tKT k, w.L, w.sp, k, ws, rfl, wk_wo, kyT, t, o.rise, hw, by have := o.n4; unfold Wo.n at this; omega, rfl⟩) xa_nil)) ⟨_, _, rfl, sm_of (o.str (by omega)).1, sm_of (lod_bd o hw t), rfl⟩) (xv 2 rfl rfl rfl) (xv 3 rfl rfl rfl) rfl (tb_take_new hik) (by rw [List.length_map, List.length_take]; omega) ?_
    rw [tb_take_succ hik]
    exact xb_end ⟨fun _ _ h => h, fun _ _ h => h, fun _ _ h => h, trivial⟩
  · rw [List.take_length]
    exact xb_seal 2 rfl seal_dT (xb_retE (xv 2 rfl rfl rfl))
def spLying (K : PySem.W.Frag) : FS := fun _ Ts T => ∃ (w : Wo) (ws : Wts), Ts = [tWo K w, tWs K ws] ∧ w.Ok ∧ HvOk ws ∧ T = tTab w.n fun k => tFr K (lodF w ws k)
abbrev FLying (b : Bs) : Prop := FnAt b "_law_lying" 2 (spOf 2 (spLying b.K)) 4
theorem xf_lying {b : Bs} (B : Bt b) (hK : FKeys b) (hL : FLLoad b) : XF b ["_law_world_here", "_law_heavy_here", "_law_key"] 3 (scOf 74) 2 (bodyOf 74) (spLying b.K) := by
  rintro W Ts T ⟨w, ws, rfl, o, hw, rfl⟩ - Hi0 H0
  have kl := keys_len (n := w.n) (by have := o.n4; omega)
  refine xb_retE (xe_bty B.dict (xa_cons (xe_lcM (xc (xs := keysF w.n) (F := tKT) [("_law_key", 2)] [2] (fun k => [tKT k]) (fun _ => true) (fun k => tTup b.K [tKey (kyL k), tFr b.K (lodF w ws k)])
    (xl_list ls_lst (xe_call hK (xa_cons (xe_blt B.len (xa_cons (xe_dget (dg_spots (K := b.K)) (xv 0 rfl rfl rfl) xe_str) xa_nil) (cb_len sq_lst)) xa_nil) ⟨w.n, by simp, by have := o.n4; omega, rfl⟩)) (fun k hk => xg_name 2) (fun k hk => xts_nil)
    (fun k hk _ => xe_tp (xa_cons (xv 2 rfl rfl rfl) (xa_cons (xe_call hL (xa_cons (xv 0 rfl rfl rfl) (xa_cons (xv 1 rfl rfl rfl) (xa_cons (xv 2 rfl rfl rfl) xa_nil))) ⟨tWo b.K w, tKT k, w.L, w.sp, k, ws, rfl, wk_wo, kyT, mem_keys.mp hk, o.rise, hw, by have := o.n4; unfold Wo.n at this; omega, rfl⟩) xa_nil))) (by omega))) xa_nil) (cb_dictT (kyL_nodup w.n)))
/-! beside -/
def besF (n : Nat) (lot : List Int) : List Tr := lot.map (kOn n lot)
def spBeside (K : PySem.W.Frag) : FS := fun _ Ts T => ∃ (n : Nat) (lot : List Int), Ts = [tInt (n : Int), tLo K lot] ∧ n ≤ 100 ∧ Lot n lot ∧ T = tLst ((besF n lot).map tKT)
abbrev FBeside (b : Bs) : Prop := FnAt b "_law_beside" 2 (spOf 2 (spBeside b.K)) 1
theorem bes_zip {n : Nat} {lot : List Int} : (lot.zipIdx.map fun q => kOn n lot q.1) = besF n lot := by
  unfold besF
  rw [show (fun q : Int × Nat => kOn n lot q.1) = kOn n lot ∘ Prod.fst from rfl, ← List.map_map, List.zipIdx_map_fst]
theorem xf_beside {b : Bs} (B : Bt b) : XF b ["_law_many", "_law_stood_here", "_law_rests", "_law_k", "_law_prop"] 0 (scOf 71) 2 (bodyOf 71) (spBeside b.K) := by
  rintro W Ts T ⟨n, lot, rfl, hn, lo, rfl⟩ - Hi0 H0
  have ll := lot_len lo
  have er : (([tInt (-1)] ++ lot.map tInt) ++ [tInt (n : Int)]) = (rests n lot).map tInt := by unfold rests; simp
  refine xb_asg 2 (T1 := tLst ((rests n lot).map tInt)) (XE.eq (xe_bin (xe_bin (xe_lstD (xa_cons (xe_neg xe_int) xa_nil)) (xe_bty B.list (xa_cons (xv 1 rfl rfl rfl) xa_nil) (cb_list sq_tup)) (ok_catL (by simp; omega))) (xe_lstD (xa_cons (xv 0 rfl rfl rfl) xa_nil)) (ok_catL (by simp; omega))) (congrArg Lg.tLst er)) ?_
  refine xb_retE (XE.eq (xe_lcG (F := tKT) (g := fun q : Int × Nat => kOn n lot q.1) (xc (xs := lot.zipIdx) (F := fun q => tTup b.K [tInt (q.2 : Int), tInt q.1]) [("_law_k", 3), ("_law_prop", 4)] [3, 4] (fun q => [tInt (q.2 : Int), tInt q.1]) (fun _ => true) (fun q => tKT (kOn n lot q.1))
    (xl_enumT B.enumerate tp_tup (xv 1 rfl rfl rfl)) (fun q hq => xg_tup (xgs_cons (xg_name 3) (xgs_cons (xg_name 4) xgs_nil)) tp_tup) (fun q hq => xts_nil)
    (fun q hq _ => by
      have hq : lot[q.2]? = some q.1 := List.mk_mem_zipIdx_iff_getElem?.mp hq
      have r := rests_at lo hq
      exact xe_key [lft lot q.1, q.1, rgt n lot q.1] (xa_cons (xe_ix (xv 2 rfl rfl rfl) (xv 3 rfl rfl rfl) (ix_at (n := q.2) sq_lst rfl (by rw [List.getElem?_map, r.1]; rfl))) (xa_cons (xv 4 rfl rfl rfl) (xa_cons (xe_ix (xv 2 rfl rfl rfl) (xe_bin (xv 3 rfl rfl rfl) xe_int ok_add) (ix_at (n := q.2 + 2) sq_lst (by omega) (by rw [List.getElem?_map, r.2]; rfl))) xa_nil))) (by simp)) (by rw [List.length_zipIdx]; omega))) (by rw [bes_zip]))
end Pf

set_option maxHeartbeats 4000000
namespace Pf
open PySem PySem.Spec PyProof.Rows L2 Lg Ra
/-! ### the union of all lots that stand -/
def bitsF (n m : Nat) : List Int := (rgI n).filter fun k => decide ((m : Int) / 2 ^ k.toNat % 2 = 1)
def stepF (n : Nat) (f : Tr → Bool) (found : List Int) (m : Nat) : List Int := if (besF n (bitsF n m)).any f then found else srt (found ++ bitsF n m)
def greF (n : Nat) (f : Tr → Bool) : List Int := (List.range (2 ^ n)).foldl (stepF n f) []
theorem bits_lot (n m : Nat) : Lot n (bitsF n m) := (lot_rg n).filter _
theorem step_lot {n m : Nat} {f : Tr → Bool} {found : List Int} (h : Lot n found) : Lot n (stepF n f found m) := by
  unfold stepF
  split
  · exact h
  · refine ⟨srt_rise _, fun p hp => ?_⟩
    rcases List.mem_append.mp (srt_mem.mp hp) with h1 | h1
    · exact h.at_ p h1
    · exact (bits_lot n m).at_ p h1
theorem gre_take {n : Nat} {f : Tr → Bool} (i : Nat) : Lot n ((List.range i).foldl (stepF n f) []) := by
  induction i with
  | zero => exact ⟨List.Pairwise.nil, fun p hp => by simp at hp⟩
  | succ i ih => rw [List.range_succ, List.foldl_append]; exact step_lot ih
theorem gre_lot (n : Nat) (f : Tr → Bool) : Lot n (greF n f) := gre_take _
theorem any_bes {n : Nat} {lot : List Int} {f : Tr → Bool} : ((rgI lot.length).map fun k => f (kOn n lot (lot.getD k.toNat 0))).any id = (besF n lot).any f := by
  unfold besF rgI
  rw [List.map_map, List.any_map, List.any_map, Bool.eq_iff_iff, List.any_eq_true, List.any_eq_true]
  constructor
  · rintro ⟨i, hi, h⟩
    have hi := List.mem_range.mp hi
    refine ⟨lot[i], List.getElem_mem hi, ?_⟩
    simpa [List.getElem?_eq_getElem hi] using h
  · rintro ⟨p, hp, h⟩
    obtain ⟨i, hi, rfl⟩ := List.mem_iff_getElem.mp hp
    refine ⟨i, List.mem_range.mpr hi, ?_⟩
    simpa [List.getElem?_eq_getElem hi] using h
def spGreatest (K : PySem.W.Frag) : FS := fun _ Ts T => ∃ (n : Nat) (f : Tr → Bool), Ts = [tInt (n : Int), tTab n fun k => tBl (f k)] ∧ n ≤ 4 ∧ T = tLo K (greF n f)
abbrev FGreatest (b : Bs) : Prop := FnAt b "_law_greatest" 2 (spOf 2 (spGreatest b.K)) 1
theorem xf_greatest {b : Bs} (B : Bt b) : XF b ["_law_many", "_law_fails", "_law_found", "_law_number", "_law_some", "_law_rests", "_law_k"] 0 (scOf 70) 2 (bodyOf 70) (spGreatest b.K) := by
  rintro W Ts T ⟨n, f, rfl, hn, rfl⟩ - Hi0 H0
  have h16 : 2 ^ n ≤ 16 := Nat.le_trans (Nat.pow_le_pow_right (by decide) hn) (by decide)
  refine xb_asg 2 (T1 := tLst ((([] : List Int)).map tInt)) (xe_lstD xa_nil) ?_
  refine xb_forL (xs := rgI (2 ^ n)) (F := tInt) (js := [3]) (fun m => [tInt m]) (fun i => [some (tInt (n : Int)), some (tTab n fun k => tBl (f k)), some (tLst (((List.range i).foldl (stepF n f) []).map tInt)), none, none, none, none]) (fun i => [])
    (xl_rg1 B.range (XE.eq (xe_bin (xe_int (i := 1)) (xv 0 rfl rfl rfl) (ok_shl ⟨by omega, by omega, by decide⟩)) (congrArg tInt (by simp))) (by omega)) ⟨fun _ _ h => h, fun _ _ h => h, fun _ _ h => h, trivial⟩ rfl (fun m hm => xg_name 3) (fun i m hi Hi0 H0 => ?_) ?_
  · have il : i < 2 ^ n := by have := (List.getElem?_eq_some_iff.mp hi).1; rwa [rgI_len] at this
    rw [rgI_at il] at hi
    have e : (i : Int) = m := Option.some.inj hi
    subst e
    have lo := bits_lot n i
    have ll := lot_len lo
    have fl := lot_len (gre_take (n := n) (f := f) i)
    have er : (([tInt (-1)] ++ (bitsF n i).map tInt) ++ [tInt (n : Int)]) = (rests n (bitsF n i)).map tInt := by unfold rests; simp
    have hs : (List.range (i + 1)).foldl (stepF n f) [] = stepF n f ((List.range i).foldl (stepF n f) []) i := by rw [List.range_succ, List.foldl_append]; rfl
    refine xb_lcF 4 (xc (xs := rgI n) (F := tInt) [("_law_k", 6)] [6] (fun k => [tInt k]) (fun k => decide ((i : Int) / 2 ^ k.toNat % 2 = 1)) tInt (xl_rg1 B.range (xv 0 rfl rfl rfl) (by omega)) (fun k hk => xg_name 6)
      (fun k hk => xts_one (xt_cmp (xe_bin (xe_bty B.int (xa_cons (xe_bin (xv 3 rfl rfl rfl) (xv 6 rfl rfl rfl) (ok_shr (mem_rg.mp hk).1)) xa_nil) cb_int) xe_int (ok_mod (by decide))) xe_int cm_eq)) (fun k hk _ => xv 6 rfl rfl rfl) (by rw [rgI_len]; omega)) ?_
    refine xb_asg 5 (T1 := tLst ((rests n (bitsF n i)).map tInt)) (XE.eq (xe_bin (xe_bin (xe_lstD (xa_cons (xe_neg xe_int) xa_nil)) (xv 4 rfl rfl rfl) (ok_catL (by rw [List.length_map]; show 1 + (bitsF n i).length ≤ 100000; omega))) (xe_lstD (xa_cons (xv 0 rfl rfl rfl) xa_nil)) (ok_catL (by rw [List.length_append, List.length_map]; show 1 + (bitsF n i).length + 1 ≤ 100000; omega))) (congrArg Lg.tLst er)) ?_
    refine xb_if (p := !(besF n (bitsF n i)).any f) (M := SS W Hi0 H0 [some (tInt (n : Int)), some (tTab n fun k => tBl (f k)), some (tLst (((List.range (i + 1)).foldl (stepF n f) []).map tInt)), none, none, none, none] []) (xt_not (XT.eq (xt_val (xe_blt B.any (xa_cons (xe_lcG (F := tBl) (g := fun k : Int => f (kOn n (bitsF n i) ((bitsF n i).getD k.toNat 0))) (xc (xs := rgI (bitsF n i).length) (F := tInt) [("_law_k", 6)] [6] (fun k => [tInt k]) (fun _ => true) (fun k => tBl (f (kOn n (bitsF n i) ((bitsF n i).getD k.toNat 0))))
      (xl_rg1 B.range (XE.eq (xe_blt B.len (xa_cons (xv 4 rfl rfl rfl) xa_nil) (cb_len sq_lst)) (congrArg tInt (by rw [List.length_map]; rfl))) (by omega)) (fun k hk => xg_name 6) (fun k hk => xts_nil)
      (fun k hk _ => by
        have hk := mem_rg.mp hk
        have kl : k.toNat < (bitsF n i).length := by omega
        have e1 : (bitsF n i)[k.toNat]? = some ((bitsF n i).getD k.toNat 0) := by rw [List.getD_eq_getElem?_getD, List.getElem?_eq_getElem kl]; rfl
        have r := rests_at lo e1
        have r1 : (rests n (bitsF n i))[k.toNat + 1]? = some ((bitsF n i).getD k.toNat 0) := by
          show ((bitsF n i) ++ [(n : Int)])[k.toNat]? = _
          rw [List.getElem?_append_left kl]; exact e1
        refine xe_dget (tab_dg (k := kOn n (bitsF n i) ((bitsF n i).getD k.toNat 0)) (F := fun k => tBl (f k)) (lo.tri (List.mem_of_getElem? e1))) (xv 1 rfl rfl rfl) (xe_key [lft (bitsF n i) ((bitsF n i).getD k.toNat 0), (bitsF n i).getD k.toNat 0, rgt n (bitsF n i) ((bitsF n i).getD k.toNat 0)] (xa_cons (xe_ix (xv 5 rfl rfl rfl) (xv 6 rfl rfl rfl) (ix_at (n := k.toNat) sq_lst (by omega) (by rw [List.getElem?_map, r.1]; rfl))) (xa_cons (xe_ix (xv 5 rfl rfl rfl) (xe_bin (xv 6 rfl rfl rfl) xe_int ok_add) (ix_at (n := k.toNat + 1) sq_lst (by omega) (by rw [List.getElem?_map, r1]; rfl))) (xa_cons (xe_ix (xv 5 rfl rfl rfl) (xe_bin (xv 6 rfl rfl rfl) xe_int ok_add) (ix_at (n := k.toNat + 2) sq_lst (by omega) (by rw [List.getElem?_map, r.2]; rfl))) xa_nil))) (by simp))) (by rw [rgI_len]; omega))) xa_nil) cb_any)) any_bes)) (fun h => ?_) (fun h => ?_) ?_
    · have h : (besF n (bitsF n i)).any f = false := by simpa using h
      refine xb_asg 2 (T1 := tLst (((List.range (i + 1)).foldl (stepF n f) []).map tInt)) (XE.eq (xn_ssl (is := (List.range i).foldl (stepF n f) [] ++ bitsF n i) B.sorted B.set ls_lst (XE.eq (xe_bin (xv 2 rfl rfl rfl) (xv 4 rfl rfl rfl) (ok_catL (by rw [List.length_map, List.length_map]; show _ + (bitsF n i).length ≤ 100000; omega))) (by rw [List.map_append]; rfl)) (by rw [List.length_append]; omega)).xe (by rw [hs]; unfold stepF; rw [h]; rfl)) ?_
      exact xb_end ⟨fun _ _ h => h, fun _ _ h => h, fun _ _ h => h, trivial⟩
    · have h : (besF n (bitsF n i)).any f = true := by simpa using h
      have e : (List.range (i + 1)).foldl (stepF n f) [] = (List.range i).foldl (stepF n f) [] := by rw [hs]; unfold stepF; rw [h]; rfl
      rw [e]
      exact xb_end ⟨fun _ _ h => h, fun _ _ h => h, fun _ _ h => h, trivial⟩
    · exact xb_end ⟨fun _ _ h => h, fun _ _ h => h, fun _ _ h => h, trivial⟩
  · rw [rgI_len]
    exact xb_retE (xe_bty B.tuple (xa_cons (xv 2 rfl rfl rfl) xa_nil) (cb_tuple sq_lst))
end Pf

set_option maxHeartbeats 4000000
namespace Pf
open PySem PySem.Spec PyProof.Rows L2 Lg Ra
theorem tb_at {n : Nat} {F : Tr → Ty} {i : Nat} {x : List Key × Ty} (h : (tbF n F)[i]? = some x) : ∃ k, (keysF n)[i]? = some k ∧ x = (kyL k, F k) := by
  unfold tbF at h
  rw [List.getElem?_map] at h
  obtain ⟨k, h1, h2⟩ := Option.map_eq_some_iff.mp h
  exact ⟨k, h1, h2.symm⟩
theorem tb_len {n : Nat} {F : Tr → Ty} : (tbF n F).length = (keysF n).length := by unfold tbF; rw [List.length_map]
theorem tri_mid {n : Nat} {k : Tr} (t : Tri n k) : 0 ≤ k.2.1 ∧ k.2.1 < n := ⟨by have := t.lo; have := t.lp; omega, by have := t.pr; have := t.hi; omega⟩
/-! kept -/
def kepF (f : Tr → Rat) (held gone : List Int) (k : Tr) : Bool := decide (k.2.1 ∈ gone) || (!decide (k.2.1 ∈ held) && decide ((f k).num < 0))
def spKept (K : PySem.W.Frag) : FS := fun _ Ts T => ∃ (n : Nat) (f : Tr → Rat) (held gone : List Int), Ts = [tTab n fun k => tFr K (f k), tInt (n : Int), tLo K held, tLst (gone.map tInt)] ∧ n ≤ 4 ∧ T = tLo K (greF n (kepF f held gone))
abbrev FKept (b : Bs) : Prop := FnAt b "_law_kept" 4 (spOf 4 (spKept b.K)) 2
theorem xf_kept {b : Bs} (B : Bt b) (hG : FGreatest b) : XF b ["_law_spares_here", "_law_many", "_law_held", "_law_gone", "_law_fails", "_law_key"] 1 (scOf 72) 4 (bodyOf 72) (spKept b.K) := by
  rintro W Ts T ⟨n, f, held, gone, rfl, hn, rfl⟩ - Hi0 H0
  have kl := keys_len (n := n) (by omega)
  refine xb_ownT 4 fun p => ?_
  refine xb_forK (ks := tbF n fun k => tFr b.K (f k)) (js := [5]) (fun x => [tKey x.1]) (fun i => [some (tTab n fun k => tFr b.K (f k)), some (tInt (n : Int)), some (tLo b.K held), some (tLst (gone.map tInt)), some (tRef p), none]) (fun i => [oDT p (((keysF n).take i).map fun k => (kyL k, tBl (kepF f held gone k)))])
    ⟨fun _ _ h => h, fun _ _ h => h, fun _ _ h => h, fun _ _ h => h, fun _ _ h => h, trivial⟩ rfl (sel_v 0 rfl rfl rfl) (fun x hx => xg_name 5) (fun i x hi Hi0 H0 => ?_) ?_
  · obtain ⟨k, hik, rfl⟩ := tb_at hi
    have t := mem_keys.mp (List.mem_of_getElem? hik)
    have il := (List.getElem?_eq_some_iff.mp hik).1
    refine xb_dputT 0 (key := kyL k) (T1 := tBl (kepF f held gone k)) (xe_or (xe_cmp (xe_ix (T1 := tKT k) (xv 5 rfl rfl rfl) xe_int (ix_at (n := 1) sq_key rfl rfl)) (xv 3 rfl rfl rfl) (cm_in sq_lst)) fun _ => xe_one (xe_and (xe_cmp (xe_ix (T1 := tKT k) (xv 5 rfl rfl rfl) xe_int (ix_at (n := 1) sq_key rfl rfl)) (xv 2 rfl rfl rfl) (cm_notIn sq_tup)) fun _ => xe_one (xe_cmp (fN (xe_dget (tab_dg (F := fun k => tFr b.K (f k)) t) (xv 0 rfl rfl rfl) (xv 5 rfl rfl rfl))) xe_int cm_lt))) (xv 4 rfl rfl rfl) (xv 5 rfl rfl rfl) rfl (tb_take_new hik) (by rw [List.length_map, List.length_take]; omega) ?_
    rw [tb_take_succ (F := fun k => tBl (kepF f held gone k)) hik]
    exact xb_end ⟨fun _ _ h => h, fun _ _ h => h, fun _ _ h => h, fun _ _ h => h, fun _ _ h => h, trivial⟩
  · rw [tb_len, List.take_length]
    refine xb_seal 4 rfl seal_dT ?_
    exact xb_retE (xe_call hG (xa_cons (xv 1 rfl rfl rfl) (xa_cons (xv 4 rfl rfl rfl) xa_nil)) ⟨n, kepF f held gone, rfl, hn, rfl⟩)
/-! stood -/
def stoF (st : List Rat) (f : Tr → Rat) (k : Tr) : Bool := decide (st.getD k.2.1.toNat 0 < f k)
def spStood (K : PySem.W.Frag) : FS := fun _ Ts T => ∃ (w : Wo) (f : Tr → Rat) (st : List Rat), Ts = [tWo K w, tTab w.n fun k => tFr K (f k), tLst (st.map (tFr K))] ∧ w.n ≤ 4 ∧ st.length = w.n ∧ (∀ s ∈ st, Sm s) ∧ (∀ k, Tri w.n k → Sm (f k)) ∧ T = tLo K (greF w.n (stoF st f))
abbrev FStood (b : Bs) : Prop := FnAt b "_law_stood" 3 (spOf 3 (spStood b.K)) 2
theorem getD_mem {st : List Rat} {i : Nat} (h : i < st.length) : st.getD i 0 ∈ st := by
  rw [List.getD_eq_getElem?_getD, List.getElem?_eq_getElem h]; exact List.getElem_mem h
theorem xf_stood {b : Bs} (B : Bt b) (hG : FGreatest b) (hB : FLBelow b) : XF b ["_law_world_here", "_law_lying_here", "_law_strong", "_law_fails", "_law_key"] 1 (scOf 75) 3 (bodyOf 75) (spStood b.K) := by
  rintro W Ts T ⟨w, f, st, rfl, hn, hl, hs, hf, rfl⟩ - Hi0 H0
  have kl := keys_len (n := w.n) (by omega)
  refine xb_ownT 3 fun p => ?_
  refine xb_forK (ks := tbF w.n fun k => tFr b.K (f k)) (js := [4]) (fun x => [tKey x.1]) (fun i => [some (tWo b.K w), some (tTab w.n fun k => tFr b.K (f k)), some (tLst (st.map (tFr b.K))), some (tRef p), none]) (fun i => [oDT p (((keysF w.n).take i).map fun k => (kyL k, tBl (stoF st f k)))])
    ⟨fun _ _ h => h, fun _ _ h => h, fun _ _ h => h, fun _ _ h => h, trivial⟩ rfl (sel_v 1 rfl rfl rfl) (fun x hx => xg_name 4) (fun i x hi Hi0 H0 => ?_) ?_
  · obtain ⟨k, hik, rfl⟩ := tb_at hi
    have t := mem_keys.mp (List.mem_of_getElem? hik)
    have t1 := tri_mid t
    have il := (List.getElem?_eq_some_iff.mp hik).1
    refine xb_dputT 0 (key := kyL k) (T1 := tBl (stoF st f k)) (xe_call hB (xa_cons (xe_ix (xv 2 rfl rfl rfl) (xe_ix (T1 := tKT k) (xv 4 rfl rfl rfl) xe_int (ix_at (n := 1) sq_key rfl rfl)) (ix_at (n := k.2.1.toNat) sq_lst (by omega) (frs_at (by omega)))) (xa_cons (xe_dget (tab_dg (F := fun k => tFr b.K (f k)) t) (xv 1 rfl rfl rfl) (xv 4 rfl rfl rfl)) xa_nil)) ⟨_, _, rfl, hs _ (getD_mem (by omega)), hf k t, rfl⟩) (xv 3 rfl rfl rfl) (xv 4 rfl rfl rfl) rfl (tb_take_new hik) (by rw [List.length_map, List.length_take]; omega) ?_
    rw [tb_take_succ (F := fun k => tBl (stoF st f k)) hik]
    exact xb_end ⟨fun _ _ h => h, fun _ _ h => h, fun _ _ h => h, fun _ _ h => h, trivial⟩
  · rw [tb_len, List.take_length]
    refine xb_seal 3 rfl seal_dT ?_
    exact xb_retE (xe_call hG (xa_cons (xe_blt B.len (xa_cons (xe_dget (dg_spots (K := b.K)) (xv 0 rfl rfl rfl) xe_str) xa_nil) (cb_len sq_lst)) (xa_cons (xv 3 rfl rfl rfl) xa_nil)) ⟨w.n, stoF st f, by rw [List.length_map]; rfl, hn, rfl⟩)
/-! on -/
theorem filt_one {p : Int} : ∀ {lot : List Int}, lot.Pairwise (· < ·) → p ∈ lot → (lot.filter fun q => decide (q = p)) = [p]
  | x :: l, h, m => by
    obtain ⟨h1, h2⟩ := List.pairwise_cons.mp h
    by_cases e : x = p
    · subst e
      rw [List.filter_cons_of_pos (by simp)]
      congr 1
      exact List.filter_eq_nil_iff.mpr fun q hq => by have := h1 q hq; simp; omega
    · rw [List.filter_cons_of_neg (by simpa using e)]
      exact filt_one h2 ((List.mem_cons.mp m).resolve_left fun z => e z.symm)
theorem bes_one {n : Nat} {lot : List Int} {p : Int} (h : Lot n lot) (hp : p ∈ lot) : ((besF n lot).filter fun k => decide (k.2.1 = p)) = [kOn n lot p] := by
  unfold besF
  rw [List.filter_map]
  have : ((fun k : Tr => decide (k.2.1 = p)) ∘ kOn n lot) = fun q => decide (q = p) := rfl
  rw [this, filt_one h.rise hp]
  rfl
theorem mem_bes {n : Nat} {lot : List Int} {k : Tr} (h : Lot n lot) (hk : k ∈ besF n lot) : Tri n k := by
  obtain ⟨p, hp, rfl⟩ := List.mem_map.mp hk
  exact h.tri hp
theorem bes_len {n : Nat} {lot : List Int} (h : Lot n lot) : (besF n lot).length ≤ n := by unfold besF; rw [List.length_map]; exact lot_len h
def spOnL (K : PySem.W.Frag) : FS := fun _ Ts T => ∃ (w : Wo) (ws : Wts) (lot : List Int) (p : Int), Ts = [tWo K w, tWs K ws, tLo K lot, tInt p] ∧ w.Ok ∧ HvOk ws ∧ Lot w.n lot ∧ p ∈ lot ∧ T = tFr K (lodF w ws (kOn w.n lot p))
abbrev FOnL (b : Bs) : Prop := FnAt b "_law_on" 4 (spOf 4 (spOnL b.K)) 4
theorem xf_onL {b : Bs} (B : Bt b) (hE : FBeside b) (hL : FLLoad b) : XF b ["_law_world_here", "_law_heavy_here", "_law_stood_here", "_law_prop", "_law_key"] 3 (scOf 73) 4 (bodyOf 73) (spOnL b.K) := by
  rintro W Ts T ⟨w, ws, lot, p, rfl, o, hw, lo, hp, rfl⟩ - Hi0 H0
  have n4 := o.n4
  have bl := bes_len lo
  refine xb_retE (xe_ix (xe_lcF (xc (xs := besF w.n lot) (F := tKT) [("_law_key", 4)] [4] (fun k => [tKT k]) (fun k => decide (k.2.1 = p)) (fun k => tFr b.K (lodF w ws k))
    (xl_list ls_lst (xe_call hE (xa_cons (xe_blt B.len (xa_cons (xe_dget (dg_spots (K := b.K)) (xv 0 rfl rfl rfl) xe_str) xa_nil) (cb_len sq_lst)) (xa_cons (xv 2 rfl rfl rfl) xa_nil)) ⟨w.n, lot, by simp, by omega, lo, rfl⟩)) (fun k hk => xg_name 4)
    (fun k hk => xts_one (xt_cmp (xe_ix (T1 := tKT k) (xv 4 rfl rfl rfl) xe_int (ix_at (n := 1) sq_key rfl rfl)) (xv 3 rfl rfl rfl) cm_eq))
    (fun k hk _ => xe_call hL (xa_cons (xv 0 rfl rfl rfl) (xa_cons (xv 1 rfl rfl rfl) (xa_cons (xv 4 rfl rfl rfl) xa_nil))) ⟨tWo b.K w, tKT k, w.L, w.sp, k, ws, rfl, wk_wo, kyT, mem_bes lo hk, o.rise, hw, by unfold Wo.n at n4; omega, rfl⟩) (by omega))) xe_int (ix_at (n := 0) sq_lst rfl (by rw [bes_one lo hp]; rfl)))
/-! tables -/
def spTables (K : PySem.W.Frag) : FS := fun _ Ts T => ∃ (w : Wo) (wss : List Wts), Ts = [tWo K w, tLst (wss.map (tWs K))] ∧ w.Ok ∧ (∀ ws ∈ wss, HvOk ws) ∧ wss.length ≤ 8 ∧ T = tLst (wss.map fun ws => tTab w.n fun k => tFr K (spaF w ws k))
abbrev FTables (b : Bs) : Prop := FnAt b "_law_tables" 2 (spOf 2 (spTables b.K)) 5
theorem xf_tables {b : Bs} (B : Bt b) (hS : FSpares b) : XF b ["_law_world_here", "_law_loadings", "_law_heavy_here"] 4 (scOf 76) 2 (bodyOf 76) (spTables b.K) := by
  rintro W Ts T ⟨w, wss, rfl, o, hw, hl, rfl⟩ - Hi0 H0
  exact xb_retE (xe_lcM (xc (xs := wss) (F := tWs b.K) [("_law_heavy_here", 2)] [2] (fun ws => [tWs b.K ws]) (fun _ => true) (fun ws => tTab w.n fun k => tFr b.K (spaF w ws k)) (xl_list ls_lst (xv 1 rfl rfl rfl)) (fun ws hws => xg_name 2) (fun ws hws => xts_nil)
    (fun ws hws _ => xe_call hS (xa_cons (xv 0 rfl rfl rfl) (xa_cons (xv 2 rfl rfl rfl) xa_nil)) ⟨w, ws, rfl, o, hw ws hws, rfl⟩) (by omega)))
/-! over -/
def oveF (n : Nat) (st : List Rat) (f : Tr → Rat) (lot : List Int) : List Int := ((besF n lot).filter fun k => stoF st f k).map (·.2.1)
def spOverL (K : PySem.W.Frag) : FS := fun _ Ts T => ∃ (n : Nat) (f : Tr → Rat) (st : List Rat) (lot : List Int), Ts = [tInt (n : Int), tTab n fun k => tFr K (f k), tLst (st.map (tFr K)), tLo K lot] ∧ n ≤ 4 ∧ st.length = n ∧ (∀ s ∈ st, Sm s) ∧ (∀ k, Tri n k → Sm (f k)) ∧ Lot n lot ∧ T = tLst ((oveF n st f lot).map tInt)
abbrev FOverL (b : Bs) : Prop := FnAt b "_law_over" 4 (spOf 4 (spOverL b.K)) 2
theorem xf_overL {b : Bs} (B : Bt b) (hE : FBeside b) (hB : FLBelow b) : XF b ["_law_many", "_law_lying_here", "_law_strong", "_law_stood_here", "_law_key"] 1 (scOf 79) 4 (bodyOf 79) (spOverL b.K) := by
  rintro W Ts T ⟨n, f, st, lot, rfl, hn, hl, hs, hf, lo, rfl⟩ - Hi0 H0
  have bl := bes_len lo
  exact xb_retE (xe_lcH (F := tInt) (g := fun k : Tr => k.2.1) (xc (xs := besF n lot) (F := tKT) [("_law_key", 4)] [4] (fun k => [tKT k]) (fun k => stoF st f k) (fun k => tInt k.2.1)
    (xl_list ls_lst (xe_call hE (xa_cons (xv 0 rfl rfl rfl) (xa_cons (xv 3 rfl rfl rfl) xa_nil)) ⟨n, lot, rfl, by omega, lo, rfl⟩)) (fun k hk => xg_name 4)
    (fun k hk => by
      have t := mem_bes lo hk
      have t1 := tri_mid t
      exact xts_one (xt_val (xe_call hB (xa_cons (xe_ix (xv 2 rfl rfl rfl) (xe_ix (T1 := tKT k) (xv 4 rfl rfl rfl) xe_int (ix_at (n := 1) sq_key rfl rfl)) (ix_at (n := k.2.1.toNat) sq_lst (by omega) (frs_at (by omega)))) (xa_cons (xe_dget (tab_dg (F := fun k => tFr b.K (f k)) t) (xv 1 rfl rfl rfl) (xv 4 rfl rfl rfl)) xa_nil)) ⟨_, _, rfl, hs _ (getD_mem (by omega)), hf k t, rfl⟩)))
    (fun k hk _ => xe_ix (T1 := tKT k) (xv 4 rfl rfl rfl) xe_int (ix_at (n := 1) sq_key rfl rfl)) (by omega)))
end Pf

set_option maxHeartbeats 4000000
namespace Pf
open PySem PySem.Spec PyProof.Rows L2 Lg Ra
/-! under all -/
def undF (fs : List (Tr → Rat)) (held : List Int) (k : Tr) : Bool := !decide (k.2.1 ∈ held) && fs.any fun f => decide ((f k).num < 0)
def spUnder (K : PySem.W.Frag) : FS := fun _ Ts T => ∃ (n : Nat) (fs : List (Tr → Rat)) (held : List Int), Ts = [tLst (fs.map fun f => tTab n fun k => tFr K (f k)), tInt (n : Int), tLo K held] ∧ n ≤ 4 ∧ fs ≠ [] ∧ fs.length ≤ 8 ∧ T = tLo K (greF n (undF fs held))
abbrev FUnder (b : Bs) : Prop := FnAt b "_law_under_all" 3 (spOf 3 (spUnder b.K)) 2
theorem any_filt {α : Type} (p : α → Bool) : ∀ xs : List α, (!((xs.filter p).map fun _ => (1 : Int)).isEmpty) = xs.any p
  | [] => rfl
  | x :: xs => by
    have := any_filt p xs
    cases h : p x with
    | true => simp [h]
    | false => rw [List.filter_cons_of_neg (by simp [h]), List.any_cons, h, Bool.false_or]; exact this
theorem xf_under {b : Bs} (B : Bt b) (hG : FGreatest b) : XF b ["_law_tables_here", "_law_many", "_law_held", "_law_fails", "_law_key", "_law_spares_here"] 1 (scOf 77) 3 (bodyOf 77) (spUnder b.K) := by
  rintro W Ts T ⟨n, fs, held, rfl, hn, ne, h8, rfl⟩ - Hi0 H0
  have kl := keys_len (n := n) (by omega)
  obtain ⟨f0, fr, rfl⟩ : ∃ f0 fr, fs = f0 :: fr := by cases fs with
    | nil => exact (ne rfl).elim
    | cons a r => exact ⟨a, r, rfl⟩
  refine xb_ownT 3 fun p => ?_
  refine xb_forK (ks := tbF n fun k => tFr b.K (f0 k)) (js := [4]) (fun x => [tKey x.1]) (fun i => [some (tLst ((f0 :: fr).map fun f => tTab n fun k => tFr b.K (f k))), some (tInt (n : Int)), some (tLo b.K held), some (tRef p), none, none]) (fun i => [oDT p (((keysF n).take i).map fun k => (kyL k, tBl (undF (f0 :: fr) held k)))])
    ⟨fun _ _ h => h, fun _ _ h => h, fun _ _ h => h, fun _ _ h => h, trivial⟩ rfl (sel_0 0 rfl rfl rfl) (fun x hx => xg_name 4) (fun i x hi Hi0 H0 => ?_) ?_
  · obtain ⟨k, hik, rfl⟩ := tb_at hi
    have t := mem_keys.mp (List.mem_of_getElem? hik)
    have il := (List.getElem?_eq_some_iff.mp hik).1
    refine xb_dputT 0 (key := kyL k) (T1 := tBl (undF (f0 :: fr) held k)) (xe_and (xe_cmp (xe_ix (T1 := tKT k) (xv 4 rfl rfl rfl) xe_int (ix_at (n := 1) sq_key rfl rfl)) (xv 2 rfl rfl rfl) (cm_notIn sq_tup)) fun _ => xe_one (XE.eq (xe_cmp (xe_lcH (F := tInt) (g := fun _ => (1 : Int)) (xc (xs := f0 :: fr) (F := fun f => tTab n fun k => tFr b.K (f k)) [("_law_spares_here", 5)] [5] (fun f => [tTab n fun k => tFr b.K (f k)]) (fun f => decide ((f k).num < 0)) (fun f => tInt 1)
      (xl_list ls_lst (xv 0 rfl rfl rfl)) (fun f hf => xg_name 5) (fun f hf => xts_one (xt_cmp (fN (xe_dget (tab_dg (F := fun k => tFr b.K (f k)) t) (xv 5 rfl rfl rfl) (xv 4 rfl rfl rfl))) xe_int cm_lt)) (fun f hf _ => xe_int) (by omega))) (xe_lstD xa_nil) (cm_neD dat_ints (dat_lst (ds := []) trivial) (shaped_ints _) (by rfl))) (by rw [eqv_nil, ← any_filt]; simp)))
      (xv 3 rfl rfl rfl) (xv 4 rfl rfl rfl) rfl (tb_take_new hik) (by rw [List.length_map, List.length_take]; omega) ?_
    rw [tb_take_succ (F := fun k => tBl (undF (f0 :: fr) held k)) hik]
    exact xb_end ⟨fun _ _ h => h, fun _ _ h => h, fun _ _ h => h, fun _ _ h => h, trivial⟩
  · rw [tb_len, List.take_length]
    refine xb_seal 3 rfl seal_dT ?_
    exact xb_retE (xe_call hG (xa_cons (xv 1 rfl rfl rfl) (xa_cons (xv 3 rfl rfl rfl) xa_nil)) ⟨n, undF (f0 :: fr) held, rfl, hn, rfl⟩)
/-! asked -/
theorem bst_snoc {vs : List Rat} (h : vs ≠ []) (v : Rat) : bst (vs ++ [v]) = if (bst vs).1 < v then (v, vs.length) else bst vs := by
  have e := bst_is h
  have e2 : (vs ++ [v]).zipIdx = vs.zipIdx ++ [(v, vs.length)] := by rw [List.zipIdx_append]; simp
  have e3 := bst_is (vs := vs ++ [v]) (by simp)
  rw [e2, bsO_snoc, e] at e3
  unfold stp at e3
  simp only at e3
  by_cases hl : (bst vs).1 < v
  · simp only [hl, if_true] at e3 ⊢
    exact (Option.some.inj e3).symm
  · simp only [hl, if_false] at e3 ⊢
    exact (Option.some.inj e3).symm
theorem bst_one (v : Rat) : bst [v] = (v, 0) := rfl
theorem snoc_ind {α : Type} {P : List α → Prop} (h0 : P []) (h1 : ∀ xs x, P xs → P (xs ++ [x])) (xs : List α) : P xs := by
  have : ∀ ys : List α, P ys.reverse := fun ys => by
    induction ys with
    | nil => exact h0
    | cons y ys ih => rw [List.reverse_cons]; exact h1 _ _ ih
  have := this xs.reverse
  rwa [List.reverse_reverse] at this
theorem bst_mem (vs : List Rat) : vs ≠ [] → (bst vs).1 ∈ vs := by
  refine snoc_ind (P := fun vs => vs ≠ [] → (bst vs).1 ∈ vs) (fun h => (h rfl).elim) (fun xs x ih _ => ?_) vs
  cases xs with
  | nil => exact List.mem_singleton.mpr rfl
  | cons y ys =>
    rw [bst_snoc (by simp)]
    split
    · simp
    · exact List.mem_append_left _ (ih (by simp))
def spAsked (K : PySem.W.Frag) : FS := fun _ Ts T => ∃ (w : Wo) (wls : List (Wts × List Int)) (p : Int), Ts = [tWo K w, tLst ((wls.map Prod.fst).map (tWs K)), tLst ((wls.map Prod.snd).map (tLo K)), tInt p] ∧ w.Ok ∧ wls ≠ [] ∧ wls.length ≤ 8 ∧ (∀ q ∈ wls, HvOk q.1 ∧ Lot w.n q.2 ∧ p ∈ q.2) ∧ T = tAns K (p, bst (wls.map fun q => lodF w q.1 (kOn w.n q.2 p)))
abbrev FAsked (b : Bs) : Prop := FnAt b "_law_asked" 4 (spOf 4 (spAsked b.K)) 5
theorem xf_asked {b : Bs} (B : Bt b) (hO : FOnL b) (hB : FLBelow b) : XF b ["_law_world_here", "_law_loadings", "_law_lots", "_law_prop", "_law_best_one", "_law_at", "_law_much"] 4 (scOf 78) 4 (bodyOf 78) (spAsked b.K) := by
  rintro W Ts T ⟨w, wls, p, rfl, o, ne, h8, hq, rfl⟩ - Hi0 H0
  have l1 : 0 < wls.length := List.length_pos_iff.mpr ne
  have at1 : ∀ {i : Nat} {q : Wts × List Int}, wls[i]? = some q → ((wls.map Prod.fst).map (tWs b.K))[i]? = some (tWs b.K q.1) ∧ ((wls.map Prod.snd).map (tLo b.K))[i]? = some (tLo b.K q.2) := fun h => by
    rw [List.getElem?_map, List.getElem?_map, List.getElem?_map, List.getElem?_map, h]; exact ⟨rfl, rfl⟩
  obtain ⟨q0, e0⟩ : ∃ q0, wls[0]? = some q0 := ⟨_, List.getElem?_eq_getElem l1⟩
  obtain ⟨a0, b0, c0⟩ := hq q0 (List.mem_of_getElem? e0)
  generalize hvs : (wls.map fun q => lodF w q.1 (kOn w.n q.2 p)) = vs
  have vl : vs.length = wls.length := by rw [← hvs, List.length_map]
  have va : ∀ {i : Nat} {q : Wts × List Int}, wls[i]? = some q → vs[i]? = some (lodF w q.1 (kOn w.n q.2 p)) := fun h => by rw [← hvs, List.getElem?_map, h]; rfl
  have vsm : ∀ v ∈ vs, Sm v := fun v hv => by
    rw [← hvs] at hv
    obtain ⟨q, hqm, rfl⟩ := List.mem_map.mp hv
    obtain ⟨x1, x2, x3⟩ := hq q hqm
    exact sm_of (lod_bd o x1 (x2.tri x3))
  have tk1 : vs.take 1 = [lodF w q0.1 (kOn w.n q0.2 p)] := by rw [take_snoc (va e0)]; rfl
  refine xb_asg 4 (T1 := tTup b.K [tFr b.K (bst (vs.take 1)).1, tInt ((bst (vs.take 1)).2 : Nat)]) (XE.eq (xe_tp (xa_cons (xe_call hO (xa_cons (xv 0 rfl rfl rfl) (xa_cons (xe_ix (xv 1 rfl rfl rfl) xe_int (ix_at (n := 0) sq_lst rfl (at1 e0).1)) (xa_cons (xe_ix (xv 2 rfl rfl rfl) xe_int (ix_at (n := 0) sq_lst rfl (at1 e0).2)) (xa_cons (xv 3 rfl rfl rfl) xa_nil)))) ⟨w, q0.1, q0.2, p, rfl, o, a0, b0, c0, rfl⟩) (xa_cons xe_int xa_nil))) (by rw [tk1, bst_one]; rfl)) ?_
  refine xb_forL (xs := rgI2 1 (wls.length : Int)) (F := tInt) (js := [5]) (fun k => [tInt k]) (fun i => [some (tWo b.K w), some (tLst ((wls.map Prod.fst).map (tWs b.K))), some (tLst ((wls.map Prod.snd).map (tLo b.K))), some (tInt p), some (tTup b.K [tFr b.K (bst (vs.take (i + 1))).1, tInt ((bst (vs.take (i + 1))).2 : Nat)]), none, none]) (fun i => [])
    (xl_rg2 B.range xe_int (XE.eq (xe_blt B.len (xa_cons (xv 1 rfl rfl rfl) xa_nil) (cb_len sq_lst)) (congrArg tInt (by simp))) ⟨by decide, by decide, by omega, by omega⟩) ⟨fun _ _ h => h, fun _ _ h => h, fun _ _ h => h, fun _ _ h => h, fun _ _ h => h, trivial⟩ rfl (fun m hm => xg_name 5) (fun i m hi Hi0 H0 => ?_) ?_
  · have il : i < (wls.length - 1 : Nat) := by have := (List.getElem?_eq_some_iff.mp hi).1; rw [rgI2_len] at this; omega
    have e : m = ((i + 1 : Nat) : Int) := by
      unfold rgI2 at hi
      rw [List.getElem?_map, List.getElem?_range (by omega)] at hi
      have : (1 : Int) + (i : Nat) = m := Option.some.inj hi
      omega
    subst e
    obtain ⟨q, eq⟩ : ∃ q, wls[i + 1]? = some q := ⟨_, List.getElem?_eq_getElem (by omega)⟩
    obtain ⟨x1, x2, x3⟩ := hq q (List.mem_of_getElem? eq)
    have tn : vs.take (i + 1) ≠ [] := by intro z; have h := congrArg List.length z; rw [List.length_take] at h; have h : min (i + 1) vs.length = 0 := h; omega
    have hs : bst (vs.take (i + 1 + 1)) = if (bst (vs.take (i + 1))).1 < lodF w q.1 (kOn w.n q.2 p) then (lodF w q.1 (kOn w.n q.2 p), i + 1) else bst (vs.take (i + 1)) := by
      rw [take_snoc (va eq), bst_snoc tn]
      have : (vs.take (i + 1)).length = i + 1 := by rw [List.length_take]; omega
      rw [this]
    refine xb_asg 6 (xe_call hO (xa_cons (xv 0 rfl rfl rfl) (xa_cons (xe_ix (xv 1 rfl rfl rfl) (xv 5 rfl rfl rfl) (ix_at (n := i + 1) sq_lst rfl (at1 eq).1)) (xa_cons (xe_ix (xv 2 rfl rfl rfl) (xv 5 rfl rfl rfl) (ix_at (n := i + 1) sq_lst rfl (at1 eq).2)) (xa_cons (xv 3 rfl rfl rfl) xa_nil)))) ⟨w, q.1, q.2, p, rfl, o, x1, x2, x3, rfl⟩) ?_
    refine xb_if (M := SS W Hi0 H0 [some (tWo b.K w), some (tLst ((wls.map Prod.fst).map (tWs b.K))), some (tLst ((wls.map Prod.snd).map (tLo b.K))), some (tInt p), some (tTup b.K [tFr b.K (bst (vs.take (i + 1 + 1))).1, tInt ((bst (vs.take (i + 1 + 1))).2 : Nat)]), none, none] []) (p := decide ((bst (vs.take (i + 1))).1 < lodF w q.1 (kOn w.n q.2 p)))
      (xt_val (xe_call hB (xa_cons (xe_ix (xv 4 rfl rfl rfl) xe_int (ix_at (n := 0) sq_tup rfl rfl)) (xa_cons (xv 6 rfl rfl rfl) xa_nil)) ⟨_, _, rfl, vsm _ (List.mem_of_mem_take (bst_mem _ tn)), sm_of (lod_bd o x1 (x2.tri x3)), rfl⟩)) (fun h => ?_) (fun h => ?_) ?_
    · have h := of_decide_eq_true h
      refine xb_asg 4 (T1 := tTup b.K [tFr b.K (bst (vs.take (i + 1 + 1))).1, tInt ((bst (vs.take (i + 1 + 1))).2 : Nat)]) (XE.eq (xe_tp (xa_cons (xv 6 rfl rfl rfl) (xa_cons (xv 5 rfl rfl rfl) xa_nil))) (by rw [hs, if_pos h])) ?_
      exact xb_end ⟨fun _ _ h => h, fun _ _ h => h, fun _ _ h => h, fun _ _ h => h, fun _ _ h => h, trivial⟩
    · have h := of_decide_eq_false h
      rw [hs, if_neg h]
      exact xb_end ⟨fun _ _ h => h, fun _ _ h => h, fun _ _ h => h, fun _ _ h => h, fun _ _ h => h, trivial⟩
    · exact xb_end ⟨fun _ _ h => h, fun _ _ h => h, fun _ _ h => h, fun _ _ h => h, fun _ _ h => h, trivial⟩
  · have e : (rgI2 1 (wls.length : Int)).length + 1 = vs.length := by rw [rgI2_len]; omega
    rw [e, List.take_length]
    exact xb_retE (xe_bin (xe_tp (xa_cons (xv 3 rfl rfl rfl) xa_nil)) (xv 4 rfl rfl rfl) (ok_catT (by simp) (by simp)))
/-! with -/
def bigR : Rat := ((1000000000 : Int) : Rat)
def withF (st : List Rat) (as : List Ans) (p : Int) (q : Rat) : List Rat := (as.foldl (fun s a => s.set a.1.toNat bigR) st).set p.toNat q
def spWith (K : PySem.W.Frag) : FS := fun _ Ts T => ∃ (w : Wo) (as : List Ans) (p : Int) (q : Rat), Ts = [tWo K w, tLst (as.map (tAns K)), tInt p, tFr K q] ∧ w.st.length ≤ 4 ∧ (∀ a ∈ as, 0 ≤ a.1 ∧ a.1 < w.st.length) ∧ 0 ≤ p ∧ p < w.st.length ∧ T = tLst ((withF w.st as p q).map (tFr K))
abbrev FWith (b : Bs) : Prop := FnAt b "_law_with" 4 (spOf 4 (spWith b.K)) 1
theorem with_len {st : List Rat} : ∀ {as : List Ans}, (as.foldl (fun s a => s.set a.1.toNat bigR) st).length = st.length := fun {as} => by
  induction as generalizing st with
  | nil => rfl
  | cons a as ih => rw [List.foldl_cons, ih, List.length_set]
theorem xf_with {b : Bs} (B : Bt b) : XF b ["_law_world_here", "_law_told", "_law_prop", "_law_much", "_law_strong", "_law_one", "_law_due", "_law_which"] 0 (scOf 81) 4 (bodyOf 81) (spWith b.K) := by
  rintro W Ts T ⟨w, as, p, q, rfl, h4, ha, p0, p1, rfl⟩ - Hi0 H0
  refine xb_own 4 (xn_list B.list ls_lst (xe_dget (dg_strong (K := b.K)) (xv 0 rfl rfl rfl) xe_str)) fun r => ?_
  refine xb_forL (xs := as) (F := tAns b.K) (js := [5, 6, 7]) (fun a => [tInt a.1, tFr b.K a.2.1, tInt (a.2.2 : Nat)]) (fun i => [some (tWo b.K w), some (tLst (as.map (tAns b.K))), some (tInt p), some (tFr b.K q), some (tRef r), none, none, none]) (fun i => [oLst r (((as.take i).foldl (fun s a => s.set a.1.toNat bigR) w.st).map (tFr b.K))])
    (xl_list ls_lst (xv 1 rfl rfl rfl)) ⟨fun _ _ h => h, fun _ _ h => h, fun _ _ h => h, fun _ _ h => h, fun _ _ h => h, trivial⟩ rfl (fun a hm => xg_tup (xgs_cons (xg_name 5) (xgs_cons (xg_name 6) (xgs_cons (xg_name 7) xgs_nil))) tp_tup) (fun i a hi Hi0 H0 => ?_) ?_
  · have am := ha a (List.mem_of_getElem? hi)
    refine xb_setL 0 (n := a.1.toNat) (T1 := tFr b.K bigR) (xe_tp (xa_cons (xe_bin (xe_int (i := 10)) (xe_int (i := 9)) (ok_pow ⟨by decide, by decide, by decide⟩)) (xa_cons xe_int xa_nil))) (xv 4 rfl rfl rfl) (xv 5 rfl rfl rfl) rfl (by omega) (by rw [List.length_map, with_len]; omega) ?_
    rw [take_snoc hi, List.foldl_append]
    show XB _ _ _ _ (SS _ _ _ _ [oLst r (((((as.take i).foldl (fun s a => s.set a.1.toNat bigR) w.st)).map (tFr b.K)).set a.1.toNat (tFr b.K bigR))]) _ _ _
    rw [← List.map_set]
    exact xb_end ⟨fun _ _ h => h, fun _ _ h => h, fun _ _ h => h, fun _ _ h => h, fun _ _ h => h, trivial⟩
  · rw [List.take_length]
    refine xb_setL 0 (n := p.toNat) (xv 3 rfl rfl rfl) (xv 4 rfl rfl rfl) (xv 2 rfl rfl rfl) rfl (by omega) (by rw [List.length_map, with_len]; omega) ?_
    show XB _ _ _ _ (SS _ _ _ _ [oLst r ((((as.foldl (fun s a => s.set a.1.toNat bigR) w.st)).map (tFr b.K)).set p.toNat (tFr b.K q))]) _ _ _
    rw [← List.map_set]
    refine xb_seal 4 rfl seal_lst ?_
    exact xb_retE (xv 4 rfl rfl rfl)
end Pf

set_option maxHeartbeats 4000000
namespace Pf
open PySem PySem.Spec PyProof.Rows L2 Lg Ra
/-! ### worn: what is left behind many loadings -/
def clrF (n : Nat) (st : List Rat) (f : Tr → Rat) : Nat → List Int → List Int
  | 0, lot => lot
  | m + 1, lot => match (oveF n st f lot).getLast? with
    | none => lot
    | some x => clrF n st f m (lot.filter fun q => !decide (q = x))
def clr (n : Nat) (st : List Rat) (f : Tr → Rat) (lot : List Int) : List Int := clrF n st f lot.length lot
theorem clr_nil {n : Nat} {st : List Rat} {f : Tr → Rat} {lot : List Int} (h : oveF n st f lot = []) : clr n st f lot = lot := by
  unfold clr
  cases hl : lot.length with
  | zero => rfl
  | succ m => unfold clrF; rw [h]; rfl
theorem ove_sub {n : Nat} {st : List Rat} {f : Tr → Rat} {lot : List Int} {x : Int} (h : x ∈ oveF n st f lot) : x ∈ lot := by
  unfold oveF besF at h
  obtain ⟨k, hk, rfl⟩ := List.mem_map.mp h
  obtain ⟨p, hp, rfl⟩ := List.mem_map.mp (List.mem_filter.mp hk).1
  exact hp
theorem clr_step {n : Nat} {st : List Rat} {f : Tr → Rat} {lot us : List Int} {x : Int} (nd : lot.Nodup) (h : oveF n st f lot = us ++ [x]) : clr n st f lot = clr n st f (lot.filter fun q => !decide (q = x)) := by
  have hx : x ∈ lot := ove_sub (n := n) (st := st) (f := f) (by rw [h]; simp)
  have l := filter_ne_len nd hx
  unfold clr
  rw [← l]
  conv => lhs; unfold clrF
  rw [h, List.getLast?_append]
  rfl
theorem clrF_lot {n : Nat} {st : List Rat} {f : Tr → Rat} : ∀ (m : Nat) {lot : List Int}, Lot n lot → Lot n (clrF n st f m lot)
  | 0, _, h => h
  | m + 1, lot, h => by
    unfold clrF
    split
    · exact h
    · exact clrF_lot m (h.filter _)
theorem clr_lot {n : Nat} {st : List Rat} {f : Tr → Rat} {lot : List Int} (h : Lot n lot) : Lot n (clr n st f lot) := clrF_lot _ h
def pickJ (ds : List Int) (left : List Int) : Nat := (dg ds left.length % left.length).toNat
def lapF (n : Nat) (st : List Rat) (fs : List (Tr → Rat)) (ds : List Int) : Nat → List Int → List Int → List Int
  | 0, _, lot => lot
  | m + 1, left, lot => lapF n st fs ds m (left.eraseIdx (pickJ ds left)) (clr n st (fs.getD (left.getD (pickJ ds left) 0).toNat fun _ => 0) lot)
theorem lapF_lot {n : Nat} {st : List Rat} {fs : List (Tr → Rat)} {ds : List Int} : ∀ (m : Nat) {left lot : List Int}, Lot n lot → Lot n (lapF n st fs ds m left lot)
  | 0, _, _, h => h
  | m + 1, _, _, h => lapF_lot m (clr_lot h)
def lapO (n : Nat) (st : List Rat) (fs : List (Tr → Rat)) (ds : List Int) (lot : List Int) : List Int := lapF n st fs ds fs.length (rgI fs.length) lot
def wornI (n : Nat) (st : List Rat) (fs : List (Tr → Rat)) (ds : List Int) : Nat → List Int
  | 0 => rgI n
  | i + 1 => lapO n st fs ds (wornI n st fs ds i)
def wornF (n : Nat) (st : List Rat) (fs : List (Tr → Rat)) (ds : List Int) : List Int := wornI n st fs ds (n + 1)
theorem wornI_lot {n : Nat} {st : List Rat} {fs : List (Tr → Rat)} {ds : List Int} : ∀ i, Lot n (wornI n st fs ds i)
  | 0 => lot_rg n
  | i + 1 => lapF_lot _ (wornI_lot i)
theorem isL_q {p : Addr} {Ts : List Ty} : ∀ u H, (oLst p Ts).q u H → isL u := fun u H ⟨xs, e, _⟩ => ⟨xs, e⟩
theorem snoc_of {α : Type} {xs : List α} (h : xs ≠ []) : ∃ ys y, xs = ys ++ [y] := ⟨xs.dropLast, xs.getLast h, (List.dropLast_concat_getLast h).symm⟩
def spWorn (K : PySem.W.Frag) : FS := fun W Ts T => ∃ (ds : List Int) (n : Nat) (fs : List (Tr → Rat)) (st : List Rat), W = [] ∧ Ts = [tLst (ds.map tInt), tInt (n : Int), tLst (fs.map fun f => tTab n fun k => tFr K (f k)), tLst (st.map (tFr K))] ∧ 9 ≤ ds.length ∧ n ≤ 4 ∧ fs.length ≤ 8 ∧ st.length = n ∧ (∀ s ∈ st, Sm s) ∧ (∀ f ∈ fs, ∀ k, Tri n k → Sm (f k)) ∧ T = tLo K (wornF n st fs ds)
abbrev FWorn (b : Bs) : Prop := FnAt b "_law_worn" 4 (spOf 4 (spWorn b.K)) 3
theorem xf_worn {b : Bs} (B : Bt b) (hO : FOverL b) : XF b ["_law_digits_here", "_law_many", "_law_sheets", "_law_strong", "_law_stood_here", "_law_lap", "_law_left", "_law_lying_here", "_law_some", "_law_prop"] 2 (scOf 80) 4 (bodyOf 80) (spWorn b.K) := by
  rintro W Ts T ⟨ds, n, fs, st, rfl, rfl, hd, hn, h8, hl, hs, hf, rfl⟩ - Hi0 H0
  refine xb_asg 4 (xe_tupRg (n := n) B.tuple B.range (xv 1 rfl rfl rfl) (by omega)) ?_
  refine xb_forL (xs := rgI (n + 1)) (F := tInt) (js := [5]) (fun m => [tInt m]) (fun i => [some (tLst (ds.map tInt)), some (tInt (n : Int)), some (tLst (fs.map fun f => tTab n fun k => tFr b.K (f k))), some (tLst (st.map (tFr b.K))), some (tLo b.K (wornI n st fs ds i)), none, none, none, none, none]) (fun i => [])
    (xl_rg1 B.range (XE.eq (xe_bin (xv 1 rfl rfl rfl) xe_int ok_add) (congrArg tInt (by omega))) (by omega)) ⟨fun _ _ h => h, fun _ _ h => h, fun _ _ h => h, fun _ _ h => h, fun _ _ h => h, trivial⟩ rfl (fun m hm => xg_name 5) (fun i m hi Hi0 H0 => ?_) ?_
  · refine xb_own 6 (xn_listRg (n := fs.length) B.list B.range (XE.eq (xe_blt B.len (xa_cons (xv 2 rfl rfl rfl) xa_nil) (cb_len sq_lst)) (congrArg tInt (by simp))) (by omega)) fun w => ?_
    refine xb_whileS (α := { s : List Int × List Int // Lot n s.2 ∧ s.1.length ≤ 8 ∧ (∀ x ∈ s.1, 0 ≤ x ∧ x < fs.length) ∧ lapF n st fs ds s.1.length s.1 s.2 = wornI n st fs ds (i + 1) })
      (fun s => [some (tLst (ds.map tInt)), some (tInt (n : Int)), some (tLst (fs.map fun f => tTab n fun k => tFr b.K (f k))), some (tLst (st.map (tFr b.K))), some (tLo b.K s.1.2), none, some (tRef w), none, none, none]) (fun s => [oLst w (s.1.1.map tInt)]) (fun s => s.1.1.length) (fun s => !s.1.1.isEmpty)
      ⟨(rgI fs.length, wornI n st fs ds i), wornI_lot i, by show (rgI fs.length).length ≤ 8; rw [rgI_len]; exact h8, fun x hx => mem_rg.mp hx, by show lapF n st fs ds (rgI fs.length).length _ _ = _; rw [rgI_len]; rfl⟩ ⟨fun _ _ h => h, fun _ _ h => h, fun _ _ h => h, fun _ _ h => h, fun _ _ h => h, fun _ _ h => h, trivial⟩ rfl
      (fun s => xtt_lend (Tp := tLst (s.1.1.map tInt)) 6 0 rfl rfl rfl seal_lst (XT.eq (xt_cmp (xv 6 rfl rfl rfl) (xe_lstD xa_nil) (cm_neD dat_ints (dat_lst (ds := []) trivial) (shaped_ints _) (by rfl))) (by rw [eqv_nil]; simp))) (fun s h => ?_) (fun s h => ?_)
    · obtain ⟨⟨left, lot⟩, lo, l8, lin, tg⟩ := s
      have lo : Lot n lot := lo
      have l8 : left.length ≤ 8 := l8
      have lin : ∀ x ∈ left, 0 ≤ x ∧ x < fs.length := lin
      have h : left ≠ [] := by intro z; subst z; simp at h
      have l1 : 0 < left.length := List.length_pos_iff.mpr h
      obtain ⟨m, hm⟩ : ∃ m, left.length = m + 1 := ⟨left.length - 1, by omega⟩
      have md := mod_in (x := dg ds left.length) (m := (left.length : Nat)) (by omega)
      have jl : pickJ ds left < left.length := by unfold pickJ; omega
      have ej : left[pickJ ds left]? = some (left.getD (pickJ ds left) 0) := by rw [List.getD_eq_getElem?_getD, List.getElem?_eq_getElem jl]; rfl
      have li := lin _ (List.mem_of_getElem? ej)
      generalize hx : left.getD (pickJ ds left) 0 = x at ej li
      have ef : fs[x.toNat]? = some (fs.getD x.toNat fun _ => 0) := by rw [List.getD_eq_getElem?_getD, List.getElem?_eq_getElem (by omega)]; rfl
      generalize hg : (fs.getD x.toNat fun _ => 0) = g at ef
      have gm : ∀ k, Tri n k → Sm (g k) := hf g (List.mem_of_getElem? ef)
      have tg2 : lapF n st fs ds m (left.eraseIdx (pickJ ds left)) (clr n st g lot) = wornI n st fs ds (i + 1) := by
        have tg : lapF n st fs ds left.length left lot = _ := tg
        rw [hm] at tg
        rw [← tg]
        conv => rhs; unfold lapF
        rw [hx, hg]
      have le : (left.eraseIdx (pickJ ds left)).length = m := by rw [List.length_eraseIdx, if_pos jl]; omega
      refine xb_popget (is := left) (j := dg ds left.length % left.length) (m := x) (T1 := tTab n fun k => tFr b.K (g k)) 7 0 (xv 2 rfl rfl rfl) (xv 6 rfl rfl rfl) (xs_lend (P := isL) (Tp := tLst (left.map tInt)) 6 0 rfl rfl rfl seal_lst isL_q fr_tInt
        (XE.eq (xe_bin (xe_bty B.int (xa_cons (xe_ix (xv 0 rfl rfl rfl) (xe_blt B.len (xa_cons (xv 6 rfl rfl rfl) xa_nil) (cb_len sq_lst)) (ix_at (n := left.length) sq_lst (by rw [List.length_map]) (dg_at (by omega)))) xa_nil) cb_int) (xe_blt B.len (xa_cons (xv 6 rfl rfl rfl) xa_nil) (cb_len sq_lst)) (ok_mod (by rw [List.length_map]; omega))) (by rw [List.length_map]))) rfl md.1 md.2 (by omega) ej li.1 (by rw [List.getElem?_map, ef]; rfl) ?_
      refine xb_asg 8 (xe_call hO (xa_cons (xv 1 rfl rfl rfl) (xa_cons (xv 7 rfl rfl rfl) (xa_cons (xv 3 rfl rfl rfl) (xa_cons (xv 4 rfl rfl rfl) xa_nil)))) ⟨n, g, st, lot, rfl, hn, hl, hs, gm, lo, rfl⟩) ?_
      refine xb_while (α := { l : List Int // Lot n l ∧ clr n st g l = clr n st g lot })
        (fun l => [some (tLst (ds.map tInt)), some (tInt (n : Int)), some (tLst (fs.map fun f => tTab n fun k => tFr b.K (f k))), some (tLst (st.map (tFr b.K))), some (tLo b.K l.1), none, some (tRef w), some (tTab n fun k => tFr b.K (g k)), some (tLst ((oveF n st g l.1).map tInt)), none]) (fun l => [oLst w ((left.eraseIdx (pickJ ds left)).map tInt)]) (fun l => l.1.length) (fun l => !(oveF n st g l.1).isEmpty)
        ⟨lot, lo, rfl⟩ ⟨fun _ _ h => h, fun _ _ h => h, fun _ _ h => h, fun _ _ h => h, fun _ _ h => h, fun _ _ h => h, fun _ _ h => h, fun _ _ h => h, trivial⟩ rfl
        (fun l => XT.eq (xt_cmp (xv 8 rfl rfl rfl) (xe_lstD xa_nil) (cm_neD dat_ints (dat_lst (ds := []) trivial) (shaped_ints _) (by rfl))) (by rw [eqv_nil]; simp)) (fun l h => ?_) (fun l h => ?_)
      · obtain ⟨l, ll, le2⟩ := l
        have hw : oveF n st g l ≠ [] := by intro z; simp [z] at h
        obtain ⟨us, y, hu⟩ := snoc_of hw
        have hy : y ∈ l := ove_sub (n := n) (st := st) (f := g) (by rw [hu]; simp)
        have nd := rise_nodup ll.rise
        have e1 := filter_ne_len nd hy
        have e2 := clr_step nd hu
        have l4 := lot_len ll
        refine xb_asg 4 (T1 := tLo b.K (l.filter fun q => !decide (q = y))) (xe_bty B.tuple (xa_cons (xe_lcF (xc (xs := l) (F := tInt) [("_law_prop", 9)] [9] (fun q => [tInt q]) (fun q => !decide (q = y)) tInt (xl_tup tp_tup (xv 4 rfl rfl rfl)) (fun q hq => xg_name 9)
          (fun q hq => xts_one (xt_cmp (xv 9 rfl rfl rfl) (xe_ix (xv 8 rfl rfl rfl) (xe_neg (xe_int (i := 1))) (ix_last (Us := us.map tInt) (T := tInt y) (by rw [hu, List.map_append]; exact sq_lst))) cm_ne)) (fun q hq _ => xv 9 rfl rfl rfl) (by omega))) xa_nil) (cb_tuple sq_lst)) ?_
        refine xb_asg 8 (xe_call hO (xa_cons (xv 1 rfl rfl rfl) (xa_cons (xv 7 rfl rfl rfl) (xa_cons (xv 3 rfl rfl rfl) (xa_cons (xv 4 rfl rfl rfl) xa_nil)))) ⟨n, g, st, _, rfl, hn, hl, hs, gm, ll.filter _, rfl⟩) ?_
        refine xb_nil fun σ H s => ⟨⟨l.filter fun q => !decide (q = y), ll.filter _, e2.symm.trans le2⟩, by show (l.filter fun q => !decide (q = y)).length < l.length; omega, s⟩
      · obtain ⟨l, ll, le2⟩ := l
        have hw : oveF n st g l = [] := by simpa using h
        have e : l = clr n st g lot := by rw [← le2, clr_nil hw]
        subst e
        refine xb_nil fun σ H s => ⟨⟨(left.eraseIdx (pickJ ds left), clr n st g lot), ll, by show (left.eraseIdx (pickJ ds left)).length ≤ 8; omega, fun x hx => lin x (List.mem_of_mem_eraseIdx hx), by show lapF n st fs ds (left.eraseIdx (pickJ ds left)).length _ _ = _; rw [le]; exact tg2⟩, by show (left.eraseIdx (pickJ ds left)).length < left.length; omega, ?_⟩
        refine SS.le ?_ s
        exact ⟨fun _ _ h => h, fun _ _ h => h, fun _ _ h => h, fun _ _ h => h, fun _ _ h => h, fun _ _ h => h, trivial⟩
    · obtain ⟨⟨left, lot⟩, lo, l8, lin, tg⟩ := s
      have h : left = [] := by simpa using h
      subst h
      have tg : lot = wornI n st fs ds (i + 1) := tg
      subst tg
      refine xb_seal 6 rfl seal_lst ?_
      exact xb_end ⟨fun _ _ h => h, fun _ _ h => h, fun _ _ h => h, fun _ _ h => h, fun _ _ h => h, trivial⟩
  · rw [rgI_len]
    exact xb_retE (xv 4 rfl rfl rfl)
end Pf

set_option maxHeartbeats 8000000
namespace Pf
open PySem PySem.Spec PyProof.Rows L2 Lg Ra
/-! ### what the law asks of fair and steady -/
abbrev lotF (w : Wo) (R : List Int) (ws : Wts) : List Int := greF w.n (kepF (spaF w ws) R [])
def dueF (w : Wo) (wss : List Wts) (R : List Int) (p : Int) : Ans := (p, bst (wss.map fun ws => lodF w ws (kOn w.n (lotF w R ws) p)))
def undL (w : Wo) (wss : List Wts) (R : List Int) : List Int := greF w.n (undF (wss.map (spaF w)) R)
def rowF (w : Wo) (wss : List Wts) (R : List Int) (p : Int) : Ans := (p, bst (wss.map fun ws => lodF w ws (kOn w.n (undL w wss R) p)))
def setA (st : List Rat) (as : List Ans) : List Rat := as.foldl (fun s a => s.set a.1.toNat a.2.1) st
def milli : Rat := mkRat 1 1000
abbrev dues (w : Wo) (wss : List Wts) (R : List Int) : List Ans := R.map (dueF w wss R)
abbrev rows (w : Wo) (wss : List Wts) (R : List Int) : List Ans := R.map (rowF w wss R)
abbrev aftS (w : Wo) (wss : List Wts) (R : List Int) : List Rat := setA w.st (dues w wss R)
abbrev endS (w : Wo) (wss : List Wts) (R : List Int) : List Rat := setA (aftS w wss R) (rows w wss R)
/-- the facts that the law asks for -/
structure RF (w : Wo) (wss : List Wts) (R ds : List Int) : Prop where
  fair : R.map (fairA w.pk wss R) = dues w wss R
  kept : ∀ ws ∈ wss, ∀ p ∈ R, p ∈ lotF w R ws
  less : ∀ p ∈ R, 0 ≤ ((dueF w wss R p).2.1 - milli).num → p ∉ greF w.n (stoF (withF w.st (dues w wss R) p ((dueF w wss R p).2.1 - milli)) (lodF w (wss.getD (dueF w wss R p).2.2 [])))
  stand : ∀ ws ∈ wss, ∀ p ∈ R, p ∈ greF w.n (stoF (aftS w wss R) (lodF w ws))
  keptU : ∀ p ∈ R, p ∈ undL w wss R
  stdy : R.map (steadyA w.pk wss R) = rows w wss R
  stdyL : (keptW w.pk wss R).2 = undL w wss R
  above : ∀ p ∈ R, ¬ (rowF w wss R p).2.1 < (dueF w wss R p).2.1
  less2 : ∀ p ∈ R, 0 ≤ ((rowF w wss R p).2.1 - milli).num → p ∉ wornF w.n (withF w.st (rows w wss R) p ((rowF w wss R p).2.1 - milli)) (wss.map (lodF w)) ds
  worn : wornF w.n (endS w wss R) (wss.map (lodF w)) ds = undL w wss R
  worn4 : wornF w.n (endS w wss R) (wss.map (lodF w)) (ds.drop 4) = undL w wss R
/-- what the call needs -/
structure RIn (w : Wo) (wss : List Wts) (R ds : List Int) : Prop where
  ok : w.Ok
  hv : ∀ ws ∈ wss, HvOk ws
  ld : LdIn w.pk wss R
  lot : Lot w.n R
  d13 : 13 ≤ ds.length
theorem bst_which (vs : List Rat) : vs ≠ [] → (bst vs).2 < vs.length := by
  refine snoc_ind (P := fun vs => vs ≠ [] → (bst vs).2 < vs.length) (fun h => (h rfl).elim) (fun xs x ih _ => ?_) vs
  cases xs with
  | nil => exact Nat.lt_succ_self 0
  | cons y ys =>
    rw [bst_snoc (by simp)]
    split
    · simp
    · have := ih (by simp)
      rw [List.length_append]; simp only [List.length_singleton]; omega
theorem setA_len {st : List Rat} : ∀ {as : List Ans}, (setA st as).length = st.length := fun {as} => by
  unfold setA
  induction as generalizing st with
  | nil => rfl
  | cons a as ih => rw [List.foldl_cons, ih, List.length_set]
theorem setA_P {P : Rat → Prop} {as : List Ans} : ∀ {st : List Rat}, (∀ s ∈ st, P s) → (∀ a ∈ as, P a.2.1) → ∀ s ∈ setA st as, P s := by
  induction as with
  | nil => intro st h _ s hs; exact h s hs
  | cons a as ih =>
    intro st h ha s hs
    refine ih (st := st.set a.1.toNat a.2.1) (fun s hs => ?_) (fun a ha' => ha a (List.mem_cons_of_mem _ ha')) s hs
    rcases List.mem_or_eq_of_mem_set hs with h1 | h1
    · exact h s h1
    · subst h1; exact ha a List.mem_cons_self
theorem big_sm : Sm bigR := (Bd.int (n := 40) (i := 1000000000) (by decide) (by decide)).mono (by decide)
theorem with_P {P : Rat → Prop} {as : List Ans} {st : List Rat} {p : Int} {q : Rat} (h : ∀ s ∈ st, P s) (hb : P bigR) (hq : P q) : ∀ s ∈ withF st as p q, P s := fun s hs => by
  unfold withF at hs
  rcases List.mem_or_eq_of_mem_set hs with h1 | h1
  · clear hs
    induction as generalizing st with
    | nil => exact h s h1
    | cons a as ih =>
      refine ih (st := st.set a.1.toNat bigR) (fun s hs => ?_) h1
      rcases List.mem_or_eq_of_mem_set hs with h2 | h2
      · exact h s h2
      · subst h2; exact hb
  · subst h1; exact hq
theorem withF_len {st : List Rat} {as : List Ans} {p : Int} {q : Rat} : (withF st as p q).length = st.length := by unfold withF; rw [List.length_set, with_len]
theorem withF_at {st : List Rat} {as : List Ans} {p : Int} {q : Rat} (h : p.toNat < st.length) : (withF st as p q)[p.toNat]? = some q := by
  unfold withF
  rw [List.getElem?_set_self]
  rw [with_len]; exact h
theorem tFr_milli {K : PySem.W.Frag} : tTup K [tInt 1, tInt 1000] = tFr K milli := by
  have e := tFr_mk K 1 1000 (by decide)
  have e1 : (1 : Int) / ((Nat.gcd (1 : Int).natAbs 1000 : Nat) : Int) = 1 := by decide +kernel
  have e2 : ((1000 : Nat) : Int) / ((Nat.gcd (1 : Int).natAbs 1000 : Nat) : Int) = 1000 := by decide +kernel
  rw [e1, e2] at e
  exact e
theorem milli_bd : Bd 10 milli := Bd.mk (n := 10) (t := 1) (d := 1000) (by decide) (by decide) (by decide)
def ansD (a : Ans) : PyData := .tuple [.int a.1, frD a.2.1, .int (a.2.2 : Nat)]
theorem dat_ans {K : PySem.W.Frag} (a : Ans) : DatK K (tAns K a) (ansD a) := dat_tup ⟨dat_int, dat_fr, dat_int, trivial⟩
theorem sh_fr {k : Nat} (q : Rat) : Sh (k + 1) (frD q) := sh_tuple fun d hd => by
  rcases List.mem_cons.mp hd with rfl | hd
  · exact sh_int
  · rw [List.mem_singleton.mp hd]; exact sh_int
theorem sh_ans (a : Ans) : Sh 2 (ansD a) := sh_tuple fun d hd => by
  rcases List.mem_cons.mp hd with rfl | hd
  · exact sh_int
  · rcases List.mem_cons.mp hd with rfl | hd
    · exact sh_fr _
    · rw [List.mem_singleton.mp hd]; exact sh_int
def ansLD (as : List Ans) : PyData := .list (as.map ansD)
theorem dat_ansL {K : PySem.W.Frag} (as : List Ans) : DatK K (tLst (as.map (tAns K))) (ansLD as) := dat_lst (datAll_map dat_ans as)
theorem sh_ansL (as : List Ans) : Sh 3 (ansLD as) := sh_list fun d hd => by
  obtain ⟨a, _, rfl⟩ := List.mem_map.mp hd
  exact sh_ans a
theorem sh_lo (lot : List Int) : Sh 3 (.tuple (lot.map PyData.int)) := sh_tuple fun d hd => by
  obtain ⟨a, _, rfl⟩ := List.mem_map.mp hd
  exact sh_int
def pairD (as : List Ans) (lot : List Int) : PyData := .tuple [ansLD as, .tuple (lot.map PyData.int)]
theorem dat_pair {K : PySem.W.Frag} (as : List Ans) (lot : List Int) : DatK K (tTup K [tLst (as.map (tAns K)), tLo K lot]) (pairD as lot) := dat_tup ⟨dat_ansL as, dat_intsT, trivial⟩
theorem sh_pair (as : List Ans) (lot : List Int) : Sh 4 (pairD as lot) := sh_tuple fun d hd => by
  rcases List.mem_cons.mp hd with rfl | hd
  · exact sh_ansL as
  · rw [List.mem_singleton.mp hd]; exact sh_lo lot
theorem eqv_sh {k : Nat} {d : PyData} (h : Sh k d) : PyData.eqv d d = true := SeqAt.eqv_refl d h.1
def spRight (K : PySem.W.Frag) (C : Addr) : FS := fun W Ts T => ∃ (w : Wo) (wss : List Wts) (R ds : List Int), W = [] ∧ Ts = [tLst (ds.map tInt), tWo K w, tPk K C w.pk, tLst (wss.map (tWs K)), tLo K R] ∧ RIn w wss R ds ∧ RF w wss R ds ∧ T = tBl true
abbrev FRight (b : Bs) (C : Addr) : Prop := FnAt b "_law_right" 5 (spOf 5 (spRight b.K C)) 14
theorem asked_ts {K : PySem.W.Frag} {w : Wo} {wss : List Wts} {L : Wts → List Int} {p : Int} : [tWo K w, tLst (wss.map (tWs K)), tLst (wss.map fun ws => tLo K (L ws)), tInt p] = [tWo K w, tLst (((wss.map fun ws => (ws, L ws)).map Prod.fst).map (tWs K)), tLst (((wss.map fun ws => (ws, L ws)).map Prod.snd).map (tLo K)), tInt p] := by
  rw [List.map_map, List.map_map, List.map_map, List.map_map]; rfl
theorem asked_sp {K : PySem.W.Frag} {W : Wd} {w : Wo} {wss : List Wts} {L : Wts → List Int} {p : Int} (o : w.Ok) (ne : wss ≠ []) (h8 : wss.length ≤ 8) (hv : ∀ ws ∈ wss, HvOk ws) (hL : ∀ ws ∈ wss, Lot w.n (L ws) ∧ p ∈ L ws) :
    spAsked K W [tWo K w, tLst (wss.map (tWs K)), tLst (wss.map fun ws => tLo K (L ws)), tInt p] (tAns K (p, bst (wss.map fun ws => lodF w ws (kOn w.n (L ws) p)))) := by
  refine ⟨w, wss.map fun ws => (ws, L ws), p, asked_ts, o, by simpa using ne, by simpa using h8, fun q hq => ?_, ?_⟩
  · obtain ⟨ws, hw, rfl⟩ := List.mem_map.mp hq
    exact ⟨hv ws hw, hL ws hw⟩
  · rw [List.map_map]; rfl
theorem rep_lo {α : Type} {x : Ty} (xs : List α) : (List.replicate xs.length [x]).flatten = xs.map fun _ => x := by
  induction xs with
  | nil => rfl
  | cons y ys ih => rw [List.length_cons, List.replicate_succ, List.flatten_cons, ih]; rfl
theorem fr_lo {K : PySem.W.Frag} {lot : List Int} : Free isL (tLo K lot) := fr_tTup nt_L fun T hT => by
  obtain ⟨p, _, rfl⟩ := List.mem_map.mp hT
  exact fr_tInt
theorem xf_right {b : Bs} {C D : Addr} (B : Bt b) (hT : FTables b) (hLy : FLying b) (hK : FKept b) (hA : FAsked b) (hF : FFair b C D) (hM : FLMinus b) (hWi : FWith b) (hSt : FStood b) (hU : FUnder b) (hSy : FSteady b C D) (hB : FLBelow b) (hWo : FWorn b) :
    XF b ["_law_digits_here", "_law_world_here", "_law_plank", "_law_loadings", "_law_some", "_law_many", "_law_tables_here", "_law_sheets", "_law_lots", "_law_due", "_law_told", "_law_strong", "_law_lying_here", "_law_stood_here", "_law_rows", "_law_prop", "_law_much", "_law_which", "_law_other", "_law_left", "_law_fairly", "_law_steadily", "_law_heavy_here", "_law_spares_here"] 13 (scOf 82) 5 (bodyOf 82) (spRight b.K C) := by
  rintro W Ts T ⟨w, wss, R, ds, rfl, rfl, ri, rf, rfl⟩ - Hi0 H0
  have o := ri.ok
  have n4 := o.n4
  have h8 := ri.ld.most
  have ne : wss ≠ [] := by intro z; have := ri.ld.one; rw [z] at this; simp at this
  have stl := o.len
  have d13 := ri.d13
  have rl := lot_len ri.lot
  have lsm : ∀ ws ∈ wss, ∀ k, Tri w.n k → Sm (lodF w ws k) := fun ws hw k t => sm_of (lod_bd o (ri.hv ws hw) t)
  have dbd : ∀ p ∈ R, Bd 400 (dueF w wss R p).2.1 := fun p hp => by
    have m := bst_mem (wss.map fun ws => lodF w ws (kOn w.n (lotF w R ws) p)) (by simpa using ne)
    obtain ⟨ws, hw, e⟩ := List.mem_map.mp m
    show Bd 400 (bst _).1
    rw [← e]
    exact lod_bd o (ri.hv ws hw) ((gre_lot _ _).tri (rf.kept ws hw p hp))
  have rbd : ∀ p ∈ R, Bd 400 (rowF w wss R p).2.1 := fun p hp => by
    have m := bst_mem (wss.map fun ws => lodF w ws (kOn w.n (undL w wss R) p)) (by simpa using ne)
    obtain ⟨ws, hw, e⟩ := List.mem_map.mp m
    show Bd 400 (bst _).1
    rw [← e]
    exact lod_bd o (ri.hv ws hw) ((gre_lot _ _).tri (rf.keptU p hp))
  have ssm : ∀ s ∈ w.st, Sm s := fun s hs => sm_of (o.st s hs).1
  have asm : ∀ s ∈ aftS w wss R, Sm s := setA_P ssm fun a ha => by
    obtain ⟨p, hp, rfl⟩ := List.mem_map.mp ha
    exact sm_of (dbd p hp)
  have esm : ∀ s ∈ endS w wss R, Sm s := setA_P asm fun a ha => by
    obtain ⟨p, hp, rfl⟩ := List.mem_map.mp ha
    exact sm_of (rbd p hp)
  refine xb_asg 5 (T1 := tInt (w.n : Int)) (XE.eq (xe_blt B.len (xa_cons (xe_dget (dg_spots (K := b.K)) (xv 1 rfl rfl rfl) xe_str) xa_nil) (cb_len sq_lst)) (congrArg tInt (by rw [List.length_map]))) ?_
  refine xb_asg 6 (xe_call hT (xa_cons (xv 1 rfl rfl rfl) (xa_cons (xv 3 rfl rfl rfl) xa_nil)) ⟨w, wss, rfl, o, ri.hv, h8, rfl⟩) ?_
  refine xb_lcG 7 (F := fun f : Tr → Rat => tTab w.n fun k => tFr b.K (f k)) (g := lodF w) (xc (xs := wss) (F := tWs b.K) [("_law_heavy_here", 22)] [22] (fun ws => [tWs b.K ws]) (fun _ => true) (fun ws => tTab w.n fun k => tFr b.K (lodF w ws k)) (xl_list ls_lst (xv 3 rfl rfl rfl)) (fun ws hw => xg_name 22) (fun ws hw => xts_nil)
    (fun ws hw _ => xe_call hLy (xa_cons (xv 1 rfl rfl rfl) (xa_cons (xv 22 rfl rfl rfl) xa_nil)) ⟨w, ws, rfl, o, ri.hv ws hw, rfl⟩) (by omega)) ?_
  refine xb_cell 8 (xe_lcM (xc (xs := wss) (F := fun ws => tTab w.n fun k => tFr b.K (spaF w ws k)) [("_law_spares_here", 23)] [23] (fun ws => [tTab w.n fun k => tFr b.K (spaF w ws k)]) (fun _ => true) (fun ws => tLo b.K (lotF w R ws)) (xl_list ls_lst (xv 6 rfl rfl rfl)) (fun ws hw => xg_name 23) (fun ws hw => xts_nil)
    (fun ws hw _ => xe_call hK (xa_cons (xv 23 rfl rfl rfl) (xa_cons (xv 5 rfl rfl rfl) (xa_cons (xv 4 rfl rfl rfl) (xa_cons (xe_lstD xa_nil) xa_nil)))) ⟨w.n, spaF w ws, R, [], rfl, n4, rfl⟩) (by omega))) ?_
  refine xb_lcG 9 (F := tAns b.K) (g := dueF w wss R) (xc (xs := R) (F := tInt) [("_law_prop", 15)] [15] (fun p => [tInt p]) (fun _ => true) (fun p => tAns b.K (dueF w wss R p)) (xl_tup tp_tup (xv 4 rfl rfl rfl)) (fun p hp => xg_name 15) (fun p hp => xts_nil)
    (fun p hp _ => xe_call hA (xa_cons (xv 1 rfl rfl rfl) (xa_cons (xv 3 rfl rfl rfl) (xa_cons (xv 8 rfl rfl rfl) (xa_cons (xv 15 rfl rfl rfl) xa_nil)))) (asked_sp o ne h8 ri.hv fun ws hw => ⟨gre_lot _ _, rf.kept ws hw p hp⟩)) (by omega)) ?_
  refine xb_asg 10 (T1 := tLst ((dues w wss R).map (tAns b.K))) (XE.eq (xe_call hF (xa_cons (xv 2 rfl rfl rfl) (xa_cons (xv 3 rfl rfl rfl) (xa_cons (xv 4 rfl rfl rfl) xa_nil))) ⟨w.pk, wss, R, rfl, rfl, ri.ld, rfl⟩) (by rw [rf.fair])) ?_
  refine xb_guard (xt_w (xw_or (xt_cmp (xv 10 rfl rfl rfl) (xv 9 rfl rfl rfl) (cm_neD (dat_ansL _) (dat_ansL _) ((sh_ansL _).shaped (by decide)) ((sh_ansL _).shaped (by decide)))) fun h => (xw_or1 (xt_not (xt_val (xe_blt B.isinstance (xa_cons (xv 10 rfl rfl rfl) (xa_cons (xe_ty (z := "list") B.list) xa_nil)) (cb_isiK (p := true) ty_lst))))))) (by rw [eqv_sh (sh_ansL _)]; rfl) ?_
  refine xb_own 11 (xn_list B.list ls_lst (xe_dget (dg_strong (K := b.K)) (xv 1 rfl rfl rfl) xe_str)) fun q => ?_
  refine xb_forL (xs := dues w wss R) (F := tAns b.K) (js := [15, 16, 17]) (fun a => [tInt a.1, tFr b.K a.2.1, tInt (a.2.2 : Nat)]) (fun i => [some (tLst (ds.map tInt)), some (tWo b.K w), some (tPk b.K C w.pk), some (tLst (wss.map (tWs b.K))), some (tLo b.K R), some (tInt (w.n : Int)), some (tLst (wss.map fun ws => tTab w.n fun k => tFr b.K (spaF w ws k))), some (tLst ((wss.map (lodF w)).map fun f => tTab w.n fun k => tFr b.K (f k))), none, some (tLst ((R.map (dueF w wss R)).map (tAns b.K))), none, some (tRef q), none, none, none, none, none, none, none, none, none, none, none, none]) (fun i => [oLst q ((setA w.st ((dues w wss R).take i)).map (tFr b.K))])
    (xl_list ls_lst (xv 9 rfl rfl rfl)) ⟨fun _ _ h => h, fun _ _ h => h, fun _ _ h => h, fun _ _ h => h, fun _ _ h => h, fun _ _ h => h, fun _ _ h => h, fun _ _ h => h, fun _ _ h => h, fun _ _ h => h, trivial⟩ rfl (fun a hm => xg_tup (xgs_cons (xg_name 15) (xgs_cons (xg_name 16) (xgs_cons (xg_name 17) xgs_nil))) tp_tup) (fun i a hi Hi0 H0 => ?_) ?_
  · obtain ⟨p, hp, rfl⟩ := List.mem_map.mp (List.mem_of_getElem? hi)
    have pr := ri.lot.at_ p hp
    have qm : Sm ((dueF w wss R p).2.1 - milli) := sm_of ((dbd p hp).sub milli_bd)
    have wl : (dueF w wss R p).2.2 < wss.length := by
      have := bst_which (wss.map fun ws => lodF w ws (kOn w.n (lotF w R ws) p)) (by simpa using ne)
      rwa [List.length_map] at this
    have wsl : wss[(dueF w wss R p).2.2]? = some (wss.getD (dueF w wss R p).2.2 []) := by rw [List.getD_eq_getElem?_getD, List.getElem?_eq_getElem wl]; rfl
    refine xb_setL 0 (n := p.toNat) (xv 16 rfl rfl rfl) (xv 11 rfl rfl rfl) (xv 15 rfl rfl rfl) rfl (by show ((p.toNat : Nat) : Int) = p; omega) (by rw [List.length_map, setA_len]; omega) ?_
    refine xb_asg 18 (xe_call hWi (xa_cons (xv 1 rfl rfl rfl) (xa_cons (xv 9 rfl rfl rfl) (xa_cons (xv 15 rfl rfl rfl) (xa_cons (xe_call hM (xa_cons (xv 16 rfl rfl rfl) (xa_cons (XE.eq (xe_tp (xa_cons xe_int (xa_cons xe_int xa_nil))) tFr_milli) xa_nil)) ⟨_, _, rfl, sm_of (dbd p hp), sm_of milli_bd, rfl⟩) xa_nil)))) ⟨w, dues w wss R, p, _, rfl, by omega, fun a ha => by
      obtain ⟨r, hr, rfl⟩ := List.mem_map.mp ha
      have := ri.lot.at_ r hr
      exact ⟨this.1, by show r < _; omega⟩, pr.1, by omega, rfl⟩) ?_
    refine xb_guard (xt_w (xw_and (xt_cmp (fN (xe_ix (xv 18 rfl rfl rfl) (xv 15 rfl rfl rfl) (ix_at (n := p.toNat) sq_lst (by show ((p.toNat : Nat) : Int) = p; omega) (by rw [List.getElem?_map, withF_at (by omega)]; rfl)))) xe_int cm_ge) fun h => (xw_and1 (xt_cmp (xv 15 rfl rfl rfl) (xe_call hSt (xa_cons (xv 1 rfl rfl rfl) (xa_cons (xe_ix (xv 7 rfl rfl rfl) (xv 17 rfl rfl rfl) (ix_at (n := (dueF w wss R p).2.2) sq_lst rfl (by rw [List.getElem?_map, List.getElem?_map, wsl]; rfl))) (xa_cons (xv 18 rfl rfl rfl) xa_nil)))
      ⟨w, lodF w (wss.getD (dueF w wss R p).2.2 []), _, rfl, n4, by rw [withF_len]; exact stl, with_P ssm big_sm qm, lsm _ (List.mem_of_getElem? wsl), rfl⟩) (cm_in sq_tup))))) (by
        by_cases h0 : 0 ≤ ((dueF w wss R p).2.1 - milli).num
        · have := rf.less p hp h0
          exact Bool.and_eq_false_iff.mpr (.inr (decide_eq_false this))
        · exact Bool.and_eq_false_iff.mpr (.inl (decide_eq_false h0))) ?_
    rw [take_snoc hi]
    have e : setA w.st ((dues w wss R).take i ++ [dueF w wss R p]) = (setA w.st ((dues w wss R).take i)).set p.toNat (dueF w wss R p).2.1 := by unfold setA; rw [List.foldl_append]; rfl
    rw [e, List.map_set]
    exact xb_end ⟨fun _ _ h => h, fun _ _ h => h, fun _ _ h => h, fun _ _ h => h, fun _ _ h => h, fun _ _ h => h, fun _ _ h => h, fun _ _ h => h, fun _ _ h => h, fun _ _ h => h, trivial⟩
  rw [List.take_length]
  refine xb_forL (xs := wss.map (lodF w)) (F := fun f => tTab w.n fun k => tFr b.K (f k)) (js := [12]) (fun f => [tTab w.n fun k => tFr b.K (f k)]) (fun i => [some (tLst (ds.map tInt)), some (tWo b.K w), some (tPk b.K C w.pk), some (tLst (wss.map (tWs b.K))), some (tLo b.K R), some (tInt (w.n : Int)), some (tLst (wss.map fun ws => tTab w.n fun k => tFr b.K (spaF w ws k))), some (tLst ((wss.map (lodF w)).map fun f => tTab w.n fun k => tFr b.K (f k))), none, some (tLst ((R.map (dueF w wss R)).map (tAns b.K))), none, some (tRef q), none, none, none, none, none, none, none, none, none, none, none, none]) (fun i => [oLst q ((aftS w wss R).map (tFr b.K))])
    (xl_list ls_lst (xv 7 rfl rfl rfl)) ⟨fun _ _ h => h, fun _ _ h => h, fun _ _ h => h, fun _ _ h => h, fun _ _ h => h, fun _ _ h => h, fun _ _ h => h, fun _ _ h => h, fun _ _ h => h, fun _ _ h => h, trivial⟩ rfl (fun a hm => xg_name 12) (fun i f hi Hi0 H0 => ?_) ?_
  · obtain ⟨ws, hw, rfl⟩ := List.mem_map.mp (List.mem_of_getElem? hi)
    refine xb_asgS 19 (xs_lend (P := isL) (Tp := tLst ((aftS w wss R).map (tFr b.K))) 11 0 rfl rfl rfl seal_lst isL_q fr_lo (xe_call hSt (xa_cons (xv 1 rfl rfl rfl) (xa_cons (xv 12 rfl rfl rfl) (xa_cons (xv 11 rfl rfl rfl) xa_nil))) ⟨w, lodF w ws, aftS w wss R, rfl, n4, by rw [setA_len]; exact stl, asm, lsm ws hw, rfl⟩)) ?_
    refine xb_guard (xt_cmp (xe_lcF (xc (xs := R) (F := tInt) [("_law_prop", 15)] [15] (fun p => [tInt p]) (fun p => !decide (p ∈ greF w.n (stoF (aftS w wss R) (lodF w ws)))) tInt (xl_tup tp_tup (xv 4 rfl rfl rfl)) (fun p hp => xg_name 15) (fun p hp => xts_one (xt_cmp (xv 15 rfl rfl rfl) (xv 19 rfl rfl rfl) (cm_notIn sq_tup))) (fun p hp _ => xv 15 rfl rfl rfl) (by omega))) (xe_lstD xa_nil) (cm_neD dat_ints (dat_lst (ds := []) trivial) (shaped_ints _) (by rfl))) (by
      rw [eqv_nil]
      have : R.filter (fun p => !decide (p ∈ greF w.n (stoF (aftS w wss R) (lodF w ws)))) = [] := List.filter_eq_nil_iff.mpr fun p hp => by simp [rf.stand ws hw p hp]
      rw [this]; rfl) ?_
    exact xb_end ⟨fun _ _ h => h, fun _ _ h => h, fun _ _ h => h, fun _ _ h => h, fun _ _ h => h, fun _ _ h => h, fun _ _ h => h, fun _ _ h => h, fun _ _ h => h, fun _ _ h => h, trivial⟩
  refine xb_asg 13 (T1 := tLo b.K (undL w wss R)) (xe_call hU (xa_cons (xv 6 rfl rfl rfl) (xa_cons (xv 5 rfl rfl rfl) (xa_cons (xv 4 rfl rfl rfl) xa_nil))) ⟨w.n, wss.map (spaF w), R, by rw [List.map_map]; rfl, n4, by simpa using ne, by simpa using h8, rfl⟩) ?_
  refine xb_lcG 14 (F := tAns b.K) (g := rowF w wss R) (xc (xs := R) (F := tInt) [("_law_prop", 15)] [15] (fun p => [tInt p]) (fun _ => true) (fun p => tAns b.K (rowF w wss R p)) (xl_tup tp_tup (xv 4 rfl rfl rfl)) (fun p hp => xg_name 15) (fun p hp => xts_nil)
    (fun p hp _ => xe_call hA (xa_cons (xv 1 rfl rfl rfl) (xa_cons (xv 3 rfl rfl rfl) (xa_cons (XE.eq (xe_bin (xe_lstD (xa_cons (xv 13 rfl rfl rfl) xa_nil)) (xe_blt B.len (xa_cons (xv 3 rfl rfl rfl) xa_nil) (cb_len sq_lst)) (ok_rep (n := wss.length) (by rw [List.length_map]) (by show wss.length * 1 ≤ 100000; omega) (by omega))) (congrArg Lg.tLst (rep_lo wss))) (xa_cons (xv 15 rfl rfl rfl) xa_nil)))) (asked_sp o ne h8 ri.hv fun ws hw => ⟨gre_lot _ _, rf.keptU p hp⟩)) (by omega)) ?_
  refine xb_guard (xt_cmp (XE.eq (xe_call hSy (xa_cons (xv 2 rfl rfl rfl) (xa_cons (xv 3 rfl rfl rfl) (xa_cons (xv 4 rfl rfl rfl) xa_nil))) ⟨w.pk, wss, R, rfl, rfl, ri.ld, rfl⟩) (show _ = tTup b.K [tLst ((rows w wss R).map (tAns b.K)), tLo b.K (undL w wss R)] by rw [rf.stdy, rf.stdyL])) (xe_tp (xa_cons (xv 14 rfl rfl rfl) (xa_cons (xv 13 rfl rfl rfl) xa_nil))) (cm_neD (dat_pair _ _) (dat_pair _ _) ((sh_pair _ _).shaped (by decide)) ((sh_pair _ _).shaped (by decide)))) (by rw [eqv_sh (sh_pair _ _)]; rfl) ?_
  refine xb_forL (xs := (dues w wss R).zip (rows w wss R)) (F := fun p => tTup b.K [tAns b.K p.1, tAns b.K p.2]) (js := [20, 21]) (fun p => [tAns b.K p.1, tAns b.K p.2]) (fun i => [some (tLst (ds.map tInt)), some (tWo b.K w), some (tPk b.K C w.pk), some (tLst (wss.map (tWs b.K))), some (tLo b.K R), some (tInt (w.n : Int)), some (tLst (wss.map fun ws => tTab w.n fun k => tFr b.K (spaF w ws k))), some (tLst ((wss.map (lodF w)).map fun f => tTab w.n fun k => tFr b.K (f k))), none, some (tLst ((R.map (dueF w wss R)).map (tAns b.K))), none, some (tRef q), none, some (tLo b.K (undL w wss R)), some (tLst ((R.map (rowF w wss R)).map (tAns b.K))), none, none, none, none, none, none, none, none, none]) (fun i => [oLst q ((aftS w wss R).map (tFr b.K))])
    (xl_zipL B.zip ls_lst ls_lst (xv 9 rfl rfl rfl) (xv 14 rfl rfl rfl)) ⟨fun _ _ h => h, fun _ _ h => h, fun _ _ h => h, fun _ _ h => h, fun _ _ h => h, fun _ _ h => h, fun _ _ h => h, fun _ _ h => h, fun _ _ h => h, fun _ _ h => h, fun _ _ h => h, fun _ _ h => h, trivial⟩ rfl (fun a hm => xg_tup (xgs_cons (xg_name 20) (xgs_cons (xg_name 21) xgs_nil)) tp_tup) (fun i a hi Hi0 H0 => ?_) ?_
  · have hz : ∃ p ∈ R, a = (dueF w wss R p, rowF w wss R p) := by
      have m := List.mem_of_getElem? hi
      rw [List.zip_map'] at m
      obtain ⟨p, hp, e⟩ := List.mem_map.mp m
      exact ⟨p, hp, e.symm⟩
    obtain ⟨p, hp, rfl⟩ := hz
    refine xb_guard (xt_val (xe_call hB (xa_cons (xe_ix (xv 21 rfl rfl rfl) xe_int (ix_at (n := 1) sq_tup rfl rfl)) (xa_cons (xe_ix (xv 20 rfl rfl rfl) xe_int (ix_at (n := 1) sq_tup rfl rfl)) xa_nil)) ⟨_, _, rfl, sm_of (rbd p hp), sm_of (dbd p hp), rfl⟩)) (decide_eq_false (rf.above p hp)) ?_
    exact xb_end ⟨fun _ _ h => h, fun _ _ h => h, fun _ _ h => h, fun _ _ h => h, fun _ _ h => h, fun _ _ h => h, fun _ _ h => h, fun _ _ h => h, fun _ _ h => h, fun _ _ h => h, fun _ _ h => h, fun _ _ h => h, trivial⟩
  refine xb_forL (xs := rows w wss R) (F := tAns b.K) (js := [15, 16, 17]) (fun a => [tInt a.1, tFr b.K a.2.1, tInt (a.2.2 : Nat)]) (fun i => [some (tLst (ds.map tInt)), some (tWo b.K w), some (tPk b.K C w.pk), some (tLst (wss.map (tWs b.K))), some (tLo b.K R), some (tInt (w.n : Int)), some (tLst (wss.map fun ws => tTab w.n fun k => tFr b.K (spaF w ws k))), some (tLst ((wss.map (lodF w)).map fun f => tTab w.n fun k => tFr b.K (f k))), none, some (tLst ((R.map (dueF w wss R)).map (tAns b.K))), none, some (tRef q), none, some (tLo b.K (undL w wss R)), some (tLst ((R.map (rowF w wss R)).map (tAns b.K))), none, none, none, none, none, none, none, none, none]) (fun i => [oLst q ((setA (aftS w wss R) ((rows w wss R).take i)).map (tFr b.K))])
    (xl_list ls_lst (xv 14 rfl rfl rfl)) ⟨fun _ _ h => h, fun _ _ h => h, fun _ _ h => h, fun _ _ h => h, fun _ _ h => h, fun _ _ h => h, fun _ _ h => h, fun _ _ h => h, fun _ _ h => h, fun _ _ h => h, fun _ _ h => h, fun _ _ h => h, trivial⟩ rfl (fun a hm => xg_tup (xgs_cons (xg_name 15) (xgs_cons (xg_name 16) (xgs_cons (xg_name 17) xgs_nil))) tp_tup) (fun i a hi Hi0 H0 => ?_) ?_
  · obtain ⟨p, hp, rfl⟩ := List.mem_map.mp (List.mem_of_getElem? hi)
    have pr := ri.lot.at_ p hp
    have qm : Sm ((rowF w wss R p).2.1 - milli) := sm_of ((rbd p hp).sub milli_bd)
    refine xb_setL 0 (n := p.toNat) (xv 16 rfl rfl rfl) (xv 11 rfl rfl rfl) (xv 15 rfl rfl rfl) rfl (by show ((p.toNat : Nat) : Int) = p; omega) (by rw [List.length_map, setA_len, setA_len]; omega) ?_
    refine xb_asg 18 (xe_call hWi (xa_cons (xv 1 rfl rfl rfl) (xa_cons (xv 14 rfl rfl rfl) (xa_cons (xv 15 rfl rfl rfl) (xa_cons (xe_call hM (xa_cons (xv 16 rfl rfl rfl) (xa_cons (XE.eq (xe_tp (xa_cons xe_int (xa_cons xe_int xa_nil))) tFr_milli) xa_nil)) ⟨_, _, rfl, sm_of (rbd p hp), sm_of milli_bd, rfl⟩) xa_nil)))) ⟨w, rows w wss R, p, _, rfl, by omega, fun a ha => by
      obtain ⟨r, hr, rfl⟩ := List.mem_map.mp ha
      have := ri.lot.at_ r hr
      exact ⟨this.1, by show r < _; omega⟩, pr.1, by omega, rfl⟩) ?_
    refine xb_guard (xt_w (xw_and (xt_cmp (fN (xe_ix (xv 18 rfl rfl rfl) (xv 15 rfl rfl rfl) (ix_at (n := p.toNat) sq_lst (by show ((p.toNat : Nat) : Int) = p; omega) (by rw [List.getElem?_map, withF_at (by omega)]; rfl)))) xe_int cm_ge) fun h => (xw_and1 (xt_cmp (xv 15 rfl rfl rfl) (xe_call hWo (xa_cons (xv 0 rfl rfl rfl) (xa_cons (xv 5 rfl rfl rfl) (xa_cons (xv 7 rfl rfl rfl) (xa_cons (xv 18 rfl rfl rfl) xa_nil))))
      ⟨ds, w.n, wss.map (lodF w), _, rfl, rfl, by omega, n4, by rw [List.length_map]; exact h8, by rw [withF_len]; exact stl, with_P ssm big_sm qm, fun f hf => by
        obtain ⟨ws, hw, rfl⟩ := List.mem_map.mp hf
        exact lsm ws hw, rfl⟩) (cm_in sq_tup))))) (by
        by_cases h0 : 0 ≤ ((rowF w wss R p).2.1 - milli).num
        · have := rf.less2 p hp h0
          exact Bool.and_eq_false_iff.mpr (.inr (decide_eq_false this))
        · exact Bool.and_eq_false_iff.mpr (.inl (decide_eq_false h0))) ?_
    rw [take_snoc hi]
    have e : setA (aftS w wss R) ((rows w wss R).take i ++ [rowF w wss R p]) = (setA (aftS w wss R) ((rows w wss R).take i)).set p.toNat (rowF w wss R p).2.1 := by unfold setA; rw [List.foldl_append]; rfl
    rw [e, List.map_set]
    exact xb_end ⟨fun _ _ h => h, fun _ _ h => h, fun _ _ h => h, fun _ _ h => h, fun _ _ h => h, fun _ _ h => h, fun _ _ h => h, fun _ _ h => h, fun _ _ h => h, fun _ _ h => h, fun _ _ h => h, fun _ _ h => h, trivial⟩
  rw [List.take_length]
  refine xb_seal 11 rfl seal_lst ?_
  have wsp : ∀ d : List Int, 9 ≤ d.length → spWorn b.K [] [tLst (d.map tInt), tInt (w.n : Int), tLst ((wss.map (lodF w)).map fun f => tTab w.n fun k => tFr b.K (f k)), tLst ((endS w wss R).map (tFr b.K))] (tLo b.K (wornF w.n (endS w wss R) (wss.map (lodF w)) d)) := fun d hd =>
    ⟨d, w.n, wss.map (lodF w), endS w wss R, rfl, rfl, hd, n4, by rw [List.length_map]; exact h8, by rw [setA_len, setA_len]; exact stl, esm, fun f hf => by
      obtain ⟨ws, hw, rfl⟩ := List.mem_map.mp hf
      exact lsm ws hw, rfl⟩
  refine xb_guard (xt_cmp (XE.eq (xe_call hWo (xa_cons (xv 0 rfl rfl rfl) (xa_cons (xv 5 rfl rfl rfl) (xa_cons (xv 7 rfl rfl rfl) (xa_cons (xv 11 rfl rfl rfl) xa_nil)))) (wsp ds (by omega))) (show _ = tLo b.K (undL w wss R) by rw [rf.worn])) (xv 13 rfl rfl rfl) (cm_neD dat_intsT dat_intsT (shaped_intsT _) (shaped_intsT _))) (by rw [eqv_sh (sh_lo _)]; rfl) ?_
  refine xb_retE (XE.eq (xe_cmp (XE.eq (xe_call hWo (xa_cons (XE.eq (xe_dropL (n := 4) ls_lst (xv 0 rfl rfl rfl) xe_int rfl) (by rw [← List.map_drop])) (xa_cons (xv 5 rfl rfl rfl) (xa_cons (xv 7 rfl rfl rfl) (xa_cons (xv 11 rfl rfl rfl) xa_nil)))) (wsp (ds.drop 4) (by rw [List.length_drop]; omega))) (show _ = tLo b.K (undL w wss R) by rw [rf.worn4])) (xv 13 rfl rfl rfl) (cm_eqD dat_intsT dat_intsT (shaped_intsT _) (shaped_intsT _))) (by rw [eqv_sh (sh_lo _)]))
end Pf

set_option maxHeartbeats 8000000
namespace Pf
open PySem PySem.Spec PyProof.Rows L2 Lg Ra
/-! ### the law itself -/
def wideB (ds : List Int) : Bool := decide (dg ds 257 % 4 = 0)
def mostF (ds : List Int) : Nat := if wideB ds then 3 else 4
abbrev woF (ds : List Int) : Wo := worldF ds (mostF ds)
def moreN (ds : List Int) : Nat := if wideB ds then 7 else (dg ds 252 % 4).toNat
def lds1 (ds : List Int) : List Wts := (woF ds).hv :: (rgI (moreN ds)).map fun k => heavyF (ds.drop (70 + 26 * k.toNat)) (woF ds).L (woF ds).sp
def ldsF (ds : List Int) : List Wts := if decide (dg ds 253 % 5 = 0) && decide ((moreN ds : Int) < 7) then lds1 ds ++ (lds1 ds).take 1 else lds1 ds
def numsF (ds : List Int) : List Int := (rgI (if wideB ds then 1 else 2)).map fun k => 1 + dg ds (254 + k.toNat) % ((2 : Int) ^ (woF ds).n - 1)
theorem most_34 (ds : List Int) : mostF ds = 3 ∨ mostF ds = 4 := by unfold mostF; split <;> simp
theorem wo_n (ds : List Int) : (woF ds).n = manyF ds (mostF ds) := spots_len ds _
theorem wo_ok (ds : List Int) : (woF ds).Ok := by
  obtain ⟨n1, n4⟩ := many_in (ds := ds) (most_34 ds)
  have n4' : manyF ds (mostF ds) ≤ 4 := by rcases most_34 ds with h | h <;> omega
  have e := wo_n ds
  have si := spin_w (ds := ds) n1 n4'
  have hv : HvOk (woF ds).hv := heavy_hv si
  refine ⟨long_ge n1, by omega, by omega, ?_, rise_w n4', fun s hs => ?_, hv⟩
  · rw [e]
    show ((List.range _).map _).length = _
    rw [List.length_map, List.length_range]
  · obtain ⟨k, hk, rfl⟩ := List.mem_map.mp hs
    have hk := List.mem_range.mp hk
    unfold strF
    split
    · exact ⟨Bd.zero.mono (by decide), by decide⟩
    · rename_i h
      exact ⟨raw_bd n4' hv hk, Rat.num_nonneg.mp (by omega)⟩
theorem wo_rise {w : Wo} (o : w.Ok) : w.pk.Rise := by
  have e : (w.sp.zip w.st).map Prod.fst = w.sp := List.map_fst_zip (by have := o.len; unfold Wo.n at this; omega)
  have := o.rise
  rw [← e] at this
  exact this
theorem pk_n {w : Wo} (o : w.Ok) : w.pk.n = w.n := by
  show (w.sp.zip w.st).length = w.sp.length
  rw [List.length_zip]; have := o.len; unfold Wo.n at this; omega
theorem lds1_wt (ds : List Int) : ∀ ws ∈ lds1 ds, (∀ w ∈ ws, WtOk (woF ds).L w) ∧ HvOk ws ∧ ws.length ≤ 5 := fun ws hw => by
  obtain ⟨n1, n4⟩ := many_in (ds := ds) (most_34 ds)
  have n4' : manyF ds (mostF ds) ≤ 4 := by rcases most_34 ds with h | h <;> omega
  have si := spin_w (ds := ds) n1 n4'
  rcases List.mem_cons.mp hw with rfl | hw
  · exact ⟨heavy_wt si, heavy_hv si, heavy_len _ _ _⟩
  · obtain ⟨k, _, rfl⟩ := List.mem_map.mp hw
    exact ⟨heavy_wt si, heavy_hv si, heavy_len _ _ _⟩
theorem lds_sub (ds : List Int) : ∀ ws ∈ ldsF ds, ws ∈ lds1 ds := fun ws hw => by
  unfold ldsF at hw
  split at hw
  · rcases List.mem_append.mp hw with h | h
    · exact h
    · exact List.mem_of_mem_take h
  · exact hw
theorem lds1_len (ds : List Int) : (lds1 ds).length = moreN ds + 1 := by unfold lds1; rw [List.length_cons, List.length_map, rgI_len]
theorem more_in (ds : List Int) : (wideB ds = true → moreN ds = 7) ∧ (wideB ds = false → moreN ds ≤ 3) := by
  have := mod_in (x := dg ds 252) (m := 4) (by decide)
  unfold moreN
  constructor <;> intro h <;> rw [h]
  · rfl
  · show (dg ds 252 % 4).toNat ≤ 3; omega
theorem lds_len (ds : List Int) : (wideB ds = true → (ldsF ds).length = 8) ∧ (wideB ds = false → (ldsF ds).length ≤ 5) ∧ 1 ≤ (ldsF ds).length := by
  obtain ⟨h1, h2⟩ := more_in ds
  have l := lds1_len ds
  unfold ldsF
  split
  · rename_i h
    have h7 : (moreN ds : Int) < 7 := by
      have := (Bool.and_eq_true_iff.mp h).2
      exact of_decide_eq_true this
    rw [List.length_append, List.length_take]
    refine ⟨fun z => ?_, fun z => ?_, by omega⟩
    · have := h1 z; omega
    · have := h2 z; omega
  · refine ⟨fun z => ?_, fun z => ?_, by omega⟩
    · have := h1 z; omega
    · have := h2 z; omega
theorem nums_in (ds : List Int) : ∀ m ∈ numsF ds, 1 ≤ m ∧ m < 2 ^ (woF ds).n := fun m hm => by
  obtain ⟨k, _, rfl⟩ := List.mem_map.mp hm
  have n1 := (wo_ok ds).n1
  have p : (2 : Int) ≤ 2 ^ (woF ds).n := by
    obtain ⟨j, hj⟩ : ∃ j, (woF ds).n = j + 1 := ⟨(woF ds).n - 1, by omega⟩
    rw [hj, Int.pow_succ]
    have : (0 : Int) < 2 ^ j := Int.pow_pos (by decide)
    omega
  have := mod_in (x := dg ds (254 + k.toNat)) (m := (2 : Int) ^ (woF ds).n - 1) (by omega)
  omega
theorem bits_ne : ∀ n, n ≤ 4 → ∀ m : Nat, m < 2 ^ n → 1 ≤ m → bitsF n m ≠ [] := by
  have h : ∀ n, n < 5 → ∀ m : Nat, m < 16 → m < 2 ^ n → 1 ≤ m → bitsF n m ≠ [] := by decide +kernel
  intro n hn m hm h1
  exact h n (by omega) m (Nat.lt_of_lt_of_le hm (Nat.le_trans (Nat.pow_le_pow_right (by decide) hn) (by decide))) hm h1
theorem rin_of (ds : List Int) (hd : 280 ≤ ds.length) {m : Nat} (h1 : 1 ≤ m) (h2 : m < 2 ^ (woF ds).n) : RIn (woF ds) (ldsF ds) (bitsF (woF ds).n m) (ds.drop 258) := by
  have o := wo_ok ds
  have hwt : ∀ ws ∈ ldsF ds, (∀ w ∈ ws, WtOk (woF ds).L w) ∧ HvOk ws ∧ ws.length ≤ 5 := fun ws h => lds1_wt ds ws (lds_sub ds ws h)
  obtain ⟨l1, l2, l3⟩ := lds_len ds
  have n4 := o.n4
  have l8 : (ldsF ds).length ≤ 8 := by
    cases h : wideB ds
    · have := l2 h; omega
    · have := l1 h; omega
  have pn := pk_n o
  refine ⟨o, fun ws h => (hwt ws h).2.1, ⟨wo_pk o, wo_rise o, fun ws h => ⟨(hwt ws h).1, (hwt ws h).2.2⟩, l3, l8, ?_, by rw [pn]; exact bits_lot _ _, bits_ne _ n4 m h2 h1⟩, bits_lot _ _, by rw [List.length_drop]; omega⟩
  rw [pn]
  have : (ldsF ds).length * (woF ds).n ≤ 8 * 4 := Nat.mul_le_mul l8 n4
  omega
def spLaw (K : PySem.W.Frag) : FS := fun W Ts T => ∃ ns : List Int, W = [] ∧ Ts = [tSq K (ns.map tInt)] ∧ T = tBl true
abbrev FLaw (b : Bs) : Prop := FnAt b "law" 1 (spOf 1 (spLaw b.K)) 15
theorem srt_len_le {l : List Int} {n : Nat} (h : ∀ x ∈ l, 0 ≤ x ∧ x < n) : (srt l).length ≤ n := lot_len (n := n) ⟨srt_rise l, fun p hp => h p (srt_mem.mp hp)⟩
theorem xf_law {b : Bs} {C : Addr} (B : Bt b) (hRF : ∀ w wss R ds, RIn w wss R ds → RF w wss R ds) (hCe : FCell b) (hDi : FDigits b) (hW : FWorld b) (hMa : FMade b C) (hHe : FHeavy b) (hR : FRight b C) :
    XF b ["_law_script", "_law_place", "_law_digits_here", "_law_is_wide", "_law_world_here", "_law_plank", "_law_loadings", "_law_more", "_law_many", "_law_number", "_law_some", "_law_k", "_law_one"] 14 (scOf 83) 1 (bodyOf 83) (spLaw b.K) := by
  rintro W Ts T ⟨ns, rfl, rfl, rfl⟩ - Hi0 H0
  have em : ∃ k : Nat, (if (if (ns.length : Int) < 3 then (ns.length : Int) else 3) > 1 then (if (ns.length : Int) < 3 then (ns.length : Int) else 3) else 1) = (k : Int) ∧ k ≤ 3 := by
    refine ⟨(if (if (ns.length : Int) < 3 then (ns.length : Int) else 3) > 1 then (if (ns.length : Int) < 3 then (ns.length : Int) else 3) else 1 : Int).toNat, ?_, ?_⟩ <;> (split <;> split <;> omega)
  obtain ⟨mx, em, mx3⟩ := em
  refine xb_forL (xs := rgI mx) (F := tInt) (js := [1]) (fun m => [tInt m]) (fun i => [some (tSq b.K (ns.map tInt)), none, none, none, none, none, none, none, none, none, none, none, none]) (fun i => [])
    (xl_rg1 B.range (XE.eq (xe_blt B.max (xa_cons xe_int (xa_cons (xe_blt B.min (xa_cons xe_int (xa_cons (xe_blt B.len (xa_cons (xv 0 rfl rfl rfl) xa_nil) (cb_len sq_sq)) xa_nil)) cb_min) xa_nil)) cb_max) (congrArg tInt (by rw [List.length_map]; exact em))) (by omega)) ⟨fun _ _ h => h, trivial⟩ rfl (fun m hm => xg_name 1) (fun i m hi Hi0 H0 => ?_) ?_
  · have il : i < mx := by have := (List.getElem?_eq_some_iff.mp hi).1; rwa [rgI_len] at this
    rw [rgI_at il] at hi
    have e : (i : Int) = m := Option.some.inj hi
    subst e
    refine xb_asg 2 (xe_call hDi (xa_cons (xe_call hCe (xa_cons (xv 0 rfl rfl rfl) (xa_cons (xv 1 rfl rfl rfl) xa_nil)) ⟨ns, i, rfl, by omega, rfl⟩) (xa_cons (xe_int (i := 280)) xa_nil)) ⟨_, 280, rfl, by decide, rfl⟩) ?_
    have hd0 : (digF (cellF ns i) 280).length = 280 := digF_len _ _
    generalize digF (cellF ns i) 280 = ds at hd0
    have hd : 280 ≤ ds.length := by omega
    have o := wo_ok ds
    have n4 := o.n4
    have n1 := o.n1
    have mi := (more_in ds)
    have m7 : moreN ds ≤ 7 := by cases h : wideB ds
                                 · have := mi.2 h; omega
                                 · have := mi.1 h; omega
    have m4 := mod_in (x := dg ds 252) (m := 4) (by decide)
    have si : SpIn (woF ds).L (woF ds).sp := by
      obtain ⟨a1, a2⟩ := many_in (ds := ds) (most_34 ds)
      exact spin_w a1 (by rcases most_34 ds with h | h <;> omega)
    refine xb_asg 3 (T1 := tBl (wideB ds)) (xe_cmp (xe_bin (xe_bty B.int (xa_cons (xe_ix (xv 2 rfl rfl rfl) xe_int (ix_at (n := 257) sq_lst rfl (dg_at (by omega)))) xa_nil) cb_int) xe_int (ok_mod (by decide))) xe_int cm_eq) ?_
    refine xb_asg 4 (T1 := tWo b.K (woF ds)) (xe_call hW (xa_cons (xv 2 rfl rfl rfl) (xa_cons (xe_ix (T := tInt (mostF ds : Nat)) (xe_lstD (Ts := [tInt 4, tInt 3]) (xa_cons xe_int (xa_cons xe_int xa_nil))) (xe_bty B.int (xa_cons (xv 3 rfl rfl rfl) xa_nil) cb_intb) (ix_at (n := if wideB ds then 1 else 0) sq_lst (by cases wideB ds <;> rfl) (by unfold mostF; cases wideB ds <;> rfl))) xa_nil)) ⟨ds, mostF ds, rfl, rfl, hd, most_34 ds, rfl⟩) ?_
    refine xb_asg 5 (xe_call hMa (xa_cons (xv 4 rfl rfl rfl) xa_nil) ⟨woF ds, rfl, o, rfl⟩) ?_
    refine xb_asg 6 (T1 := tLst ([(woF ds).hv].map (tWs b.K))) (xe_lstD (xa_cons (xe_dget (dg_heavy (K := b.K)) (xv 4 rfl rfl rfl) xe_str) xa_nil)) ?_
    refine xb_asg 7 (T1 := tInt (moreN ds : Nat)) (xe_ix (xe_lstD (xa_cons (xe_bin (xe_bty B.int (xa_cons (xe_ix (xv 2 rfl rfl rfl) xe_int (ix_at (n := 252) sq_lst rfl (dg_at (by omega)))) xa_nil) cb_int) xe_int (ok_mod (by decide))) (xa_cons xe_int xa_nil))) (xe_bty B.int (xa_cons (xv 3 rfl rfl rfl) xa_nil) cb_intb) (ix_at (n := if wideB ds then 1 else 0) sq_lst (by cases wideB ds <;> rfl) (by
      unfold moreN
      cases wideB ds
      · show some (tInt (dg ds 252 % 4)) = some (tInt (((dg ds 252 % 4).toNat : Nat) : Int))
        rw [Int.toNat_of_nonneg m4.1]
      · rfl))) ?_
    refine xb_asg 6 (T1 := tLst ((lds1 ds).map (tWs b.K))) (XE.eq (xe_bin (xv 6 rfl rfl rfl) (xe_lcG (F := tWs b.K) (g := fun k : Int => heavyF (ds.drop (70 + 26 * k.toNat)) (woF ds).L (woF ds).sp) (xc (xs := rgI (moreN ds)) (F := tInt) [("_law_k", 11)] [11] (fun k => [tInt k]) (fun _ => true) (fun k => tWs b.K (heavyF (ds.drop (70 + 26 * k.toNat)) (woF ds).L (woF ds).sp)) (xl_rg1 B.range (xv 7 rfl rfl rfl) (by omega)) (fun k hk => xg_name 11) (fun k hk => xts_nil)
      (fun k hk _ => by
        have hk := mem_rg.mp hk
        exact xe_call hHe (xa_cons (XE.eq (xe_dropL (n := 70 + 26 * k.toNat) ls_lst (xv 2 rfl rfl rfl) (xe_bin (xe_int (i := 70)) (xe_bin (xe_int (i := 26)) (xv 11 rfl rfl rfl) (ok_mul (mulW (n := 5) (m := 10) (by decide) (by omega)))) ok_add) (by omega)) (by rw [← List.map_drop])) (xa_cons (xv 4 rfl rfl rfl) xa_nil)) ⟨_, ds.drop (70 + 26 * k.toNat), _, _, rfl, by rw [List.length_drop]; omega, wk_wo, si, rfl⟩) (by rw [rgI_len]; omega))) (ok_catL (by rw [List.length_map, List.length_map, List.length_map, rgI_len]; show 1 + moreN ds ≤ 100000; omega))) (congrArg Lg.tLst (by rw [← List.map_append]; rfl))) ?_
    have ll := lds1_len ds
    refine xb_if (M := SS [] Hi0 H0 [some (tSq b.K (ns.map tInt)), none, some (tLst (ds.map tInt)), some (tBl (wideB ds)), some (tWo b.K (woF ds)), some (tPk b.K C (woF ds).pk), some (tLst ((ldsF ds).map (tWs b.K))), none, none, none, none, none, none] []) (p := decide (dg ds 253 % 5 = 0) && decide ((moreN ds : Int) < 7))
      (xt_w (xw_and (xt_cmp (xe_bin (xe_bty B.int (xa_cons (xe_ix (xv 2 rfl rfl rfl) xe_int (ix_at (n := 253) sq_lst rfl (dg_at (by omega)))) xa_nil) cb_int) xe_int (ok_mod (by decide))) xe_int cm_eq) fun h => (xw_and1 (xt_cmp (xv 7 rfl rfl rfl) xe_int cm_lt)))) (fun h => ?_) (fun h => ?_) ?_
    · have e : ldsF ds = lds1 ds ++ (lds1 ds).take 1 := by unfold ldsF; rw [h]; rfl
      rw [e]
      refine xb_asg 6 (T1 := tLst ((lds1 ds ++ (lds1 ds).take 1).map (tWs b.K))) (XE.eq (xe_bin (xv 6 rfl rfl rfl) (xe_takeL (n := 1) ls_lst (xv 6 rfl rfl rfl) xe_int rfl) (ok_catL (by rw [List.length_take, List.length_map]; omega))) (congrArg Lg.tLst (by rw [List.map_append, List.map_take]))) ?_
      exact xb_end ⟨fun _ _ h => h, fun _ _ h => h, fun _ _ h => h, fun _ _ h => h, fun _ _ h => h, fun _ _ h => h, trivial⟩
    · have e : ldsF ds = lds1 ds := by unfold ldsF; rw [h]; rfl
      rw [e]
      exact xb_end ⟨fun _ _ h => h, fun _ _ h => h, fun _ _ h => h, fun _ _ h => h, fun _ _ h => h, fun _ _ h => h, trivial⟩
    obtain ⟨l1, l2, l3⟩ := lds_len ds
    have l8 : (ldsF ds).length ≤ 8 := by
      cases h : wideB ds
      · have := l2 h; omega
      · have := l1 h; omega
    have p2 : (2 : Int) ≤ 2 ^ (woF ds).n := by
      obtain ⟨j, hj⟩ : ∃ j, (woF ds).n = j + 1 := ⟨(woF ds).n - 1, by omega⟩
      rw [hj, Int.pow_succ]
      have : (0 : Int) < 2 ^ j := Int.pow_pos (by decide)
      omega
    refine xb_asg 8 (T1 := tInt ((woF ds).n : Int)) (XE.eq (xe_blt B.len (xa_cons (xe_dget (dg_spots (K := b.K)) (xv 4 rfl rfl rfl) xe_str) xa_nil) (cb_len sq_lst)) (congrArg tInt (by rw [List.length_map]))) ?_
    refine xb_forL (xs := srt (numsF ds)) (F := tInt) (js := [9]) (fun m => [tInt m]) (fun j => [some (tSq b.K (ns.map tInt)), none, some (tLst (ds.map tInt)), none, some (tWo b.K (woF ds)), some (tPk b.K C (woF ds).pk), some (tLst ((ldsF ds).map (tWs b.K))), none, some (tInt ((woF ds).n : Int)), none, none, none, none]) (fun j => [])
      (xl_list ls_lst (xn_ssl (is := numsF ds) B.sorted B.set ls_lst (xe_lcG (F := tInt) (g := fun k : Int => 1 + dg ds (254 + k.toNat) % ((2 : Int) ^ (woF ds).n - 1)) (xc (xs := rgI (if wideB ds then 1 else 2)) (F := tInt) [("_law_k", 11)] [11] (fun k => [tInt k]) (fun _ => true) (fun k => tInt (1 + dg ds (254 + k.toNat) % ((2 : Int) ^ (woF ds).n - 1)))
        (xl_rg1 B.range (xe_ix (xe_lstD (Ts := [tInt 2, tInt 1]) (xa_cons xe_int (xa_cons xe_int xa_nil))) (xe_bty B.int (xa_cons (xv 3 rfl rfl rfl) xa_nil) cb_intb) (ix_at (n := if wideB ds then 1 else 0) sq_lst (by cases wideB ds <;> rfl) (by cases wideB ds <;> rfl))) (by cases wideB ds <;> decide)) (fun k hk => xg_name 11) (fun k hk => xts_nil)
        (fun k hk _ => by
          have hk := mem_rg.mp hk
          have hk2 : k < 2 := by
            cases h : wideB ds
            · rw [h] at hk; have := hk.2; simp at this; omega
            · rw [h] at hk; have := hk.2; simp at this; omega
          exact xe_bin xe_int (xe_bin (xe_bty B.int (xa_cons (xe_ix (xv 2 rfl rfl rfl) (xe_bin (xe_int (i := 254)) (xv 11 rfl rfl rfl) ok_add) (ix_at (n := 254 + k.toNat) sq_lst (by omega) (dg_at (by omega)))) xa_nil) cb_int) (XE.eq (xe_bin (xe_bin (xe_int (i := 1)) (xv 8 rfl rfl rfl) (ok_shl ⟨by omega, by omega, by decide⟩)) xe_int ok_sub) (congrArg tInt (by rw [Int.one_mul]; rfl))) (ok_mod (by omega))) ok_add) (by rw [rgI_len]; cases wideB ds <;> decide))) (by unfold numsF; rw [List.length_map, rgI_len]; cases wideB ds <;> decide)).xe)
      ⟨fun _ _ h => h, fun _ _ h => h, fun _ _ h => h, fun _ _ h => h, fun _ _ h => h, fun _ _ h => h, trivial⟩ rfl (fun m hm => xg_name 9) (fun j m hj Hi0 H0 => ?_) ?_
    · obtain ⟨c1, c2⟩ := nums_in ds m (srt_mem.mp (List.mem_of_getElem? hj))
      obtain ⟨u, rfl⟩ : ∃ u : Nat, m = (u : Int) := ⟨m.toNat, by omega⟩
      have u1 : 1 ≤ u := by omega
      have u2 : u < 2 ^ (woF ds).n := by
        have : ((2 ^ (woF ds).n : Nat) : Int) = (2 : Int) ^ (woF ds).n := by simp
        omega
      have ri := rin_of ds hd u1 u2
      refine xb_asg 10 (T1 := tLo b.K (bitsF (woF ds).n u)) (xe_bty B.tuple (xa_cons (xe_lcF (xc (xs := rgI (woF ds).n) (F := tInt) [("_law_k", 11)] [11] (fun k => [tInt k]) (fun k => decide ((u : Int) / 2 ^ k.toNat % 2 = 1)) tInt (xl_rg1 B.range (xv 8 rfl rfl rfl) (by omega)) (fun k hk => xg_name 11)
        (fun k hk => xts_one (xt_cmp (xe_bin (xe_bty B.int (xa_cons (xe_bin (xv 9 rfl rfl rfl) (xv 11 rfl rfl rfl) (ok_shr (mem_rg.mp hk).1)) xa_nil) cb_int) xe_int (ok_mod (by decide))) xe_int cm_eq)) (fun k hk _ => xv 11 rfl rfl rfl) (by rw [rgI_len]; omega))) xa_nil) (cb_tuple sq_lst)) ?_
      refine xb_guard (xt_not (xt_val (xe_call hR (xa_cons (XE.eq (xe_dropL (n := 258) ls_lst (xv 2 rfl rfl rfl) xe_int rfl) (by rw [← List.map_drop])) (xa_cons (xv 4 rfl rfl rfl) (xa_cons (xv 5 rfl rfl rfl) (xa_cons (xe_lcM (xc (xs := ldsF ds) (F := tWs b.K) [("_law_one", 12)] [12] (fun ws => [tWs b.K ws]) (fun _ => true) (fun ws => tWs b.K ws) (xl_list ls_lst (xv 6 rfl rfl rfl)) (fun ws hw => xg_name 12) (fun ws hw => xts_nil)
        (fun ws hw _ => xe_bty B.list (xa_cons (xv 12 rfl rfl rfl) xa_nil) (cb_list sq_lst)) (by omega))) (xa_cons (xv 10 rfl rfl rfl) xa_nil))))) ⟨woF ds, ldsF ds, bitsF (woF ds).n u, ds.drop 258, rfl, rfl, ri, hRF _ _ _ _ ri, rfl⟩))) rfl ?_
      exact xb_end ⟨fun _ _ h => h, fun _ _ h => h, fun _ _ h => h, fun _ _ h => h, fun _ _ h => h, fun _ _ h => h, trivial⟩
    · exact xb_end ⟨fun _ _ h => h, trivial⟩
  · exact xb_retE xe_bl
end Pf

set_option maxHeartbeats 4000000
namespace Pf
open PySem PySem.Spec PyProof.Rows L2 Lg Ra
/-! ### the plain law: wider between its rests, a prop bears more -/
structure Wid (k k' : Tr) : Prop where
  l : k'.1 ≤ k.1
  m : k'.2.1 = k.2.1
  r : k.2.2 ≤ k'.2.2
theorem rdiv_le {a b c : Rat} (ha : 0 ≤ a) (hb : 0 < b) (hc : b ≤ c) : a / c ≤ a / b := by
  have hc0 : 0 < c := by grind
  have h0 : a / c * c = a := Rat.div_mul_cancel (by grind)
  have h1 : a / b * b = a := Rat.div_mul_cancel (by grind)
  have h2 : 0 ≤ a / b := by rw [Rat.div_def]; exact Rat.mul_nonneg ha (Rat.le_of_lt (Rat.inv_pos.mpr hb))
  have h3 : a / b * b ≤ a / b * c := Rat.mul_le_mul_of_nonneg_left hc h2
  refine Rat.not_lt.mp fun h => ?_
  have h4 : a / b * c < a / c * c := Rat.mul_lt_mul_of_pos_right h hc0
  grind
theorem cast_le {i j : Int} (h : i ≤ j) : (i : Rat) ≤ j := by exact_mod_cast h
theorem shr_ge0 {a h b : Int} {s : Rat} (h1 : a < h) (h2 : h < b) : 0 ≤ shr a h b s := by
  have p1 : (0 : Rat) < ((h - a : Int) : Rat) := cast_pos (by omega)
  have p2 : (0 : Rat) < ((b - h : Int) : Rat) := cast_pos (by omega)
  unfold shr
  split
  · rename_i c
    rw [Rat.div_def]
    exact Rat.mul_nonneg (by grind) (Rat.le_of_lt (Rat.inv_pos.mpr p1))
  · split
    · rename_i c
      rw [Rat.div_def]
      exact Rat.mul_nonneg (by grind) (Rat.le_of_lt (Rat.inv_pos.mpr p2))
    · exact Rat.le_refl
theorem shr_mono {a a' h b b' : Int} {s : Rat} (h1 : a < h) (h2 : h < b) (ha : a' ≤ a) (hb : b ≤ b') : shr a h b s ≤ shr a' h b' s := by
  have p1 : (0 : Rat) < ((h - a : Int) : Rat) := cast_pos (by omega)
  have p2 : (0 : Rat) < ((b - h : Int) : Rat) := cast_pos (by omega)
  have q1 : (0 : Rat) < ((h - a' : Int) : Rat) := cast_pos (by omega)
  have q2 : (0 : Rat) < ((b' - h : Int) : Rat) := cast_pos (by omega)
  have c1 := cast_le ha
  have c2 := cast_le hb
  have e1 : ((h - a : Int) : Rat) ≤ ((h - a' : Int) : Rat) := cast_le (by omega)
  have e2 : ((b - h : Int) : Rat) ≤ ((b' - h : Int) : Rat) := cast_le (by omega)
  by_cases x1 : (a : Rat) < s ∧ s ≤ h
  · have y1 : (a' : Rat) < s ∧ s ≤ h := ⟨by grind, x1.2⟩
    unfold shr
    rw [if_pos x1, if_pos y1]
    have r := rdiv_le (a := (h : Rat) - s) (by grind) p1 e1
    have i1 : (s - a) / ((h - a : Int) : Rat) = 1 - ((h : Rat) - s) / ((h - a : Int) : Rat) := by
      rw [Rat.intCast_sub] at p1 ⊢
      grind
    have i2 : (s - a') / ((h - a' : Int) : Rat) = 1 - ((h : Rat) - s) / ((h - a' : Int) : Rat) := by
      rw [Rat.intCast_sub] at q1 ⊢
      grind
    rw [i1, i2]
    grind
  · by_cases x2 : (h : Rat) < s ∧ s < b
    · have y2 : (h : Rat) < s ∧ s < b' := ⟨x2.1, by grind⟩
      rw [shr_hi x2.1 x2.2, shr_hi y2.1 y2.2]
      have r := rdiv_le (a := s - (h : Rat)) (by grind) p2 e2
      grind
    · have e : shr a h b s = 0 := by unfold shr; rw [if_neg x1, if_neg x2]
      rw [e]
      exact shr_ge0 (by omega) (by omega)
theorem sumF_le {α : Type} {f g : α → Rat} : ∀ {xs : List α}, (∀ x ∈ xs, f x ≤ g x) → sumF (xs.map f) ≤ sumF (xs.map g) := fun {xs} => by
  refine snoc_ind (P := fun xs => (∀ x ∈ xs, f x ≤ g x) → sumF (xs.map f) ≤ sumF (xs.map g)) (fun _ => Rat.le_refl) (fun xs x ih h => ?_) xs
  rw [List.map_append, List.map_append]
  show sumF (xs.map f ++ [f x]) ≤ sumF (xs.map g ++ [g x])
  rw [sumF_snoc, sumF_snoc]
  have a := ih fun y hy => h y (List.mem_append_left _ hy)
  have b := h x (by simp)
  grind
theorem plc_mono {L : Int} {sp : List Int} (rs : Rise L sp) {i j : Int} (h1 : -1 ≤ i) (h2 : i ≤ j) (h3 : j ≤ sp.length) : plc L sp i ≤ plc L sp j := by
  by_cases e : i = j
  · subst e; exact Int.le_refl _
  · have := rs.lt i j h1 (by omega) h3
    omega
theorem load_mono {L : Int} {sp : List Int} {ws : Wts} {k k' : Tr} (rs : Rise L sp) (t : Tri sp.length k) (t' : Tri sp.length k') (w : Wid k k') (hw : ∀ x ∈ ws, 0 ≤ x.2) : loadOf (shW L sp) ws k ≤ loadOf (shW L sp) ws k' := by
  unfold loadOf
  refine sumF_le fun x hx => Rat.mul_le_mul_of_nonneg_left ?_ (hw x hx)
  unfold shW
  rw [w.m]
  have a1 := t.lo
  have a2 := t.lp
  have a3 := t.pr
  have a4 := t.hi
  have b1 := t'.lo
  have b4 := t'.hi
  have c1 := w.l
  have c2 := w.r
  exact shr_mono (rs.lt _ _ a1 a2 (by omega)) (rs.lt _ _ (by omega) a3 a4) (plc_mono rs b1 c1 (by omega)) (plc_mono rs (by omega) c2 b4)
/-! ### what stands -/
def FMono (n : Nat) (F : Tr → Bool) : Prop := ∀ k k', Tri n k → Tri n k' → Wid k k' → F k = true → F k' = true
def Stand (n : Nat) (F : Tr → Bool) (S : List Int) : Prop := ∀ p ∈ S, F (kOn n S p) = false
theorem lft_sub {S U : List Int} (h : ∀ q ∈ S, q ∈ U) (p : Int) : lft S p ≤ lft U p := by
  obtain ⟨a1, a2, a3⟩ := lft_is S p
  obtain ⟨b1, b2, b3⟩ := lft_is U p
  rcases a1 with z | ⟨z1, z2⟩
  · omega
  · exact b3 _ (h _ z1) z2
theorem rgt_sub {n : Nat} {S U : List Int} (h : ∀ q ∈ S, q ∈ U) (p : Int) : rgt n U p ≤ rgt n S p := by
  obtain ⟨a1, a2, a3⟩ := rgt_is n S p
  obtain ⟨b1, b2, b3⟩ := rgt_is n U p
  rcases a1 with z | ⟨z1, z2⟩
  · omega
  · exact b3 _ (h _ z1) z2
theorem wid_sub {n : Nat} {S U : List Int} (h : ∀ q ∈ S, q ∈ U) (p : Int) : Wid (kOn n U p) (kOn n S p) := ⟨lft_sub h p, rfl, rgt_sub h p⟩
/-- who stands in a less lot stands in a greater one -/
theorem stand_in {n : Nat} {F : Tr → Bool} (hF : FMono n F) {S U : List Int} (lS : Lot n S) (lU : Lot n U) (h : ∀ q ∈ S, q ∈ U) (st : Stand n F S) {p : Int} (hp : p ∈ S) : F (kOn n U p) = false := by
  cases e : F (kOn n U p) with
  | false => rfl
  | true =>
    have := hF _ _ (lU.tri (h p hp)) (lS.tri hp) (wid_sub h p) e
    rw [st p hp] at this
    exact this.symm
theorem bes_any {n : Nat} {F : Tr → Bool} {S : List Int} : (besF n S).any F = false ↔ Stand n F S := by
  unfold besF Stand
  rw [List.any_map, List.any_eq_false]
  exact ⟨fun h p hp => by simpa using h p hp, fun h p hp => by simpa using h p hp⟩
theorem gre_stand_take {n : Nat} {F : Tr → Bool} (hF : FMono n F) (i : Nat) : Stand n F ((List.range i).foldl (stepF n F) []) := by
  induction i with
  | zero => intro p hp; simp at hp
  | succ i ih =>
    rw [List.range_succ, List.foldl_append]
    show Stand n F (stepF n F _ i)
    have lo := gre_take (n := n) (f := F) i
    have lo2 := step_lot (m := i) (f := F) lo
    unfold stepF at lo2 ⊢
    split
    · exact ih
    · rename_i hb
      rw [if_neg hb] at lo2
      have hb := bes_any.mp (by simpa using hb)
      intro p hp
      rcases List.mem_append.mp (srt_mem.mp hp) with h | h
      · exact stand_in hF lo lo2 (fun q hq => srt_mem.mpr (List.mem_append_left _ hq)) ih h
      · exact stand_in hF (bits_lot n i) lo2 (fun q hq => srt_mem.mpr (List.mem_append_right _ hq)) hb h
theorem gre_stand {n : Nat} {F : Tr → Bool} (hF : FMono n F) : Stand n F (greF n F) := gre_stand_take hF _
theorem step_sub {n : Nat} {F : Tr → Bool} {found : List Int} {m : Nat} : ∀ p ∈ found, p ∈ stepF n F found m := fun p hp => by
  unfold stepF
  split
  · exact hp
  · exact srt_mem.mpr (List.mem_append_left _ hp)
theorem gre_has {n : Nat} {F : Tr → Bool} {m : Nat} (hs : Stand n F (bitsF n m)) : ∀ i, m < i → ∀ p ∈ bitsF n m, p ∈ (List.range i).foldl (stepF n F) []
  | 0, h, _, _ => by omega
  | i + 1, h, p, hp => by
    rw [List.range_succ, List.foldl_append]
    show p ∈ stepF n F _ i
    by_cases e : m = i
    · subst e
      unfold stepF
      rw [bes_any.mpr hs]
      exact srt_mem.mpr (List.mem_append_right _ hp)
    · exact step_sub p (gre_has hs i (by omega) p hp)
def bnum (S : List Int) : Nat := (if (0 : Int) ∈ S then 1 else 0) + (if (1 : Int) ∈ S then 2 else 0) + (if (2 : Int) ∈ S then 4 else 0) + (if (3 : Int) ∈ S then 8 else 0)
theorem bits_of {n : Nat} (hn : n ≤ 4) {S : List Int} (h : Lot n S) : bnum S < 2 ^ n ∧ bitsF n (bnum S) = S := by
  have e : S = (rgI n).filter fun k => decide (k ∈ S) := by
    refine rise_eq h.rise ((lot_rg n).filter _).rise fun k => ?_
    rw [List.mem_filter, mem_rg, decide_eq_true_iff]
    exact ⟨fun hk => ⟨h.at_ k hk, hk⟩, fun hk => hk.2⟩
  have no : ∀ k : Int, (n : Int) ≤ k → k ∉ S := fun k hk hm => by have := h.at_ k hm; omega
  have key : bnum S < 2 ^ n ∧ ∀ k ∈ rgI n, decide (((bnum S : Nat) : Int) / 2 ^ k.toNat % 2 = 1) = decide (k ∈ S) := by
    have hc : n = 0 ∨ n = 1 ∨ n = 2 ∨ n = 3 ∨ n = 4 := by omega
    unfold bnum
    rcases hc with rfl | rfl | rfl | rfl | rfl
    · simp only [no 0 (by decide), no 1 (by decide), no 2 (by decide), no 3 (by decide), if_false]
      exact ⟨by decide, fun k hk => by simp [rgI] at hk⟩
    · simp only [no 1 (by decide), no 2 (by decide), no 3 (by decide), if_false]
      by_cases h0 : (0 : Int) ∈ S <;> simp only [h0, if_true, if_false] <;> refine ⟨by decide, fun k hk => ?_⟩ <;>
        (have := mem_rg.mp hk; obtain rfl : k = 0 := by omega) <;> simp [h0]
    · simp only [no 2 (by decide), no 3 (by decide), if_false]
      by_cases h0 : (0 : Int) ∈ S <;> by_cases h1 : (1 : Int) ∈ S <;> simp only [h0, h1, if_true, if_false] <;> refine ⟨by decide, fun k hk => ?_⟩ <;>
        (have := mem_rg.mp hk; rcases (by omega : k = 0 ∨ k = 1) with rfl | rfl) <;> simp [h0, h1]
    · simp only [no 3 (by decide), if_false]
      by_cases h0 : (0 : Int) ∈ S <;> by_cases h1 : (1 : Int) ∈ S <;> by_cases h2 : (2 : Int) ∈ S <;> simp only [h0, h1, h2, if_true, if_false] <;> refine ⟨by decide, fun k hk => ?_⟩ <;>
        (have := mem_rg.mp hk; rcases (by omega : k = 0 ∨ k = 1 ∨ k = 2) with rfl | rfl | rfl) <;> simp [h0, h1, h2]
    · by_cases h0 : (0 : Int) ∈ S <;> by_cases h1 : (1 : Int) ∈ S <;> by_cases h2 : (2 : Int) ∈ S <;> by_cases h3 : (3 : Int) ∈ S <;> simp only [h0, h1, h2, h3, if_true, if_false] <;> refine ⟨by decide, fun k hk => ?_⟩ <;>
        (have := mem_rg.mp hk; rcases (by omega : k = 0 ∨ k = 1 ∨ k = 2 ∨ k = 3) with rfl | rfl | rfl | rfl) <;> simp [h0, h1, h2, h3]
  refine ⟨key.1, ?_⟩
  unfold bitsF
  conv => rhs; rw [e]
  exact List.filter_congr key.2
theorem gre_top {n : Nat} (hn : n ≤ 4) {F : Tr → Bool} {S : List Int} (h : Lot n S) (hs : Stand n F S) : ∀ p ∈ S, p ∈ greF n F := fun p hp => by
  obtain ⟨b1, b2⟩ := bits_of hn h
  exact gre_has (m := bnum S) (by rw [b2]; exact hs) _ b1 p (by rw [b2]; exact hp)
theorem gre_eq {n : Nat} (hn : n ≤ 4) {F : Tr → Bool} (hF : FMono n F) {Z : List Int} (lZ : Lot n Z) (sZ : Stand n F Z) (tZ : ∀ S, Lot n S → Stand n F S → ∀ p ∈ S, p ∈ Z) : Z = greF n F :=
  rise_eq lZ.rise (gre_lot n F).rise fun k => ⟨fun h => gre_top hn lZ sZ k h, fun h => tZ _ (gre_lot n F) (gre_stand hF) k h⟩
end Pf

set_option maxHeartbeats 4000000
namespace Pf
open PySem PySem.Spec PyProof.Rows L2 Lg Ra
/-! ### who goes by turns leaves the greatest lot -/
theorem sub_filt {S lot : List Int} {x : Int} (h : ∀ p ∈ S, p ∈ lot) (hx : x ∉ S) : ∀ p ∈ S, p ∈ lot.filter fun q => !decide (q = x) := fun p hp => by
  refine List.mem_filter.mpr ⟨h p hp, ?_⟩
  have : ¬ p = x := fun z => hx (z ▸ hp)
  simp [this]
theorem settle_top {n : Nat} {F : Tr → Bool} (hF : FMono n F) {W : List Int → List Int} (hW : ∀ lot, W lot = lot.filter fun p => F (kOn n lot p)) : ∀ (m : Nat) {lot : List Int}, Lot n lot → lot.length ≤ m →
    Lot n (settleF W m lot).2 ∧ Stand n F (settleF W m lot).2 ∧ ∀ S, Lot n S → Stand n F S → (∀ p ∈ S, p ∈ lot) → ∀ p ∈ S, p ∈ (settleF W m lot).2
  | 0, lot, lo, hm => by
    have : lot = [] := List.length_eq_zero_iff.mp (by omega)
    subst this
    refine ⟨lo, fun p hp => ?_, fun S _ _ h p hp => h p hp⟩
    cases hp
  | m + 1, lot, lo, hm => by
    unfold settleF
    cases hw : W lot with
    | nil =>
      rw [hW] at hw
      refine ⟨lo, fun p hp => ?_, fun S _ _ h p hp => h p hp⟩
      have := List.filter_eq_nil_iff.mp hw p hp
      simpa using this
    | cons x r =>
      have hx : x ∈ lot.filter fun p => F (kOn n lot p) := by rw [← hW, hw]; exact List.mem_cons_self
      obtain ⟨x1, x2⟩ := List.mem_filter.mp hx
      have l := filter_ne_len (rise_nodup lo.rise) x1
      obtain ⟨i1, i2, i3⟩ := settle_top hF hW m (lo.filter fun q => !decide (q = x)) (by omega)
      refine ⟨i1, i2, fun S lS sS h => i3 S lS sS (sub_filt h fun z => ?_)⟩
      have := stand_in hF lS lo h sS z
      rw [x2] at this
      exact absurd this (by decide)
theorem settle_gre {n : Nat} (hn : n ≤ 4) {F : Tr → Bool} (hF : FMono n F) {W : List Int → List Int} (hW : ∀ lot, W lot = lot.filter fun p => F (kOn n lot p)) : (settle W (rgI n)).2 = greF n F := by
  obtain ⟨a, b, c⟩ := settle_top hF hW (rgI n).length (lot_rg n) (Nat.le_refl _)
  exact gre_eq hn hF a b fun S lS sS => c S lS sS fun p hp => mem_rg.mpr (lS.at_ p hp)
theorem ove_mem {n : Nat} {st : List Rat} {f : Tr → Rat} {lot : List Int} {x : Int} : x ∈ oveF n st f lot ↔ x ∈ lot ∧ stoF st f (kOn n lot x) = true := by
  unfold oveF besF
  constructor
  · intro h
    obtain ⟨k, hk, rfl⟩ := List.mem_map.mp h
    obtain ⟨h1, h2⟩ := List.mem_filter.mp hk
    obtain ⟨p, hp, rfl⟩ := List.mem_map.mp h1
    exact ⟨hp, h2⟩
  · rintro ⟨h1, h2⟩
    exact List.mem_map.mpr ⟨kOn n lot x, List.mem_filter.mpr ⟨List.mem_map.mpr ⟨x, h1, rfl⟩, h2⟩, rfl⟩
theorem ove_nil {n : Nat} {st : List Rat} {f : Tr → Rat} {lot : List Int} : oveF n st f lot = [] ↔ Stand n (stoF st f) lot := by
  constructor
  · intro h p hp
    cases e : stoF st f (kOn n lot p) with
    | false => rfl
    | true =>
      have := ove_mem.mpr ⟨hp, e⟩
      rw [h] at this
      cases this
  · intro h
    cases e : oveF n st f lot with
    | nil => rfl
    | cons x r =>
      have : x ∈ oveF n st f lot := by rw [e]; exact List.mem_cons_self
      obtain ⟨h1, h2⟩ := ove_mem.mp this
      rw [h x h1] at h2
      exact absurd h2 (by decide)
theorem clrF_top {n : Nat} {st : List Rat} {f : Tr → Rat} (hF : FMono n (stoF st f)) : ∀ (m : Nat) {lot : List Int}, Lot n lot → lot.length ≤ m →
    Stand n (stoF st f) (clrF n st f m lot) ∧ (∀ p ∈ clrF n st f m lot, p ∈ lot) ∧ ∀ S, Lot n S → Stand n (stoF st f) S → (∀ p ∈ S, p ∈ lot) → ∀ p ∈ S, p ∈ clrF n st f m lot
  | 0, lot, lo, hm => by
    have : lot = [] := List.length_eq_zero_iff.mp (by omega)
    subst this
    exact ⟨fun p hp => (by cases hp), fun p hp => hp, fun S _ _ h p hp => h p hp⟩
  | m + 1, lot, lo, hm => by
    unfold clrF
    cases hw : (oveF n st f lot).getLast? with
    | none =>
      have hw := List.getLast?_eq_none_iff.mp hw
      exact ⟨ove_nil.mp hw, fun p hp => hp, fun S _ _ h p hp => h p hp⟩
    | some x =>
      obtain ⟨x1, x2⟩ := ove_mem.mp (List.mem_of_getLast? hw)
      have l := filter_ne_len (rise_nodup lo.rise) x1
      obtain ⟨i2, i1, i3⟩ := clrF_top hF m (lo.filter fun q => !decide (q = x)) (by omega)
      refine ⟨i2, fun p hp => (List.mem_filter.mp (i1 p hp)).1, fun S lS sS h => i3 S lS sS (sub_filt h fun z => ?_)⟩
      have := stand_in hF lS lo h sS z
      rw [x2] at this
      exact absurd this (by decide)
theorem clr_top {n : Nat} {st : List Rat} {f : Tr → Rat} (hF : FMono n (stoF st f)) {lot : List Int} (lo : Lot n lot) :
    Stand n (stoF st f) (clr n st f lot) ∧ (∀ p ∈ clr n st f lot, p ∈ lot) ∧ ∀ S, Lot n S → Stand n (stoF st f) S → (∀ p ∈ S, p ∈ lot) → ∀ p ∈ S, p ∈ clr n st f lot := clrF_top hF _ lo (Nat.le_refl _)
/-- all that stands under each -/
def StA (n : Nat) (st : List Rat) (fs : List (Tr → Rat)) (S : List Int) : Prop := ∀ f ∈ fs, Stand n (stoF st f) S
theorem pick_lt {ds left : List Int} (h : 0 < left.length) : pickJ ds left < left.length := by
  have := mod_in (x := dg ds left.length) (m := (left.length : Nat)) (by omega)
  unfold pickJ; omega
theorem lap_all {n : Nat} {st : List Rat} {fs : List (Tr → Rat)} {ds : List Int} (hM : ∀ f ∈ fs, FMono n (stoF st f)) : ∀ (m : Nat) {left lot : List Int}, left.length = m → (∀ x ∈ left, 0 ≤ x ∧ x < fs.length) → Lot n lot →
    (∀ p ∈ lapF n st fs ds m left lot, p ∈ lot) ∧ (∀ S, Lot n S → StA n st fs S → (∀ p ∈ S, p ∈ lot) → ∀ p ∈ S, p ∈ lapF n st fs ds m left lot) ∧ (lapF n st fs ds m left lot = lot → ∀ x ∈ left, Stand n (stoF st (fs.getD x.toNat fun _ => 0)) lot)
  | 0, left, lot, hl, _, lo => by
    have : left = [] := List.length_eq_zero_iff.mp hl
    subst this
    exact ⟨fun p hp => hp, fun S _ _ h p hp => h p hp, fun _ x hx => by cases hx⟩
  | m + 1, left, lot, hl, hin, lo => by
    have jl := pick_lt (ds := ds) (left := left) (by omega)
    have ej : left[pickJ ds left]? = some (left.getD (pickJ ds left) 0) := by rw [List.getD_eq_getElem?_getD, List.getElem?_eq_getElem jl]; rfl
    have hx := hin _ (List.mem_of_getElem? ej)
    have fm : (fs.getD (left.getD (pickJ ds left) 0).toNat fun _ => 0) ∈ fs := by
      rw [List.getD_eq_getElem?_getD (l := fs), List.getElem?_eq_getElem (l := fs) (by omega)]; exact List.getElem_mem _
    unfold lapF
    generalize hx2 : left.getD (pickJ ds left) 0 = x at ej hx fm ⊢
    generalize hg : (fs.getD x.toNat fun _ => 0) = g at fm ⊢
    obtain ⟨c1, c2, c3⟩ := clr_top (hM g fm) lo
    have cl : Lot n (clr n st g lot) := clr_lot lo
    have le : (left.eraseIdx (pickJ ds left)).length = m := by rw [List.length_eraseIdx, if_pos jl]; omega
    obtain ⟨i1, i2, i3⟩ := lap_all hM m (left := left.eraseIdx (pickJ ds left)) (lot := clr n st g lot) le (fun y hy => hin y (List.mem_of_mem_eraseIdx hy)) cl
    refine ⟨fun p hp => c2 p (i1 p hp), fun S lS sS h => i2 S lS sS (c3 S lS (sS g fm) h), fun e => ?_⟩
    have ec : clr n st g lot = lot := rise_eq cl.rise lo.rise fun k => ⟨c2 k, fun h => i1 k (by rw [e]; exact h)⟩
    rw [ec] at i3 c1 e
    have i3 := i3 e
    intro y hy
    obtain ⟨i, il, ei⟩ := List.mem_iff_getElem.mp hy
    by_cases z : i = pickJ ds left
    · subst z
      have : y = x := by
        rw [List.getElem?_eq_getElem il] at ej
        exact ei.symm.trans (Option.some.inj ej)
      rw [this, hg]
      exact c1
    · exact i3 y (List.mem_eraseIdx_iff_getElem.mpr ⟨i, il, z, ei⟩)
theorem lap_keep {n : Nat} {st : List Rat} {fs : List (Tr → Rat)} {ds : List Int} (hM : ∀ f ∈ fs, FMono n (stoF st f)) {lot : List Int} (lo : Lot n lot) (h : StA n st fs lot) : lapO n st fs ds lot = lot := by
  obtain ⟨i1, i2, _⟩ := lap_all (ds := ds) hM fs.length (left := rgI fs.length) (lot := lot) (rgI_len _) (fun x hx => mem_rg.mp hx) lo
  exact rise_eq (lapF_lot _ lo).rise lo.rise fun k => ⟨i1 k, i2 lot lo h (fun p hp => hp) k⟩
theorem lap_or {n : Nat} {st : List Rat} {fs : List (Tr → Rat)} {ds : List Int} (hM : ∀ f ∈ fs, FMono n (stoF st f)) {lot : List Int} (lo : Lot n lot) : StA n st fs lot ∨ (lapO n st fs ds lot).length < lot.length := by
  obtain ⟨i1, i2, i3⟩ := lap_all (ds := ds) hM fs.length (left := rgI fs.length) (lot := lot) (rgI_len _) (fun x hx => mem_rg.mp hx) lo
  have ll : Lot n (lapO n st fs ds lot) := lapF_lot _ lo
  by_cases e : lapO n st fs ds lot = lot
  · refine .inl fun f hf => ?_
    obtain ⟨i, hi, rfl⟩ := List.mem_iff_getElem.mp hf
    have := i3 e (i : Int) (mem_rg.mpr ⟨by omega, by omega⟩)
    rw [List.getD_eq_getElem?_getD, show ((i : Int)).toNat = i from rfl, List.getElem?_eq_getElem hi] at this
    exact this
  · refine .inr ?_
    have nd := rise_nodup ll.rise
    have le : (lapO n st fs ds lot).length ≤ lot.length := nodup_len nd i1
    rcases Nat.lt_or_ge (lapO n st fs ds lot).length lot.length with h | h
    · exact h
    · exfalso
      refine e (rise_eq ll.rise lo.rise fun k => ⟨i1 k, fun hk => ?_⟩)
      by_cases hm : k ∈ lapO n st fs ds lot
      · exact hm
      · have : (k :: lapO n st fs ds lot).length ≤ lot.length := nodup_len (List.nodup_cons.mpr ⟨hm, nd⟩) fun p hp => by
          rcases List.mem_cons.mp hp with rfl | hp
          · exact hk
          · exact i1 p hp
        rw [List.length_cons] at this
        omega
theorem worn_is {n : Nat} {st : List Rat} {fs : List (Tr → Rat)} {ds : List Int} (hM : ∀ f ∈ fs, FMono n (stoF st f)) : StA n st fs (wornF n st fs ds) ∧ ∀ S, Lot n S → StA n st fs S → ∀ p ∈ S, p ∈ wornF n st fs ds := by
  constructor
  · have h : ∀ i, StA n st fs (wornI n st fs ds i) ∨ (wornI n st fs ds i).length + i ≤ n := fun i => by
      induction i with
      | zero => refine .inr ?_; show (rgI n).length + 0 ≤ n; rw [rgI_len]; omega
      | succ i ih =>
        have lo := wornI_lot (n := n) (st := st) (fs := fs) (ds := ds) i
        rcases ih with h | h
        · refine .inl ?_
          show StA n st fs (lapO n st fs ds _)
          rw [lap_keep hM lo h]; exact h
        · rcases lap_or (ds := ds) hM lo with h2 | h2
          · refine .inl ?_
            show StA n st fs (lapO n st fs ds _)
            rw [lap_keep hM lo h2]; exact h2
          · refine .inr ?_
            show (lapO n st fs ds _).length + (i + 1) ≤ n
            omega
    rcases h (n + 1) with h | h
    · exact h
    · omega
  · intro S lS sS
    have h : ∀ i, ∀ p ∈ S, p ∈ wornI n st fs ds i := fun i => by
      induction i with
      | zero => exact fun p hp => mem_rg.mpr (lS.at_ p hp)
      | succ i ih =>
        obtain ⟨_, i2, _⟩ := lap_all (ds := ds) hM fs.length (left := rgI fs.length) (lot := wornI n st fs ds i) (rgI_len _) (fun x hx => mem_rg.mp hx) (wornI_lot i)
        exact i2 S lS sS ih
    exact h (n + 1)
end Pf

set_option maxHeartbeats 4000000
namespace Pf
open PySem PySem.Spec PyProof.Rows L2 Lg Ra
/-! ### the facts -/
theorem num_neg {q : Rat} : q.num < 0 ↔ q < 0 := by
  rw [← Rat.not_le, ← Rat.num_nonneg]; omega
theorem neg_sto (w : Wo) (ws : Wts) (k : Tr) : decide ((spaF w ws k).num < 0) = stoF w.st (lodF w ws) k := by
  unfold stoF
  refine decide_eq_decide.mpr ?_
  rw [num_neg]
  constructor <;> intro h <;> grind
theorem und_eq (w : Wo) (wss : List Wts) (R : List Int) (k : Tr) : undF (wss.map (spaF w)) R k = (!decide (k.2.1 ∈ R) && wss.any fun ws => stoF w.st (lodF w ws) k) := by
  unfold undF
  rw [List.any_map]
  congr 2
  funext ws
  exact neg_sto w ws k
theorem lot_und (w : Wo) (ws : Wts) (R : List Int) : lotF w R ws = undL w [ws] R := by
  unfold lotF undL
  congr 1
  funext k
  unfold kepF undF
  simp
theorem sto_mono {w : Wo} (o : w.Ok) {ws : Wts} (hp : ∀ x ∈ ws, 0 ≤ x.2) (st : List Rat) : FMono w.n (stoF st (lodF w ws)) := fun k k' t t' wd h => by
  have h := of_decide_eq_true h
  refine decide_eq_true ?_
  have := load_mono (ws := ws) o.rise t t' wd hp
  rw [wd.m]
  show _ < lodF w ws k'
  have h : _ < lodF w ws k := h
  unfold lodF at h ⊢
  grind
theorem und_mono {w : Wo} (o : w.Ok) {wss : List Wts} (hp : ∀ ws ∈ wss, ∀ x ∈ ws, 0 ≤ x.2) (R : List Int) : FMono w.n (undF (wss.map (spaF w)) R) := fun k k' t t' wd h => by
  rw [und_eq] at h ⊢
  obtain ⟨h1, h2⟩ := Bool.and_eq_true_iff.mp h
  obtain ⟨ws, hw, h3⟩ := List.any_eq_true.mp h2
  refine Bool.and_eq_true_iff.mpr ⟨by rw [wd.m]; exact h1, List.any_eq_true.mpr ⟨ws, hw, sto_mono o (hp ws hw) w.st k k' t t' wd h3⟩⟩
/-- what stands with R as strong as one likes -/
theorem und_stand {w : Wo} {wss : List Wts} {R S : List Int} : Stand w.n (undF (wss.map (spaF w)) R) S ↔ ∀ p ∈ S, p ∉ R → ∀ ws ∈ wss, lodF w ws (kOn w.n S p) ≤ w.st.getD p.toNat 0 := by
  constructor
  · intro h p hp hr ws hw
    have := h p hp
    rw [und_eq] at this
    rcases Bool.and_eq_false_iff.mp this with z | z
    · have z : (!decide (p ∈ R)) = false := z
      exact absurd (by simpa using z) hr
    · have := List.any_eq_false.mp z ws hw
      have : ¬ _ := fun q => this (decide_eq_true q)
      exact Rat.not_lt.mp this
  · intro h p hp
    rw [und_eq]
    by_cases hr : p ∈ R
    · exact Bool.and_eq_false_iff.mpr (.inl (show (!decide (p ∈ R)) = false by simp [hr]))
    · refine Bool.and_eq_false_iff.mpr (.inr (List.any_eq_false.mpr fun ws hw q => ?_))
      exact Rat.not_lt.mpr (h p hp hr ws hw) (of_decide_eq_true q)
theorem sto_stand {w : Wo} {ws : Wts} {st : List Rat} {S : List Int} : Stand w.n (stoF st (lodF w ws)) S ↔ ∀ p ∈ S, lodF w ws (kOn w.n S p) ≤ st.getD p.toNat 0 := by
  constructor
  · intro h p hp
    exact Rat.not_lt.mp (of_decide_eq_false (h p hp))
  · intro h p hp
    exact decide_eq_false (Rat.not_lt.mpr (h p hp))
theorem pk_str {w : Wo} (o : w.Ok) {p : Int} (h0 : 0 ≤ p) (h1 : p < w.n) : w.pk.str p = w.st.getD p.toNat 0 := by
  have l := o.len
  have l2 : p.toNat < w.sp.length := by have h1 : p < (w.sp.length : Int) := h1; omega
  have l3 : p.toNat < w.st.length := by omega
  have e1 : w.sp[p.toNat]? = some w.sp[p.toNat] := List.getElem?_eq_getElem l2
  have e2 : w.st[p.toNat]? = some w.st[p.toNat] := List.getElem?_eq_getElem (by omega)
  have e : (w.sp.zip w.st)[p.toNat]? = some (w.sp[p.toNat], w.st[p.toNat]) := List.getElem?_zip_eq_some.mpr ⟨e1, e2⟩
  show ((w.sp.zip w.st).getD p.toNat (0, 0)).2 = _
  rw [List.getD_eq_getElem?_getD, List.getD_eq_getElem?_getD, e, e2]; rfl
theorem pk_sh {w : Wo} (o : w.Ok) : w.pk.sh = shW w.L w.sp := by
  have e : (w.sp.zip w.st).map Prod.fst = w.sp := List.map_fst_zip (by have := o.len; unfold Wo.n at this; omega)
  funext k s
  show shr (plc w.L ((w.sp.zip w.st).map Prod.fst) k.1) (plc w.L ((w.sp.zip w.st).map Prod.fst) k.2.1) (plc w.L ((w.sp.zip w.st).map Prod.fst) k.2.2) s = _
  rw [e]; rfl
theorem settleF_congr {W W' : List Int → List Int} {Q : List Int → Prop} (h : ∀ lot, Q lot → W lot = W' lot) (hq : ∀ lot x, Q lot → Q (lot.filter fun q => !decide (q = x))) : ∀ (m : Nat) {lot : List Int}, Q lot → settleF W m lot = settleF W' m lot
  | 0, _, _ => rfl
  | m + 1, lot, q => by
    unfold settleF
    rw [h lot q]
    cases W' lot with
    | nil => rfl
    | cons x r =>
      show (x :: (settleF W m (lot.filter fun q => !decide (q = x))).1, (settleF W m (lot.filter fun q => !decide (q = x))).2) = _
      rw [settleF_congr h hq m (hq lot x q)]
theorem kept_und {w : Wo} (o : w.Ok) {wss : List Wts} (hp : ∀ ws ∈ wss, ∀ x ∈ ws, 0 ≤ x.2) (R : List Int) : (keptW w.pk wss R).2 = undL w wss R := by
  have pn := pk_n o
  unfold keptW
  rw [pn]
  have e : settle (weakW w.pk wss R) (rgI w.n) = settle (fun lot => lot.filter fun p => undF (wss.map (spaF w)) R (kOn w.n lot p)) (rgI w.n) := by
    refine settleF_congr (Q := Lot w.n) (fun lot lo => ?_) (fun lot x lo => lo.filter _) _ (lot_rg _)
    unfold weakW
    refine List.filter_congr fun p hp => ?_
    have := lo.at_ p hp
    rw [und_eq]
    congr 2
    funext ws
    unfold overW stoF
    rw [pk_str o this.1 this.2, pk_sh o, pn]
    rfl
  rw [e]
  exact settle_gre o.n4 (und_mono o hp R) fun lot => rfl
/-! the greatest of some -/
theorem bst_ge (vs : List Rat) : vs ≠ [] → ∀ v ∈ vs, v ≤ (bst vs).1 := by
  refine snoc_ind (P := fun vs => vs ≠ [] → ∀ v ∈ vs, v ≤ (bst vs).1) (fun h => (h rfl).elim) (fun xs x ih _ v hv => ?_) vs
  cases xs with
  | nil =>
    have : v = x := by simpa using hv
    subst this
    exact Rat.le_refl
  | cons y ys =>
    rw [bst_snoc (by simp)]
    rcases List.mem_append.mp hv with h | h
    · have := ih (by simp) v h
      split
      · rename_i c; show v ≤ x; grind
      · exact this
    · have : v = x := by simpa using h
      subst this
      split
      · exact Rat.le_refl
      · rename_i c; exact Rat.not_lt.mp c
theorem bst_at (vs : List Rat) : vs ≠ [] → vs[(bst vs).2]? = some (bst vs).1 := by
  refine snoc_ind (P := fun vs => vs ≠ [] → vs[(bst vs).2]? = some (bst vs).1) (fun h => (h rfl).elim) (fun xs x ih _ => ?_) vs
  cases xs with
  | nil => rfl
  | cons y ys =>
    rw [bst_snoc (by simp)]
    split
    · show ((y :: ys) ++ [x])[(y :: ys).length]? = some x
      simp
    · have h := ih (by simp)
      have l := (List.getElem?_eq_some_iff.mp h).1
      rw [List.getElem?_append_left l]; exact h
/-! strengths set -/
theorem fold_get {g : Ans → Rat} : ∀ (as : List Ans) (st : List Rat) {r : Int}, 0 ≤ r → (∀ a ∈ as, 0 ≤ a.1 ∧ a.1 ≠ r) → (as.foldl (fun s a => s.set a.1.toNat (g a)) st).getD r.toNat 0 = st.getD r.toNat 0
  | [], _, _, _, _ => rfl
  | a :: as, st, r, h0, h => by
    rw [List.foldl_cons, fold_get as _ h0 fun b hb => h b (List.mem_cons_of_mem _ hb)]
    have := h a List.mem_cons_self
    rw [List.getD_eq_getElem?_getD, List.getD_eq_getElem?_getD, List.getElem?_set_ne (by omega)]
theorem with_get {w : Wo} {R : List Int} {g : Int → Ans} (hg : ∀ p, (g p).1 = p) (lR : Lot w.n R) {p r : Int} {q : Rat} (hp : p ∈ R) (h0 : 0 ≤ r) (hr : r ∉ R) : (withF w.st (R.map g) p q).getD r.toNat 0 = w.st.getD r.toNat 0 := by
  unfold withF
  have pr := lR.at_ p hp
  have ne : p ≠ r := fun z => hr (z ▸ hp)
  rw [List.getD_eq_getElem?_getD, List.getElem?_set_ne (by omega), ← List.getD_eq_getElem?_getD]
  refine fold_get (g := fun _ => bigR) _ _ h0 fun a ha => ?_
  obtain ⟨s, hs, rfl⟩ := List.mem_map.mp ha
  rw [hg]
  exact ⟨(lR.at_ s hs).1, fun z => hr (z ▸ hs)⟩
theorem with_self {w : Wo} {as : List Ans} {p : Int} {q : Rat} (h : p.toNat < w.st.length) : (withF w.st as p q).getD p.toNat 0 = q := by
  rw [List.getD_eq_getElem?_getD, withF_at h]; rfl
theorem setA_out {st : List Rat} {R : List Int} {g : Int → Ans} (hg : ∀ p, (g p).1 = p) {n : Nat} (lR : Lot n R) {r : Int} (h0 : 0 ≤ r) (hr : r ∉ R) : (setA st (R.map g)).getD r.toNat 0 = st.getD r.toNat 0 :=
  fold_get (g := fun a => a.2.1) _ _ h0 fun a ha => by
    obtain ⟨s, hs, rfl⟩ := List.mem_map.mp ha
    rw [hg]
    exact ⟨(lR.at_ s hs).1, fun z => hr (z ▸ hs)⟩
theorem setA_in {g : Int → Ans} (hg : ∀ p, (g p).1 = p) {n : Nat} : ∀ {R : List Int} {st : List Rat}, Lot n R → st.length = n → ∀ {r : Int}, r ∈ R → (setA st (R.map g)).getD r.toNat 0 = (g r).2.1
  | x :: R, st, lR, hl, r, hr => by
    obtain ⟨h1, h2⟩ := List.pairwise_cons.mp lR.rise
    have lR' : Lot n R := ⟨h2, fun p hp => lR.at_ p (List.mem_cons_of_mem _ hp)⟩
    show (setA (st.set (g x).1.toNat (g x).2.1) (R.map g)).getD r.toNat 0 = _
    by_cases h : r ∈ R
    · exact setA_in hg lR' (by rw [List.length_set]; exact hl) h
    · have e : r = x := (List.mem_cons.mp hr).resolve_right h
      subst e
      have rr := lR.at_ r hr
      rw [setA_out hg lR' rr.1 h, hg, List.getD_eq_getElem?_getD, List.getElem?_set_self (by omega)]
      rfl
end Pf

set_option maxHeartbeats 4000000
namespace Pf
open PySem PySem.Spec PyProof.Rows L2 Lg Ra
theorem milli_pos : 0 < milli := by decide +kernel
/-- the facts hold -/
theorem rf_of (w : Wo) (wss : List Wts) (R ds : List Int) (ri : RIn w wss R ds) : RF w wss R ds := by
  have o := ri.ok
  have n4 := o.n4
  have lR := ri.lot
  have ne : wss ≠ [] := by intro z; have := ri.ld.one; rw [z] at this; simp at this
  have hp : ∀ ws ∈ wss, ∀ x ∈ ws, 0 ≤ x.2 := fun ws hw x hx => Rat.le_of_lt ((ri.ld.wt ws hw).1 x hx).pos
  have hp1 : ∀ ws ∈ wss, ∀ v ∈ [ws], ∀ x ∈ v, 0 ≤ x.2 := fun ws hw v hv x hx => by rw [List.mem_singleton.mp hv] at hx; exact hp ws hw x hx
  have stl := o.len
  have pn := pk_n o
  have psh := pk_sh o
  have uL : ∀ ws, Lot w.n (undL w ws R) := fun ws => gre_lot _ _
  have uS : ∀ vs : List Wts, (∀ ws ∈ vs, ∀ x ∈ ws, 0 ≤ x.2) → ∀ p ∈ undL w vs R, p ∉ R → ∀ ws ∈ vs, lodF w ws (kOn w.n (undL w vs R) p) ≤ w.st.getD p.toNat 0 := fun vs hv => und_stand.mp (gre_stand (und_mono o hv R))
  have uT : ∀ vs S, Lot w.n S → (∀ p ∈ S, p ∉ R → ∀ ws ∈ vs, lodF w ws (kOn w.n S p) ≤ w.st.getD p.toNat 0) → ∀ p ∈ S, p ∈ undL w vs R := fun vs S lS h => gre_top n4 lS (und_stand.mpr h)
  have rin : ∀ vs, ∀ p ∈ R, p ∈ undL w vs R := fun vs => uT vs R lR fun p hp hn => absurd hp hn
  have lotE : ∀ ws, lotF w R ws = undL w [ws] R := fun ws => lot_und w ws R
  -- wider: a load in a less lot is more
  have lm : ∀ ws ∈ wss, ∀ S U : List Int, Lot w.n S → Lot w.n U → (∀ q ∈ S, q ∈ U) → ∀ p ∈ S, lodF w ws (kOn w.n U p) ≤ lodF w ws (kOn w.n S p) := fun ws hw S U lS lU h p hS => load_mono o.rise (lU.tri (h p hS)) (lS.tri hS) (wid_sub h p) (hp ws hw)
  have dne : ∀ f : Wts → Rat, wss.map f ≠ [] := fun f => by simpa using ne
  have at_ : ∀ (f : Wts → Rat), (bst (wss.map f)).2 < wss.length ∧ f (wss.getD (bst (wss.map f)).2 []) = (bst (wss.map f)).1 ∧ wss.getD (bst (wss.map f)).2 [] ∈ wss := fun f => by
    have h := bst_at _ (dne f)
    have l := bst_which _ (dne f)
    rw [List.length_map] at l
    have e : wss[(bst (wss.map f)).2]? = some (wss.getD (bst (wss.map f)).2 []) := by rw [List.getD_eq_getElem?_getD, List.getElem?_eq_getElem l]; rfl
    rw [List.getElem?_map, e] at h
    exact ⟨l, Option.some.inj h, List.mem_of_getElem? e⟩
  have hS : ∀ st, ∀ f ∈ wss.map (lodF w), FMono w.n (stoF st f) := fun st f hf => by
    obtain ⟨ws, hw, rfl⟩ := List.mem_map.mp hf
    exact sto_mono o (hp ws hw) st
  have stA : ∀ st S, StA w.n st (wss.map (lodF w)) S ↔ ∀ ws ∈ wss, ∀ p ∈ S, lodF w ws (kOn w.n S p) ≤ st.getD p.toNat 0 := fun st S => by
    constructor
    · intro h ws hw; exact sto_stand.mp (h _ (List.mem_map.mpr ⟨ws, hw, rfl⟩))
    · intro h f hf
      obtain ⟨ws, hw, rfl⟩ := List.mem_map.mp hf
      exact sto_stand.mpr (h ws hw)
  have dg1 : ∀ p, (dueF w wss R p).1 = p := fun _ => rfl
  have rg1 : ∀ p, (rowF w wss R p).1 = p := fun _ => rfl
  have r0 : ∀ S, Lot w.n S → ∀ p ∈ S, 0 ≤ p ∧ p.toNat < w.st.length := fun S lS p hp => by have := lS.at_ p hp; omega
  -- the strengths in the end
  have aIn : ∀ p ∈ R, (aftS w wss R).getD p.toNat 0 = (dueF w wss R p).2.1 := fun p hp => setA_in dg1 lR stl hp
  have aOut : ∀ p, 0 ≤ p → p ∉ R → (aftS w wss R).getD p.toNat 0 = w.st.getD p.toNat 0 := fun p h0 hr => setA_out dg1 lR h0 hr
  have eIn : ∀ p ∈ R, (endS w wss R).getD p.toNat 0 = (rowF w wss R p).2.1 := fun p hp => setA_in rg1 lR (by rw [setA_len]; exact stl) hp
  have eOut : ∀ p, 0 ≤ p → p ∉ R → (endS w wss R).getD p.toNat 0 = w.st.getD p.toNat 0 := fun p h0 hr => (setA_out rg1 lR h0 hr).trans (aOut p h0 hr)
  have wornE : ∀ d, wornF w.n (endS w wss R) (wss.map (lodF w)) d = undL w wss R := fun d => by
    obtain ⟨z1, z2⟩ := worn_is (n := w.n) (ds := d) (hS (endS w wss R))
    have lZ : Lot w.n (wornF w.n (endS w wss R) (wss.map (lodF w)) d) := wornI_lot _
    have z1 := (stA _ _).mp z1
    refine rise_eq lZ.rise (uL wss).rise fun k => ⟨fun h => ?_, fun h => ?_⟩
    · refine uT wss _ lZ (fun p hp hr ws hw => ?_) k h
      rw [← eOut p (lZ.at_ p hp).1 hr]
      exact z1 ws hw p hp
    · refine z2 _ (uL wss) ((stA _ _).mpr fun ws hw p hp' => ?_) k h
      by_cases hr : p ∈ R
      · rw [eIn p hr]
        exact bst_ge _ (dne _) _ (List.mem_map.mpr ⟨ws, hw, rfl⟩)
      · rw [eOut p ((uL wss).at_ p hp').1 hr]
        exact uS wss hp p hp' hr ws hw
  refine ⟨?_, ?_, ?_, ?_, rin wss, ?_, kept_und o hp R, ?_, ?_, wornE _, wornE _⟩
  · -- fair
    refine List.map_congr_left fun p hpR => ?_
    unfold fairA fairV dueF
    congr 2
    refine List.map_congr_left fun ws hw => ?_
    rw [kept_und o (hp1 ws hw) R, lotE, pn, psh]
  · -- kept
    intro ws hw p hpR
    rw [lotE]; exact rin _ p hpR
  · -- less
    intro p hpR _ hG
    obtain ⟨a1, a2, a3⟩ := at_ fun ws => lodF w ws (kOn w.n (lotF w R ws) p)
    generalize hq : (dueF w wss R p).2.1 - milli = q at hG
    have hdue : (dueF w wss R p).2.1 = lodF w (wss.getD (dueF w wss R p).2.2 []) (kOn w.n (lotF w R (wss.getD (dueF w wss R p).2.2 [])) p) := a2.symm
    have a3 : wss.getD (dueF w wss R p).2.2 [] ∈ wss := a3
    generalize wss.getD (dueF w wss R p).2.2 [] = ws at hdue a3 hG
    have lG : Lot w.n (greF w.n (stoF (withF w.st (dues w wss R) p q) (lodF w ws))) := gre_lot _ _
    have sG := sto_stand.mp (gre_stand (sto_mono o (hp ws a3) (withF w.st (dues w wss R) p q)))
    generalize greF w.n (stoF (withF w.st (dues w wss R) p q) (lodF w ws)) = S at lG sG hG
    have sub : ∀ r ∈ S, r ∈ undL w [ws] R := uT [ws] S lG fun r hr hn v hv => by
      rw [List.mem_singleton.mp hv, ← with_get dg1 lR hpR (lG.at_ r hr).1 hn (q := q)]
      exact sG r hr
    have m := lm ws a3 S _ lG (uL [ws]) sub p hG
    have s := sG p hG
    rw [with_self (r0 S lG p hG).2] at s
    rw [lotE] at hdue
    have mp := milli_pos
    grind
  · -- stand
    intro ws hw p hpR
    refine gre_top n4 (S := undL w [ws] R) (uL _) (sto_stand.mpr fun r hr => ?_) p (rin _ p hpR)
    by_cases hn : r ∈ R
    · rw [aIn r hn, ← lotE]
      exact bst_ge _ (dne _) _ (List.mem_map.mpr ⟨ws, hw, rfl⟩)
    · rw [aOut r ((uL [ws]).at_ r hr).1 hn]
      exact uS [ws] (hp1 ws hw) r hr hn ws (List.mem_singleton.mpr rfl)
  · -- steady
    refine List.map_congr_left fun p hpR => ?_
    unfold steadyA valsW rowF
    rw [kept_und o hp R, pn, psh]
  · -- above
    intro p hpR
    obtain ⟨a1, a2, a3⟩ := at_ fun ws => lodF w ws (kOn w.n (lotF w R ws) p)
    have hdue : (dueF w wss R p).2.1 = lodF w (wss.getD (dueF w wss R p).2.2 []) (kOn w.n (lotF w R (wss.getD (dueF w wss R p).2.2 [])) p) := a2.symm
    have a3 : wss.getD (dueF w wss R p).2.2 [] ∈ wss := a3
    generalize wss.getD (dueF w wss R p).2.2 [] = ws at hdue a3
    have sub : ∀ r ∈ undL w wss R, r ∈ undL w [ws] R := uT [ws] _ (uL wss) fun r hr hn v hv => by
      rw [List.mem_singleton.mp hv]
      exact uS wss hp r hr hn ws a3
    have m := lm ws a3 _ _ (uL wss) (uL [ws]) sub p (rin wss p hpR)
    have g : lodF w ws (kOn w.n (undL w wss R) p) ≤ (rowF w wss R p).2.1 := bst_ge _ (dne _) _ (List.mem_map.mpr ⟨ws, a3, rfl⟩)
    rw [lotE] at hdue
    rw [hdue]
    exact Rat.not_lt.mpr (Rat.le_trans m g)
  · -- less2
    intro p hpR _ hG
    obtain ⟨a1, a2, a3⟩ := at_ fun ws => lodF w ws (kOn w.n (undL w wss R) p)
    generalize hq : (rowF w wss R p).2.1 - milli = q at hG
    have hrow : (rowF w wss R p).2.1 = lodF w (wss.getD (rowF w wss R p).2.2 []) (kOn w.n (undL w wss R) p) := a2.symm
    have a3 : wss.getD (rowF w wss R p).2.2 [] ∈ wss := a3
    generalize wss.getD (rowF w wss R p).2.2 [] = ws at hrow a3
    have lG : Lot w.n (wornF w.n (withF w.st (rows w wss R) p q) (wss.map (lodF w)) ds) := wornI_lot _
    have sG := (stA _ _).mp (worn_is (n := w.n) (ds := ds) (hS (withF w.st (rows w wss R) p q))).1
    generalize wornF w.n (withF w.st (rows w wss R) p q) (wss.map (lodF w)) ds = S at lG sG hG
    have sub : ∀ r ∈ S, r ∈ undL w wss R := uT wss S lG fun r hr hn v hv => by
      rw [← with_get rg1 lR hpR (lG.at_ r hr).1 hn (q := q)]
      exact sG v hv r hr
    have m := lm ws a3 S _ lG (uL wss) sub p hG
    have s := sG ws a3 p hG
    rw [with_self (r0 S lG p hG).2] at s
    have mp := milli_pos
    grind
end Pf

set_option maxHeartbeats 0
namespace Hd
open PySem PySem.Spec PyProof.Rows L2 Lg Pf
def fn0 : List He.DefD := [⟨("is_whole", none), "is_whole", "is_whole", defArgs (top 10), bodyOf 10, scOf 10, [], []⟩,
  ⟨("divisor", none), "divisor", "divisor", defArgs (top 11), bodyOf 11, scOf 11, [], []⟩,
  ⟨("cut", none), "cut", "cut", defArgs (top 12), bodyOf 12, scOf 12, [], []⟩,
  ⟨("is_fraction", none), "is_fraction", "is_fraction", defArgs (top 13), bodyOf 13, scOf 13, [], []⟩,
  ⟨("whole", none), "whole", "whole", defArgs (top 14), bodyOf 14, scOf 14, [], []⟩,
  ⟨("plus", none), "plus", "plus", defArgs (top 15), bodyOf 15, scOf 15, [], []⟩,
  ⟨("less", none), "less", "less", defArgs (top 16), bodyOf 16, scOf 16, [], []⟩,
  ⟨("times", none), "times", "times", defArgs (top 17), bodyOf 17, scOf 17, [], []⟩,
  ⟨("over", none), "over", "over", defArgs (top 18), bodyOf 18, scOf 18, [], []⟩,
  ⟨("is_below", none), "is_below", "is_below", defArgs (top 19), bodyOf 19, scOf 19, [], []⟩,
  ⟨("sum_of", none), "sum_of", "sum_of", defArgs (top 20), bodyOf 20, scOf 20, [], []⟩,
  ⟨("is_measure", none), "is_measure", "is_measure", defArgs (top 25), bodyOf 25, scOf 25, [], []⟩,
  ⟨("is_prop", none), "is_prop", "is_prop", defArgs (top 26), bodyOf 26, scOf 26, [], []⟩,
  ⟨("are_props", none), "are_props", "are_props", defArgs (top 27), bodyOf 27, scOf 27, [], []⟩,
  ⟨("Plank", some "__init__"), "__init__", "Plank.__init__", defArgs (inClass (top 28) 0), mBody 28 0, mSc 28 0, [], [("bend", .non)]⟩,
  ⟨("Plank", some "length"), "length", "Plank.length", defArgs (inClass (top 28) 2), mBody 28 2, mSc 28 2, [], []⟩,
  ⟨("Plank", some "count"), "count", "Plank.count", defArgs (inClass (top 28) 5), mBody 28 5, mSc 28 5, [], []⟩,
  ⟨("Plank", some "place_of"), "place_of", "Plank.place_of", defArgs (inClass (top 28) 6), mBody 28 6, mSc 28 6, [], []⟩,
  ⟨("is_lot", none), "is_lot", "is_lot", defArgs (top 29), bodyOf 29, scOf 29, [], []⟩,
  ⟨("lot_of", none), "lot_of", "lot_of", defArgs (top 30), bodyOf 30, scOf 30, [], []⟩,
  ⟨("rests_of", none), "rests_of", "rests_of", defArgs (top 31), bodyOf 31, scOf 31, [], []⟩,
  ⟨("is_spot", none), "is_spot", "is_spot", defArgs (top 33), bodyOf 33, scOf 33, [], []⟩,
  ⟨("is_weight", none), "is_weight", "is_weight", defArgs (top 34), bodyOf 34, scOf 34, [], []⟩,
  ⟨("slope", none), "slope", "slope", defArgs (top 35), bodyOf 35, scOf 35, [], []⟩,
  ⟨("Loads", some "__init__"), "__init__", "Loads.__init__", defArgs (inClass (top 36) 0), mBody 36 0, mSc 36 0, [], []⟩,
  ⟨("Loads", some "share"), "share", "Loads.share", defArgs (inClass (top 36) 1), mBody 36 1, mSc 36 1, [], []⟩,
  ⟨("Loads", some "lies_on"), "lies_on", "Loads.lies_on", defArgs (inClass (top 36) 2), mBody 36 2, mSc 36 2, [], []⟩,
  ⟨("Loads", some "is_overlaid"), "is_overlaid", "Loads.is_overlaid", defArgs (inClass (top 36) 3), mBody 36 3, mSc 36 3, [], []⟩,
  ⟨("overlaid_between", none), "overlaid_between", "overlaid_between", defArgs (top 38), bodyOf 38, scOf 38, [], []⟩,
  ⟨("without", none), "without", "without", defArgs (top 39), bodyOf 39, scOf 39, [], []⟩]
def fn1 : List He.DefD := [⟨("overlaid", none), "overlaid", "overlaid", defArgs (top 40), bodyOf 40, scOf 40, [], []⟩,
  ⟨("with_sides", none), "with_sides", "with_sides", defArgs (top 42), bodyOf 42, scOf 42, [], []⟩,
  ⟨("weak_ones", none), "weak_ones", "weak_ones", defArgs (top 45), bodyOf 45, scOf 45, [], []⟩,
  ⟨("settled_but", none), "settled_but", "settled_but", defArgs (top 46), bodyOf 46, scOf 46, [], []⟩,
  ⟨("load_in", none), "load_in", "load_in", defArgs (top 47), bodyOf 47, scOf 47, [], []⟩,
  ⟨("check_some", none), "check_some", "check_some", defArgs (top 48), bodyOf 48, scOf 48, [], []⟩,
  ⟨("corner_of", none), "corner_of", "corner_of", defArgs (top 49), bodyOf 49, scOf 49, [], []⟩,
  ⟨("are_weights", none), "are_weights", "are_weights", defArgs (top 50), bodyOf 50, scOf 50, [], []⟩,
  ⟨("loadings_of", none), "loadings_of", "loadings_of", defArgs (top 51), bodyOf 51, scOf 51, [], []⟩,
  ⟨("fair", none), "fair", "fair", defArgs (top 52), bodyOf 52, scOf 52, [], []⟩,
  ⟨("steady", none), "steady", "steady", defArgs (top 53), bodyOf 53, scOf 53, [], []⟩,
  ⟨("_law_cell", none), "_law_cell", "_law_cell", defArgs (top 55), bodyOf 55, scOf 55, [], []⟩,
  ⟨("_law_digits", none), "_law_digits", "_law_digits", defArgs (top 56), bodyOf 56, scOf 56, [], []⟩,
  ⟨("_law_cut", none), "_law_cut", "_law_cut", defArgs (top 57), bodyOf 57, scOf 57, [], []⟩,
  ⟨("_law_plus", none), "_law_plus", "_law_plus", defArgs (top 58), bodyOf 58, scOf 58, [], []⟩,
  ⟨("_law_minus", none), "_law_minus", "_law_minus", defArgs (top 59), bodyOf 59, scOf 59, [], []⟩,
  ⟨("_law_by", none), "_law_by", "_law_by", defArgs (top 60), bodyOf 60, scOf 60, [], []⟩,
  ⟨("_law_is_below", none), "_law_is_below", "_law_is_below", defArgs (top 62), bodyOf 62, scOf 62, [], []⟩,
  ⟨("_law_share", none), "_law_share", "_law_share", defArgs (top 63), bodyOf 63, scOf 63, [], []⟩,
  ⟨("_law_load", none), "_law_load", "_law_load", defArgs (top 64), bodyOf 64, scOf 64, [], []⟩,
  ⟨("_law_keys", none), "_law_keys", "_law_keys", defArgs (top 65), bodyOf 65, scOf 65, [], []⟩,
  ⟨("_law_heavy", none), "_law_heavy", "_law_heavy", defArgs (top 66), bodyOf 66, scOf 66, [], []⟩,
  ⟨("_law_world", none), "_law_world", "_law_world", defArgs (top 67), bodyOf 67, scOf 67, [], []⟩,
  ⟨("_law_made", none), "_law_made", "_law_made", defArgs (top 68), bodyOf 68, scOf 68, [], []⟩,
  ⟨("_law_spares", none), "_law_spares", "_law_spares", defArgs (top 69), bodyOf 69, scOf 69, [], []⟩,
  ⟨("_law_greatest", none), "_law_greatest", "_law_greatest", defArgs (top 70), bodyOf 70, scOf 70, [], []⟩,
  ⟨("_law_beside", none), "_law_beside", "_law_beside", defArgs (top 71), bodyOf 71, scOf 71, [], []⟩,
  ⟨("_law_kept", none), "_law_kept", "_law_kept", defArgs (top 72), bodyOf 72, scOf 72, [], []⟩,
  ⟨("_law_on", none), "_law_on", "_law_on", defArgs (top 73), bodyOf 73, scOf 73, [], []⟩,
  ⟨("_law_lying", none), "_law_lying", "_law_lying", defArgs (top 74), bodyOf 74, scOf 74, [], []⟩]
def fn2 : List He.DefD := [⟨("_law_stood", none), "_law_stood", "_law_stood", defArgs (top 75), bodyOf 75, scOf 75, [], []⟩,
  ⟨("_law_tables", none), "_law_tables", "_law_tables", defArgs (top 76), bodyOf 76, scOf 76, [], []⟩,
  ⟨("_law_under_all", none), "_law_under_all", "_law_under_all", defArgs (top 77), bodyOf 77, scOf 77, [], []⟩,
  ⟨("_law_asked", none), "_law_asked", "_law_asked", defArgs (top 78), bodyOf 78, scOf 78, [], []⟩,
  ⟨("_law_over", none), "_law_over", "_law_over", defArgs (top 79), bodyOf 79, scOf 79, [], []⟩,
  ⟨("_law_worn", none), "_law_worn", "_law_worn", defArgs (top 80), bodyOf 80, scOf 80, [], []⟩,
  ⟨("_law_with", none), "_law_with", "_law_with", defArgs (top 81), bodyOf 81, scOf 81, [], []⟩,
  ⟨("_law_right", none), "_law_right", "_law_right", defArgs (top 82), bodyOf 82, scOf 82, [], []⟩,
  ⟨("law", none), "law", "law", defArgs (top 83), bodyOf 83, scOf 83, [], []⟩]
def fa0 : List He.Fa := [.free "abs", .free "all", .free "any", .free "dict", .free "enumerate", .free "int", .free "bool", .free "isinstance", .free "len", .free "list", .free "max", .free "min", .free "range", .free "set", .free "sorted", .free "sum", .free "tuple", .free "zip", .int "LEFT_WALL" (-1), .int "MOST_LENGTH" 1000, .int "MOST_PROPS" 12, .int "MOST_LOADINGS" 8, .glo "NOUGHT", .glo "ONE", .cls "Plank", .cls "Loads", .mkr "Plank", .mkr "Loads", .noat "Plank" "long", .noat "Plank" "stakes"]
def fa1 : List He.Fa := [.noat "Plank" "limit", .noat "Loads" "plank", .noat "Loads" "weights", .noat "Loads" "known", .noat "Loads" "over", .meth "Plank" "length", .meth "Plank" "count", .meth "Plank" "place_of", .meth "Loads" "share", .meth "Loads" "lies_on", .meth "Loads" "is_overlaid", .glo "is_whole", .glo "divisor", .glo "cut", .glo "is_fraction", .glo "whole", .glo "plus", .glo "less", .glo "times", .glo "over", .glo "is_below", .glo "sum_of", .glo "is_measure", .glo "is_prop", .glo "are_props", .glo "is_lot", .glo "lot_of", .glo "rests_of", .glo "is_spot", .glo "is_weight"]
def fa2 : List He.Fa := [.glo "slope", .glo "overlaid_between", .glo "without", .glo "overlaid", .glo "with_sides", .glo "weak_ones", .glo "settled_but", .glo "load_in", .glo "check_some", .glo "corner_of", .glo "are_weights", .glo "loadings_of", .glo "fair", .glo "steady", .glo "_law_cell", .glo "_law_digits", .glo "_law_cut", .glo "_law_plus", .glo "_law_minus", .glo "_law_by", .glo "_law_is_below", .glo "_law_share", .glo "_law_load", .glo "_law_keys", .glo "_law_heavy", .glo "_law_world", .glo "_law_made", .glo "_law_spares", .glo "_law_greatest", .glo "_law_beside"]
def fa3 : List He.Fa := [.glo "_law_kept", .glo "_law_on", .glo "_law_lying", .glo "_law_stood", .glo "_law_tables", .glo "_law_under_all", .glo "_law_asked", .glo "_law_over", .glo "_law_worn", .glo "_law_with", .glo "_law_right", .glo "law", .glo "Plank", .glo "Loads"]
def fn : List He.DefD := fn0 ++ fn1 ++ fn2
def fa : List He.Fa := fa0 ++ fa1 ++ fa2 ++ fa3
def lo0 : List Str := [("_wall" : Str), ("FallError" : Str), ("NoPlank" : Str), ("NoLot" : Str), ("NoRest" : Str), ("NoLoadings" : Str), ("NOUGHT" : Str), ("ONE" : Str), ("is_whole" : Str), ("divisor" : Str), ("cut" : Str), ("is_fraction" : Str), ("whole" : Str), ("plus" : Str), ("less" : Str), ("times" : Str), ("over" : Str), ("is_below" : Str), ("sum_of" : Str), ("MOST_LENGTH" : Str)]
def lo1 : List Str := [("MOST_PROPS" : Str), ("LEFT_WALL" : Str), ("is_measure" : Str), ("is_prop" : Str), ("are_props" : Str), ("Plank" : Str), ("is_lot" : Str), ("lot_of" : Str), ("rests_of" : Str), ("is_spot" : Str), ("is_weight" : Str), ("slope" : Str), ("Loads" : Str), ("overlaid_between" : Str), ("without" : Str), ("overlaid" : Str), ("with_sides" : Str), ("MOST_LOADINGS" : Str), ("weak_ones" : Str), ("settled_but" : Str)]
def lo2 : List Str := [("load_in" : Str), ("check_some" : Str), ("corner_of" : Str), ("are_weights" : Str), ("loadings_of" : Str), ("fair" : Str), ("steady" : Str), ("_law_cell" : Str), ("_law_digits" : Str), ("_law_cut" : Str), ("_law_plus" : Str), ("_law_minus" : Str), ("_law_by" : Str), ("_law_part_of" : Str), ("_law_is_below" : Str), ("_law_share" : Str), ("_law_load" : Str), ("_law_keys" : Str), ("_law_heavy" : Str), ("_law_world" : Str)]
def lo3 : List Str := [("_law_made" : Str), ("_law_spares" : Str), ("_law_greatest" : Str), ("_law_beside" : Str), ("_law_kept" : Str), ("_law_on" : Str), ("_law_lying" : Str), ("_law_stood" : Str), ("_law_tables" : Str), ("_law_under_all" : Str), ("_law_asked" : Str), ("_law_over" : Str), ("_law_worn" : Str), ("_law_with" : Str), ("_law_right" : Str)]
def lo : List Str := lo0 ++ lo1 ++ lo2 ++ lo3
abbrev Rw : PySem.W.OpenRow := PySem.W.OpenLaw.row PySem.Challenge.rw_propfall_k54_whole_strengths_for_several
def tk (K : PySem.W.Frag) : Bool := He.tupB K "NOUGHT" [.int 0, .int 1] && He.tupB K "ONE" [.int 1, .int 1]
/-- what a list of objects names, as it stands (no sifting: a double does no harm) -/
def nx (g : Addr → Option Obj) (as : List Addr) : List Addr := as.flatMap fun a => match g a with
  | some o => He.refsD o
  | none => []
def asX (g : Addr → Option Obj) : Nat → List Addr → List Addr
  | 0, l => l
  | n + 1, l => l ++ asX g n (nx g l)
def frL {A : Type} : List Addr → (List Addr → A) → A
  | [], k => k []
  | a :: r, k => HandSHeadRun.frNat a fun a => frL r fun r => k (a :: r)
theorem frL_eq {A : Type} : ∀ (l : List Addr) (k : List Addr → A), frL l k = k l
  | [], _ => rfl
  | a :: r, k => by
    show HandSHeadRun.frNat a (fun a => frL r fun r => k (a :: r)) = _
    rw [HandSHeadRun.frNat_eq, frL_eq]
def obK (K : PySem.W.Frag) : He.AlD × Bool := (He.obsD fa fn K, tk K)
def obG (g : Addr → Option Obj) : He.AlD × Bool := frL (asX g 4 [mainGlobals]) fun as => obK (He.frG g as)
def hk : PySem.W.Hook where
  α := He.AlD × Bool
  obs := fun s => obG s.heap.get?
  val := fun _ => (He.valD fn, true)
  says := fun _ h => ∃ K : PySem.W.Frag, K.In h ∧ He.SaysD fa fn K ∧ tk K = true
  of := fun _ _ e => by
    have e := (frL_eq _ _).symm.trans e
    exact ⟨_, He.frG_in, congrArg Prod.fst e, congrArg Prod.snd e⟩
  keeps := fun _ _ _ ⟨K, hK, c⟩ k => ⟨K, PySem.W.Frag.In.keeps hK k, c⟩
def ob (s : PySem.W.SharedT) : He.AlD × Bool := obG (HandSHeadRun.getT s)
theorem ob_eq (s : PySem.W.SharedT) : ob s = hk.obs s.abs := by
  have e : HandSHeadRun.getT s = s.abs.heap.get? := funext (HandSHeadRun.getT_eq s)
  show obG _ = obG _
  rw [e]
theorem run (w : World) : HandSHeadRun.RunEq Rw (PySem.W.view Rw.prog [83]) hk ob 20000 lo w := by
  intro os
  kernel_rfl
end Hd

set_option maxHeartbeats 4000000
namespace Pf
open PySem PySem.Spec PyProof.Rows L2 Lg Ra
theorem mk_fn {b : Bs} {x : Str} {params : Arguments} {body : List Stmt} {scope : Scope} {f : Addr} {fd : FuncData} {N ps : List Str} {k n : Nat} {sp : FS} (F : FunD b.K x x params body scope [] [] f fd) (g : b.mg x = some (.ref f)) (S : FnScope N ps scope) (hn : ps.length = n)
    (hb : ∀ (kV doc pm : Value) (an : Option Addr) (cdv ct : Value) (us : List Value), us.length = ps.length → bindArgs (PySem.W.fnOf x x params body scope .none kV doc pm an cdv ct) ⟨us, []⟩ = pure (ps.zip us)) (h : XF b N k scope n body sp) : FnAt b x n (spOf n sp) (k + 1) :=
  ⟨f, fd, ps, fn_ok F S hn h, g, F.kp, F.bindsN hb⟩
theorem mk_me {b : Bs} {C : Addr} {m qual : Str} {params : Arguments} {body : List Stmt} {scope : Scope} {f : Addr} {fd : FuncData} {N ps : List Str} {k n : Nat} {sp : FS} (F : FunD b.K m qual params body scope [] [] f fd) (cl : Cls b.K C) (g : Meth b.K C m f) (S : FnScope N ps scope) (hn : ps.length = n)
    (hb : ∀ (kV doc pm : Value) (an : Option Addr) (cdv ct : Value) (us : List Value), us.length = ps.length → bindArgs (PySem.W.fnOf m qual params body scope .none kV doc pm an cdv ct) ⟨us, []⟩ = pure (ps.zip us)) (h : XF b N k scope n body sp) : MeAt b C m n (spOf n sp) (k + 1) :=
  ⟨f, fd, ps, fn_ok F S hn h, cl, g, F.bindsN hb⟩
end Pf

set_option maxHeartbeats 0
namespace Pf
open PySem PySem.Spec PyProof.Rows L2 Lg Ra
theorem at_FDivisor {b : Bs} {f : Addr} {fd : FuncData} (F : FunD b.K "divisor" "divisor" (defArgs (top 11)) (bodyOf 11) (scOf 11) [] [] f fd) (g : b.mg "divisor" = some (.ref f))  : FDivisor b :=
  mk_fn F g (ps := ["one", "other"]) ⟨rfl, rfl, rfl, by decide +kernel, rfl, by decide +kernel, by decide +kernel⟩ rfl (fun _ _ _ _ _ _ us hl => match us, hl with | [_, _], _ => rfl) (xf_divisor)
theorem at_FCut {b : Bs} {f : Addr} {fd : FuncData} (F : FunD b.K "cut" "cut" (defArgs (top 12)) (bodyOf 12) (scOf 12) [] [] f fd) (g : b.mg "cut" = some (.ref f)) (B : Bt b) (h_FDivisor : FDivisor b) : FCut b :=
  mk_fn F g (ps := ["top", "bottom"]) ⟨rfl, rfl, rfl, by decide +kernel, rfl, by decide +kernel, by decide +kernel⟩ rfl (fun _ _ _ _ _ _ us hl => match us, hl with | [_, _], _ => rfl) (xf_cut B h_FDivisor)
theorem at_FPlus {b : Bs} {f : Addr} {fd : FuncData} (F : FunD b.K "plus" "plus" (defArgs (top 15)) (bodyOf 15) (scOf 15) [] [] f fd) (g : b.mg "plus" = some (.ref f)) (h_FCut : FCut b) : FPlus b :=
  mk_fn F g (ps := ["one", "other"]) ⟨rfl, rfl, rfl, by decide +kernel, rfl, by decide +kernel, by decide +kernel⟩ rfl (fun _ _ _ _ _ _ us hl => match us, hl with | [_, _], _ => rfl) (xf_plus h_FCut)
theorem at_FLess {b : Bs} {f : Addr} {fd : FuncData} (F : FunD b.K "less" "less" (defArgs (top 16)) (bodyOf 16) (scOf 16) [] [] f fd) (g : b.mg "less" = some (.ref f)) (h_FCut : FCut b) : FLess b :=
  mk_fn F g (ps := ["one", "other"]) ⟨rfl, rfl, rfl, by decide +kernel, rfl, by decide +kernel, by decide +kernel⟩ rfl (fun _ _ _ _ _ _ us hl => match us, hl with | [_, _], _ => rfl) (xf_less h_FCut)
theorem at_FTimes {b : Bs} {f : Addr} {fd : FuncData} (F : FunD b.K "times" "times" (defArgs (top 17)) (bodyOf 17) (scOf 17) [] [] f fd) (g : b.mg "times" = some (.ref f)) (h_FCut : FCut b) : FTimes b :=
  mk_fn F g (ps := ["one", "other"]) ⟨rfl, rfl, rfl, by decide +kernel, rfl, by decide +kernel, by decide +kernel⟩ rfl (fun _ _ _ _ _ _ us hl => match us, hl with | [_, _], _ => rfl) (xf_times h_FCut)
theorem at_FOver {b : Bs} {f : Addr} {fd : FuncData} (F : FunD b.K "over" "over" (defArgs (top 18)) (bodyOf 18) (scOf 18) [] [] f fd) (g : b.mg "over" = some (.ref f)) (h_FCut : FCut b) : FOver b :=
  mk_fn F g (ps := ["one", "other"]) ⟨rfl, rfl, rfl, by decide +kernel, rfl, by decide +kernel, by decide +kernel⟩ rfl (fun _ _ _ _ _ _ us hl => match us, hl with | [_, _], _ => rfl) (xf_over h_FCut)
theorem at_FBelow {b : Bs} {f : Addr} {fd : FuncData} (F : FunD b.K "is_below" "is_below" (defArgs (top 19)) (bodyOf 19) (scOf 19) [] [] f fd) (g : b.mg "is_below" = some (.ref f))  : FBelow b :=
  mk_fn F g (ps := ["one", "other"]) ⟨rfl, rfl, rfl, by decide +kernel, rfl, by decide +kernel, by decide +kernel⟩ rfl (fun _ _ _ _ _ _ us hl => match us, hl with | [_, _], _ => rfl) (xf_below)
theorem at_FWhole {b : Bs} {f : Addr} {fd : FuncData} (F : FunD b.K "whole" "whole" (defArgs (top 14)) (bodyOf 14) (scOf 14) [] [] f fd) (g : b.mg "whole" = some (.ref f))  : FWhole b :=
  mk_fn F g (ps := ["number"]) ⟨rfl, rfl, rfl, by decide +kernel, rfl, by decide +kernel, by decide +kernel⟩ rfl (fun _ _ _ _ _ _ us hl => match us, hl with | [_], _ => rfl) (xf_whole)
theorem at_FIsWhole {b : Bs} {f : Addr} {fd : FuncData} (F : FunD b.K "is_whole" "is_whole" (defArgs (top 10)) (bodyOf 10) (scOf 10) [] [] f fd) (g : b.mg "is_whole" = some (.ref f)) (B : Bt b) : FIsWhole b :=
  mk_fn F g (ps := ["thing"]) ⟨rfl, rfl, rfl, by decide +kernel, rfl, by decide +kernel, by decide +kernel⟩ rfl (fun _ _ _ _ _ _ us hl => match us, hl with | [_], _ => rfl) (xf_isWhole B)
theorem at_FIsFr {b : Bs} {f : Addr} {fd : FuncData} (F : FunD b.K "is_fraction" "is_fraction" (defArgs (top 13)) (bodyOf 13) (scOf 13) [] [] f fd) (g : b.mg "is_fraction" = some (.ref f)) (B : Bt b) (h_FIsWhole : FIsWhole b) (h_FDivisor : FDivisor b) : FIsFr b :=
  mk_fn F g (ps := ["thing"]) ⟨rfl, rfl, rfl, by decide +kernel, rfl, by decide +kernel, by decide +kernel⟩ rfl (fun _ _ _ _ _ _ us hl => match us, hl with | [_], _ => rfl) (xf_isFr B h_FIsWhole h_FDivisor)
theorem at_FSum {b : Bs} {f : Addr} {fd : FuncData} (F : FunD b.K "sum_of" "sum_of" (defArgs (top 20)) (bodyOf 20) (scOf 20) [] [] f fd) (g : b.mg "sum_of" = some (.ref f)) (B : Bt b) (h_FPlus : FPlus b) : FSum b :=
  mk_fn F g (ps := ["some"]) ⟨rfl, rfl, rfl, by decide +kernel, rfl, by decide +kernel, by decide +kernel⟩ rfl (fun _ _ _ _ _ _ us hl => match us, hl with | [_], _ => rfl) (xf_sum B h_FPlus)
theorem at_FMeas {b : Bs} {f : Addr} {fd : FuncData} (F : FunD b.K "is_measure" "is_measure" (defArgs (top 25)) (bodyOf 25) (scOf 25) [] [] f fd) (g : b.mg "is_measure" = some (.ref f)) (B : Bt b) (h_FIsFr : FIsFr b) (h_FBelow : FBelow b) : FMeas b :=
  mk_fn F g (ps := ["thing"]) ⟨rfl, rfl, rfl, by decide +kernel, rfl, by decide +kernel, by decide +kernel⟩ rfl (fun _ _ _ _ _ _ us hl => match us, hl with | [_], _ => rfl) (xf_meas B h_FIsFr h_FBelow)
theorem at_FProp {b : Bs} {f : Addr} {fd : FuncData} (F : FunD b.K "is_prop" "is_prop" (defArgs (top 26)) (bodyOf 26) (scOf 26) [] [] f fd) (g : b.mg "is_prop" = some (.ref f)) (B : Bt b) (h_FIsWhole : FIsWhole b) (h_FMeas : FMeas b) : FProp b :=
  mk_fn F g (ps := ["thing", "length"]) ⟨rfl, rfl, rfl, by decide +kernel, rfl, by decide +kernel, by decide +kernel⟩ rfl (fun _ _ _ _ _ _ us hl => match us, hl with | [_, _], _ => rfl) (xf_prop B h_FIsWhole h_FMeas)
theorem at_FProps {b : Bs} {f : Addr} {fd : FuncData} (F : FunD b.K "are_props" "are_props" (defArgs (top 27)) (bodyOf 27) (scOf 27) [] [] f fd) (g : b.mg "are_props" = some (.ref f)) (B : Bt b) (h_FProp : FProp b) : FProps b :=
  mk_fn F g (ps := ["thing", "length"]) ⟨rfl, rfl, rfl, by decide +kernel, rfl, by decide +kernel, by decide +kernel⟩ rfl (fun _ _ _ _ _ _ us hl => match us, hl with | [_, _], _ => rfl) (xf_props B h_FProp)
theorem at_FCount {b : Bs} {C : Addr} {f : Addr} {fd : FuncData} (F : FunD b.K "count" "Plank.count" (defArgs (inClass (top 28) 5)) (mBody 28 5) (mSc 28 5) [] [] f fd) (cl : Cls b.K C) (g : Meth b.K C "count" f) (B : Bt b) (Cf : PkC b C) : FCount b C :=
  mk_me F cl g (ps := ["self"]) ⟨rfl, rfl, rfl, by decide +kernel, rfl, by decide +kernel, by decide +kernel⟩ rfl (fun _ _ _ _ _ _ us hl => match us, hl with | [_], _ => rfl) (xf_count B Cf)
theorem at_FLength {b : Bs} {C : Addr} {f : Addr} {fd : FuncData} (F : FunD b.K "length" "Plank.length" (defArgs (inClass (top 28) 2)) (mBody 28 2) (mSc 28 2) [] [] f fd) (cl : Cls b.K C) (g : Meth b.K C "length" f) (B : Bt b) (Cf : PkC b C) : FLength b C :=
  mk_me F cl g (ps := ["self"]) ⟨rfl, rfl, rfl, by decide +kernel, rfl, by decide +kernel, by decide +kernel⟩ rfl (fun _ _ _ _ _ _ us hl => match us, hl with | [_], _ => rfl) (xf_length B Cf)
theorem at_FPlace {b : Bs} {C : Addr} {f : Addr} {fd : FuncData} (F : FunD b.K "place_of" "Plank.place_of" (defArgs (inClass (top 28) 6)) (mBody 28 6) (mSc 28 6) [] [] f fd) (cl : Cls b.K C) (g : Meth b.K C "place_of" f) (B : Bt b) (Cf : PkC b C) (h_FIsWhole : FIsWhole b) (h_FCount : FCount b C) : FPlace b C :=
  mk_me F cl g (ps := ["self", "rest"]) ⟨rfl, rfl, rfl, by decide +kernel, rfl, by decide +kernel, by decide +kernel⟩ rfl (fun _ _ _ _ _ _ us hl => match us, hl with | [_, _], _ => rfl) (xf_place B Cf h_FIsWhole h_FCount)
theorem at_FIsLot {b : Bs} {C : Addr} {f : Addr} {fd : FuncData} (F : FunD b.K "is_lot" "is_lot" (defArgs (top 29)) (bodyOf 29) (scOf 29) [] [] f fd) (g : b.mg "is_lot" = some (.ref f)) (B : Bt b) (h_FIsWhole : FIsWhole b) (h_FCount : FCount b C) : FIsLot b C :=
  mk_fn F g (ps := ["plank", "thing"]) ⟨rfl, rfl, rfl, by decide +kernel, rfl, by decide +kernel, by decide +kernel⟩ rfl (fun _ _ _ _ _ _ us hl => match us, hl with | [_, _], _ => rfl) (xf_isLot B h_FIsWhole h_FCount)
theorem at_FLotOf {b : Bs} {C : Addr} {f : Addr} {fd : FuncData} (F : FunD b.K "lot_of" "lot_of" (defArgs (top 30)) (bodyOf 30) (scOf 30) [] [] f fd) (g : b.mg "lot_of" = some (.ref f)) (B : Bt b) (h_FCount : FCount b C) : FLotOf b C :=
  mk_fn F g (ps := ["plank", "lot"]) ⟨rfl, rfl, rfl, by decide +kernel, rfl, by decide +kernel, by decide +kernel⟩ rfl (fun _ _ _ _ _ _ us hl => match us, hl with | [_, _], _ => rfl) (xf_lotOf B h_FCount)
theorem at_FRests {b : Bs} {C : Addr} {f : Addr} {fd : FuncData} (F : FunD b.K "rests_of" "rests_of" (defArgs (top 31)) (bodyOf 31) (scOf 31) [] [] f fd) (g : b.mg "rests_of" = some (.ref f)) (B : Bt b) (h_FCount : FCount b C) : FRests b C :=
  mk_fn F g (ps := ["plank", "lot"]) ⟨rfl, rfl, rfl, by decide +kernel, rfl, by decide +kernel, by decide +kernel⟩ rfl (fun _ _ _ _ _ _ us hl => match us, hl with | [_, _], _ => rfl) (xf_rests B h_FCount)
theorem at_FSpot {b : Bs} {C : Addr} {f : Addr} {fd : FuncData} (F : FunD b.K "is_spot" "is_spot" (defArgs (top 33)) (bodyOf 33) (scOf 33) [] [] f fd) (g : b.mg "is_spot" = some (.ref f)) (h_FMeas : FMeas b) (h_FBelow : FBelow b) (h_FWhole : FWhole b) (h_FLength : FLength b C) : FSpot b C :=
  mk_fn F g (ps := ["plank", "thing"]) ⟨rfl, rfl, rfl, by decide +kernel, rfl, by decide +kernel, by decide +kernel⟩ rfl (fun _ _ _ _ _ _ us hl => match us, hl with | [_, _], _ => rfl) (xf_spot h_FMeas h_FBelow h_FWhole h_FLength)
theorem at_FWeight {b : Bs} {C : Addr} {f : Addr} {fd : FuncData} (F : FunD b.K "is_weight" "is_weight" (defArgs (top 34)) (bodyOf 34) (scOf 34) [] [] f fd) (g : b.mg "is_weight" = some (.ref f)) (B : Bt b) (h_FBelow : FBelow b) (h_FIsFr : FIsFr b) (h_FSpot : FSpot b C) : FWeight b C :=
  mk_fn F g (ps := ["plank", "thing"]) ⟨rfl, rfl, rfl, by decide +kernel, rfl, by decide +kernel, by decide +kernel⟩ rfl (fun _ _ _ _ _ _ us hl => match us, hl with | [_, _], _ => rfl) (xf_weight B h_FBelow h_FIsFr h_FSpot)
theorem at_FSlope {b : Bs} {f : Addr} {fd : FuncData} (F : FunD b.K "slope" "slope" (defArgs (top 35)) (bodyOf 35) (scOf 35) [] [] f fd) (g : b.mg "slope" = some (.ref f)) (h_FOver : FOver b) (h_FLess : FLess b) (h_FWhole : FWhole b) : FSlope b :=
  mk_fn F g (ps := ["low", "high", "spot"]) ⟨rfl, rfl, rfl, by decide +kernel, rfl, by decide +kernel, by decide +kernel⟩ rfl (fun _ _ _ _ _ _ us hl => match us, hl with | [_, _, _], _ => rfl) (xf_slope h_FOver h_FLess h_FWhole)
theorem at_FShare {b : Bs} {C D : Addr} {f : Addr} {fd : FuncData} (F : FunD b.K "share" "Loads.share" (defArgs (inClass (top 36) 1)) (mBody 36 1) (mSc 36 1) [] [] f fd) (cl : Cls b.K D) (g : Meth b.K D "share" f) (B : Bt b) (Lf : LdC b D) (h_FCount : FCount b C) (h_FPlace : FPlace b C) (h_FBelow : FBelow b) (h_FLess : FLess b) (h_FSlope : FSlope b) (h_FWhole : FWhole b) : FShare b C D :=
  mk_me F cl g (ps := ["self", "left", "rest", "right", "spot"]) ⟨rfl, rfl, rfl, by decide +kernel, rfl, by decide +kernel, by decide +kernel⟩ rfl (fun _ _ _ _ _ _ us hl => match us, hl with | [_, _, _, _, _], _ => rfl) (xf_share B Lf h_FCount h_FPlace h_FBelow h_FLess h_FSlope h_FWhole)
theorem at_FLies {b : Bs} {C D : Addr} {f : Addr} {fd : FuncData} (F : FunD b.K "lies_on" "Loads.lies_on" (defArgs (inClass (top 36) 2)) (mBody 36 2) (mSc 36 2) [] [] f fd) (cl : Cls b.K D) (g : Meth b.K D "lies_on" f) (B : Bt b) (Lf : LdC b D) (h_FTimes : FTimes b) (h_FShare : FShare b C D) (h_FSum : FSum b) : FLies b C D :=
  mk_me F cl g (ps := ["self", "left", "rest", "right"]) ⟨rfl, rfl, rfl, by decide +kernel, rfl, by decide +kernel, by decide +kernel⟩ rfl (fun _ _ _ _ _ _ us hl => match us, hl with | [_, _, _, _], _ => rfl) (xf_lies B Lf h_FTimes h_FShare h_FSum)
theorem at_FOverlaid {b : Bs} {C D : Addr} {f : Addr} {fd : FuncData} (F : FunD b.K "is_overlaid" "Loads.is_overlaid" (defArgs (inClass (top 36) 3)) (mBody 36 3) (mSc 36 3) [] [] f fd) (cl : Cls b.K D) (g : Meth b.K D "is_overlaid" f) (B : Bt b) (Cf : PkC b C) (Lf : LdC b D) (h_FBelow : FBelow b) (h_FLies : FLies b C D) : FOverlaid b C D :=
  mk_me F cl g (ps := ["self", "left", "prop", "right"]) ⟨rfl, rfl, rfl, by decide +kernel, rfl, by decide +kernel, by decide +kernel⟩ rfl (fun _ _ _ _ _ _ us hl => match us, hl with | [_, _, _, _], _ => rfl) (xf_overlaid B Cf Lf h_FBelow h_FLies)
theorem at_FBetween {b : Bs} {C D : Addr} {f : Addr} {fd : FuncData} (F : FunD b.K "overlaid_between" "overlaid_between" (defArgs (top 38)) (bodyOf 38) (scOf 38) [] [] f fd) (g : b.mg "overlaid_between" = some (.ref f)) (B : Bt b) (h_FOverlaid : FOverlaid b C D) : FBetween b C D :=
  mk_fn F g (ps := ["loads", "left", "lot", "right"]) ⟨rfl, rfl, rfl, by decide +kernel, rfl, by decide +kernel, by decide +kernel⟩ rfl (fun _ _ _ _ _ _ us hl => match us, hl with | [_, _, _, _], _ => rfl) (xf_between B h_FOverlaid)
theorem at_FWithout {b : Bs} {f : Addr} {fd : FuncData} (F : FunD b.K "without" "without" (defArgs (top 39)) (bodyOf 39) (scOf 39) [] [] f fd) (g : b.mg "without" = some (.ref f)) (B : Bt b) : FWithout b :=
  mk_fn F g (ps := ["lot", "prop"]) ⟨rfl, rfl, rfl, by decide +kernel, rfl, by decide +kernel, by decide +kernel⟩ rfl (fun _ _ _ _ _ _ us hl => match us, hl with | [_, _], _ => rfl) (xf_without B)
theorem at_FOvl {b : Bs} {C D : Addr} {f : Addr} {fd : FuncData} (F : FunD b.K "overlaid" "overlaid" (defArgs (top 40)) (bodyOf 40) (scOf 40) [] [] f fd) (g : b.mg "overlaid" = some (.ref f)) (B : Bt b) (Lf : LdC b D) (h_FBetween : FBetween b C D) (h_FCount : FCount b C) : FOvl b C D :=
  mk_fn F g (ps := ["loads", "lot"]) ⟨rfl, rfl, rfl, by decide +kernel, rfl, by decide +kernel, by decide +kernel⟩ rfl (fun _ _ _ _ _ _ us hl => match us, hl with | [_, _], _ => rfl) (xf_ovl B Lf h_FBetween h_FCount)
theorem at_FSides {b : Bs} {C : Addr} {f : Addr} {fd : FuncData} (F : FunD b.K "with_sides" "with_sides" (defArgs (top 42)) (bodyOf 42) (scOf 42) [] [] f fd) (g : b.mg "with_sides" = some (.ref f)) (B : Bt b) (h_FRests : FRests b C) : FSides b C :=
  mk_fn F g (ps := ["plank", "lot"]) ⟨rfl, rfl, rfl, by decide +kernel, rfl, by decide +kernel, by decide +kernel⟩ rfl (fun _ _ _ _ _ _ us hl => match us, hl with | [_, _], _ => rfl) (xf_sides B h_FRests)
theorem at_FWeak {b : Bs} {C D : Addr} {f : Addr} {fd : FuncData} (F : FunD b.K "weak_ones" "weak_ones" (defArgs (top 45)) (bodyOf 45) (scOf 45) [] [] f fd) (g : b.mg "weak_ones" = some (.ref f)) (B : Bt b) (h_FOvl : FOvl b C D) : FWeak b C D :=
  mk_fn F g (ps := ["some", "strong", "lot"]) ⟨rfl, rfl, rfl, by decide +kernel, rfl, by decide +kernel, by decide +kernel⟩ rfl (fun _ _ _ _ _ _ us hl => match us, hl with | [_, _, _], _ => rfl) (xf_weak B h_FOvl)
theorem at_FSettle {b : Bs} {C D : Addr} {f : Addr} {fd : FuncData} (F : FunD b.K "settled_but" "settled_but" (defArgs (top 46)) (bodyOf 46) (scOf 46) [] [] f fd) (g : b.mg "settled_but" = some (.ref f)) (B : Bt b) (h_FWeak : FWeak b C D) (h_FWithout : FWithout b) : FSettle b C D :=
  mk_fn F g (ps := ["some", "strong", "lot"]) ⟨rfl, rfl, rfl, by decide +kernel, rfl, by decide +kernel, by decide +kernel⟩ rfl (fun _ _ _ _ _ _ us hl => match us, hl with | [_, _, _], _ => rfl) (xf_settle B h_FWeak h_FWithout)
theorem at_FLoadIn {b : Bs} {C D : Addr} {f : Addr} {fd : FuncData} (F : FunD b.K "load_in" "load_in" (defArgs (top 47)) (bodyOf 47) (scOf 47) [] [] f fd) (g : b.mg "load_in" = some (.ref f)) (Lf : LdC b D) (h_FSides : FSides b C) (h_FLies : FLies b C D) : FLoadIn b C D :=
  mk_fn F g (ps := ["loads", "lot", "prop"]) ⟨rfl, rfl, rfl, by decide +kernel, rfl, by decide +kernel, by decide +kernel⟩ rfl (fun _ _ _ _ _ _ us hl => match us, hl with | [_, _, _], _ => rfl) (xf_loadIn Lf h_FSides h_FLies)
theorem at_FCheck {b : Bs} {C : Addr} {f : Addr} {fd : FuncData} (F : FunD b.K "check_some" "check_some" (defArgs (top 48)) (bodyOf 48) (scOf 48) [] [] f fd) (g : b.mg "check_some" = some (.ref f)) (h_FIsLot : FIsLot b C) : FCheck b C :=
  mk_fn F g (ps := ["plank", "lot"]) ⟨rfl, rfl, rfl, by decide +kernel, rfl, by decide +kernel, by decide +kernel⟩ rfl (fun _ _ _ _ _ _ us hl => match us, hl with | [_, _], _ => rfl) (xf_check h_FIsLot)
theorem at_FCorner {b : Bs} {C D : Addr} {f : Addr} {fd : FuncData} (F : FunD b.K "corner_of" "corner_of" (defArgs (top 49)) (bodyOf 49) (scOf 49) [] [] f fd) (g : b.mg "corner_of" = some (.ref f)) (B : Bt b) (Lf : LdC b D) (h_FSettle : FSettle b C D) (h_FLotOf : FLotOf b C) (h_FLoadIn : FLoadIn b C D) (h_FBelow : FBelow b) : FCorner b C D :=
  mk_fn F g (ps := ["some", "lot"]) ⟨rfl, rfl, rfl, by decide +kernel, rfl, by decide +kernel, by decide +kernel⟩ rfl (fun _ _ _ _ _ _ us hl => match us, hl with | [_, _], _ => rfl) (xf_corner B Lf h_FSettle h_FLotOf h_FLoadIn h_FBelow)
theorem at_FAreW {b : Bs} {C : Addr} {f : Addr} {fd : FuncData} (F : FunD b.K "are_weights" "are_weights" (defArgs (top 50)) (bodyOf 50) (scOf 50) [] [] f fd) (g : b.mg "are_weights" = some (.ref f)) (B : Bt b) (h_FWeight : FWeight b C) : FAreW b C :=
  mk_fn F g (ps := ["plank", "thing"]) ⟨rfl, rfl, rfl, by decide +kernel, rfl, by decide +kernel, by decide +kernel⟩ rfl (fun _ _ _ _ _ _ us hl => match us, hl with | [_, _], _ => rfl) (xf_areW B h_FWeight)
theorem at_FSteady {b : Bs} {C D : Addr} {f : Addr} {fd : FuncData} (F : FunD b.K "steady" "steady" (defArgs (top 53)) (bodyOf 53) (scOf 53) [] [] f fd) (g : b.mg "steady" = some (.ref f)) (B : Bt b) (h_loadings_of : FnAt b "loadings_of" 2 (spLoadings b.K C D) 7) (h_FCheck : FCheck b C) (h_FCorner : FCorner b C D) : FSteady b C D :=
  mk_fn F g (ps := ["plank", "loadings", "lot"]) ⟨rfl, rfl, rfl, by decide +kernel, rfl, by decide +kernel, by decide +kernel⟩ rfl (fun _ _ _ _ _ _ us hl => match us, hl with | [_, _, _], _ => rfl) (xf_steady B h_loadings_of h_FCheck h_FCorner)
theorem at_FFair {b : Bs} {C D : Addr} {f : Addr} {fd : FuncData} (F : FunD b.K "fair" "fair" (defArgs (top 52)) (bodyOf 52) (scOf 52) [] [] f fd) (g : b.mg "fair" = some (.ref f)) (B : Bt b) (h_loadings_of : FnAt b "loadings_of" 2 (spLoadings b.K C D) 7) (h_FCheck : FCheck b C) (h_FCorner : FCorner b C D) (h_FBelow : FBelow b) : FFair b C D :=
  mk_fn F g (ps := ["plank", "loadings", "lot"]) ⟨rfl, rfl, rfl, by decide +kernel, rfl, by decide +kernel, by decide +kernel⟩ rfl (fun _ _ _ _ _ _ us hl => match us, hl with | [_, _, _], _ => rfl) (xf_fair B h_loadings_of h_FCheck h_FCorner h_FBelow)
theorem at_FCell {b : Bs} {f : Addr} {fd : FuncData} (F : FunD b.K "_law_cell" "_law_cell" (defArgs (top 55)) (bodyOf 55) (scOf 55) [] [] f fd) (g : b.mg "_law_cell" = some (.ref f)) (B : Bt b) : FCell b :=
  mk_fn F g (ps := ["_law_script", "_law_k"]) ⟨rfl, rfl, rfl, by decide +kernel, rfl, by decide +kernel, by decide +kernel⟩ rfl (fun _ _ _ _ _ _ us hl => match us, hl with | [_, _], _ => rfl) (xf_cell B)
theorem at_FDigits {b : Bs} {f : Addr} {fd : FuncData} (F : FunD b.K "_law_digits" "_law_digits" (defArgs (top 56)) (bodyOf 56) (scOf 56) [] [] f fd) (g : b.mg "_law_digits" = some (.ref f)) (B : Bt b) : FDigits b :=
  mk_fn F g (ps := ["_law_cell_here", "_law_wanted"]) ⟨rfl, rfl, rfl, by decide +kernel, rfl, by decide +kernel, by decide +kernel⟩ rfl (fun _ _ _ _ _ _ us hl => match us, hl with | [_, _], _ => rfl) (xf_digits B)
theorem at_FLCut {b : Bs} {f : Addr} {fd : FuncData} (F : FunD b.K "_law_cut" "_law_cut" (defArgs (top 57)) (bodyOf 57) (scOf 57) [] [] f fd) (g : b.mg "_law_cut" = some (.ref f)) (B : Bt b) : FLCut b :=
  mk_fn F g (ps := ["_law_top", "_law_bottom"]) ⟨rfl, rfl, rfl, by decide +kernel, rfl, by decide +kernel, by decide +kernel⟩ rfl (fun _ _ _ _ _ _ us hl => match us, hl with | [_, _], _ => rfl) (xf_lcut B)
theorem at_FLPlus {b : Bs} {f : Addr} {fd : FuncData} (F : FunD b.K "_law_plus" "_law_plus" (defArgs (top 58)) (bodyOf 58) (scOf 58) [] [] f fd) (g : b.mg "_law_plus" = some (.ref f)) (h_FLCut : FLCut b) : FLPlus b :=
  mk_fn F g (ps := ["_law_one", "_law_other"]) ⟨rfl, rfl, rfl, by decide +kernel, rfl, by decide +kernel, by decide +kernel⟩ rfl (fun _ _ _ _ _ _ us hl => match us, hl with | [_, _], _ => rfl) (xf_lplus h_FLCut)
theorem at_FLMinus {b : Bs} {f : Addr} {fd : FuncData} (F : FunD b.K "_law_minus" "_law_minus" (defArgs (top 59)) (bodyOf 59) (scOf 59) [] [] f fd) (g : b.mg "_law_minus" = some (.ref f)) (h_FLCut : FLCut b) : FLMinus b :=
  mk_fn F g (ps := ["_law_one", "_law_other"]) ⟨rfl, rfl, rfl, by decide +kernel, rfl, by decide +kernel, by decide +kernel⟩ rfl (fun _ _ _ _ _ _ us hl => match us, hl with | [_, _], _ => rfl) (xf_lminus h_FLCut)
theorem at_FLBy {b : Bs} {f : Addr} {fd : FuncData} (F : FunD b.K "_law_by" "_law_by" (defArgs (top 60)) (bodyOf 60) (scOf 60) [] [] f fd) (g : b.mg "_law_by" = some (.ref f)) (h_FLCut : FLCut b) : FLBy b :=
  mk_fn F g (ps := ["_law_one", "_law_other"]) ⟨rfl, rfl, rfl, by decide +kernel, rfl, by decide +kernel, by decide +kernel⟩ rfl (fun _ _ _ _ _ _ us hl => match us, hl with | [_, _], _ => rfl) (xf_lby h_FLCut)
theorem at_FLBelow {b : Bs} {f : Addr} {fd : FuncData} (F : FunD b.K "_law_is_below" "_law_is_below" (defArgs (top 62)) (bodyOf 62) (scOf 62) [] [] f fd) (g : b.mg "_law_is_below" = some (.ref f))  : FLBelow b :=
  mk_fn F g (ps := ["_law_one", "_law_other"]) ⟨rfl, rfl, rfl, by decide +kernel, rfl, by decide +kernel, by decide +kernel⟩ rfl (fun _ _ _ _ _ _ us hl => match us, hl with | [_, _], _ => rfl) (xf_lbelow)
theorem at_FLShare {b : Bs} {f : Addr} {fd : FuncData} (F : FunD b.K "_law_share" "_law_share" (defArgs (top 63)) (bodyOf 63) (scOf 63) [] [] f fd) (g : b.mg "_law_share" = some (.ref f)) (h_FLCut : FLCut b) (h_FLBelow : FLBelow b) : FLShare b :=
  mk_fn F g (ps := ["_law_world_here", "_law_key", "_law_spot"]) ⟨rfl, rfl, rfl, by decide +kernel, rfl, by decide +kernel, by decide +kernel⟩ rfl (fun _ _ _ _ _ _ us hl => match us, hl with | [_, _, _], _ => rfl) (xf_lshare h_FLCut h_FLBelow)
theorem at_FLLoad {b : Bs} {f : Addr} {fd : FuncData} (F : FunD b.K "_law_load" "_law_load" (defArgs (top 64)) (bodyOf 64) (scOf 64) [] [] f fd) (g : b.mg "_law_load" = some (.ref f)) (h_FLShare : FLShare b) (h_FLPlus : FLPlus b) (h_FLBy : FLBy b) : FLLoad b :=
  mk_fn F g (ps := ["_law_world_here", "_law_heavy_here", "_law_key"]) ⟨rfl, rfl, rfl, by decide +kernel, rfl, by decide +kernel, by decide +kernel⟩ rfl (fun _ _ _ _ _ _ us hl => match us, hl with | [_, _, _], _ => rfl) (xf_lload h_FLShare h_FLPlus h_FLBy)
theorem at_FKeys {b : Bs} {f : Addr} {fd : FuncData} (F : FunD b.K "_law_keys" "_law_keys" (defArgs (top 65)) (bodyOf 65) (scOf 65) [] [] f fd) (g : b.mg "_law_keys" = some (.ref f)) (B : Bt b) : FKeys b :=
  mk_fn F g (ps := ["_law_many"]) ⟨rfl, rfl, rfl, by decide +kernel, rfl, by decide +kernel, by decide +kernel⟩ rfl (fun _ _ _ _ _ _ us hl => match us, hl with | [_], _ => rfl) (xf_keys B)
theorem at_FHeavy {b : Bs} {f : Addr} {fd : FuncData} (F : FunD b.K "_law_heavy" "_law_heavy" (defArgs (top 66)) (bodyOf 66) (scOf 66) [] [] f fd) (g : b.mg "_law_heavy" = some (.ref f)) (B : Bt b) (h_FLCut : FLCut b) : FHeavy b :=
  mk_fn F g (ps := ["_law_digits_here", "_law_world_here"]) ⟨rfl, rfl, rfl, by decide +kernel, rfl, by decide +kernel, by decide +kernel⟩ rfl (fun _ _ _ _ _ _ us hl => match us, hl with | [_, _], _ => rfl) (xf_heavy B h_FLCut)
theorem at_FWorld {b : Bs} {f : Addr} {fd : FuncData} (F : FunD b.K "_law_world" "_law_world" (defArgs (top 67)) (bodyOf 67) (scOf 67) [] [] f fd) (g : b.mg "_law_world" = some (.ref f)) (B : Bt b) (h_FHeavy : FHeavy b) (h_FLLoad : FLLoad b) (h_FLPlus : FLPlus b) : FWorld b :=
  mk_fn F g (ps := ["_law_digits_here", "_law_most"]) ⟨rfl, rfl, rfl, by decide +kernel, rfl, by decide +kernel, by decide +kernel⟩ rfl (fun _ _ _ _ _ _ us hl => match us, hl with | [_, _], _ => rfl) (xf_world B h_FHeavy h_FLLoad h_FLPlus)
theorem at_FMade {b : Bs} {C : Addr} {f : Addr} {fd : FuncData} (F : FunD b.K "_law_made" "_law_made" (defArgs (top 68)) (bodyOf 68) (scOf 68) [] [] f fd) (g : b.mg "_law_made" = some (.ref f)) (B : Bt b) (hPlank : MPk b C) : FMade b C :=
  mk_fn F g (ps := ["_law_world_here"]) ⟨rfl, rfl, rfl, by decide +kernel, rfl, by decide +kernel, by decide +kernel⟩ rfl (fun _ _ _ _ _ _ us hl => match us, hl with | [_], _ => rfl) (xf_made B hPlank)
theorem at_FSpares {b : Bs} {f : Addr} {fd : FuncData} (F : FunD b.K "_law_spares" "_law_spares" (defArgs (top 69)) (bodyOf 69) (scOf 69) [] [] f fd) (g : b.mg "_law_spares" = some (.ref f)) (B : Bt b) (h_FKeys : FKeys b) (h_FLMinus : FLMinus b) (h_FLLoad : FLLoad b) : FSpares b :=
  mk_fn F g (ps := ["_law_world_here", "_law_heavy_here"]) ⟨rfl, rfl, rfl, by decide +kernel, rfl, by decide +kernel, by decide +kernel⟩ rfl (fun _ _ _ _ _ _ us hl => match us, hl with | [_, _], _ => rfl) (xf_spares B h_FKeys h_FLMinus h_FLLoad)
theorem at_FLying {b : Bs} {f : Addr} {fd : FuncData} (F : FunD b.K "_law_lying" "_law_lying" (defArgs (top 74)) (bodyOf 74) (scOf 74) [] [] f fd) (g : b.mg "_law_lying" = some (.ref f)) (B : Bt b) (h_FKeys : FKeys b) (h_FLLoad : FLLoad b) : FLying b :=
  mk_fn F g (ps := ["_law_world_here", "_law_heavy_here"]) ⟨rfl, rfl, rfl, by decide +kernel, rfl, by decide +kernel, by decide +kernel⟩ rfl (fun _ _ _ _ _ _ us hl => match us, hl with | [_, _], _ => rfl) (xf_lying B h_FKeys h_FLLoad)
theorem at_FBeside {b : Bs} {f : Addr} {fd : FuncData} (F : FunD b.K "_law_beside" "_law_beside" (defArgs (top 71)) (bodyOf 71) (scOf 71) [] [] f fd) (g : b.mg "_law_beside" = some (.ref f)) (B : Bt b) : FBeside b :=
  mk_fn F g (ps := ["_law_many", "_law_stood_here"]) ⟨rfl, rfl, rfl, by decide +kernel, rfl, by decide +kernel, by decide +kernel⟩ rfl (fun _ _ _ _ _ _ us hl => match us, hl with | [_, _], _ => rfl) (xf_beside B)
theorem at_FGreatest {b : Bs} {f : Addr} {fd : FuncData} (F : FunD b.K "_law_greatest" "_law_greatest" (defArgs (top 70)) (bodyOf 70) (scOf 70) [] [] f fd) (g : b.mg "_law_greatest" = some (.ref f)) (B : Bt b) : FGreatest b :=
  mk_fn F g (ps := ["_law_many", "_law_fails"]) ⟨rfl, rfl, rfl, by decide +kernel, rfl, by decide +kernel, by decide +kernel⟩ rfl (fun _ _ _ _ _ _ us hl => match us, hl with | [_, _], _ => rfl) (xf_greatest B)
theorem at_FKept {b : Bs} {f : Addr} {fd : FuncData} (F : FunD b.K "_law_kept" "_law_kept" (defArgs (top 72)) (bodyOf 72) (scOf 72) [] [] f fd) (g : b.mg "_law_kept" = some (.ref f)) (B : Bt b) (h_FGreatest : FGreatest b) : FKept b :=
  mk_fn F g (ps := ["_law_spares_here", "_law_many", "_law_held", "_law_gone"]) ⟨rfl, rfl, rfl, by decide +kernel, rfl, by decide +kernel, by decide +kernel⟩ rfl (fun _ _ _ _ _ _ us hl => match us, hl with | [_, _, _, _], _ => rfl) (xf_kept B h_FGreatest)
theorem at_FStood {b : Bs} {f : Addr} {fd : FuncData} (F : FunD b.K "_law_stood" "_law_stood" (defArgs (top 75)) (bodyOf 75) (scOf 75) [] [] f fd) (g : b.mg "_law_stood" = some (.ref f)) (B : Bt b) (h_FGreatest : FGreatest b) (h_FLBelow : FLBelow b) : FStood b :=
  mk_fn F g (ps := ["_law_world_here", "_law_lying_here", "_law_strong"]) ⟨rfl, rfl, rfl, by decide +kernel, rfl, by decide +kernel, by decide +kernel⟩ rfl (fun _ _ _ _ _ _ us hl => match us, hl with | [_, _, _], _ => rfl) (xf_stood B h_FGreatest h_FLBelow)
theorem at_FOnL {b : Bs} {f : Addr} {fd : FuncData} (F : FunD b.K "_law_on" "_law_on" (defArgs (top 73)) (bodyOf 73) (scOf 73) [] [] f fd) (g : b.mg "_law_on" = some (.ref f)) (B : Bt b) (h_FBeside : FBeside b) (h_FLLoad : FLLoad b) : FOnL b :=
  mk_fn F g (ps := ["_law_world_here", "_law_heavy_here", "_law_stood_here", "_law_prop"]) ⟨rfl, rfl, rfl, by decide +kernel, rfl, by decide +kernel, by decide +kernel⟩ rfl (fun _ _ _ _ _ _ us hl => match us, hl with | [_, _, _, _], _ => rfl) (xf_onL B h_FBeside h_FLLoad)
theorem at_FTables {b : Bs} {f : Addr} {fd : FuncData} (F : FunD b.K "_law_tables" "_law_tables" (defArgs (top 76)) (bodyOf 76) (scOf 76) [] [] f fd) (g : b.mg "_law_tables" = some (.ref f)) (B : Bt b) (h_FSpares : FSpares b) : FTables b :=
  mk_fn F g (ps := ["_law_world_here", "_law_loadings"]) ⟨rfl, rfl, rfl, by decide +kernel, rfl, by decide +kernel, by decide +kernel⟩ rfl (fun _ _ _ _ _ _ us hl => match us, hl with | [_, _], _ => rfl) (xf_tables B h_FSpares)
theorem at_FOverL {b : Bs} {f : Addr} {fd : FuncData} (F : FunD b.K "_law_over" "_law_over" (defArgs (top 79)) (bodyOf 79) (scOf 79) [] [] f fd) (g : b.mg "_law_over" = some (.ref f)) (B : Bt b) (h_FBeside : FBeside b) (h_FLBelow : FLBelow b) : FOverL b :=
  mk_fn F g (ps := ["_law_many", "_law_lying_here", "_law_strong", "_law_stood_here"]) ⟨rfl, rfl, rfl, by decide +kernel, rfl, by decide +kernel, by decide +kernel⟩ rfl (fun _ _ _ _ _ _ us hl => match us, hl with | [_, _, _, _], _ => rfl) (xf_overL B h_FBeside h_FLBelow)
theorem at_FUnder {b : Bs} {f : Addr} {fd : FuncData} (F : FunD b.K "_law_under_all" "_law_under_all" (defArgs (top 77)) (bodyOf 77) (scOf 77) [] [] f fd) (g : b.mg "_law_under_all" = some (.ref f)) (B : Bt b) (h_FGreatest : FGreatest b) : FUnder b :=
  mk_fn F g (ps := ["_law_tables_here", "_law_many", "_law_held"]) ⟨rfl, rfl, rfl, by decide +kernel, rfl, by decide +kernel, by decide +kernel⟩ rfl (fun _ _ _ _ _ _ us hl => match us, hl with | [_, _, _], _ => rfl) (xf_under B h_FGreatest)
theorem at_FAsked {b : Bs} {f : Addr} {fd : FuncData} (F : FunD b.K "_law_asked" "_law_asked" (defArgs (top 78)) (bodyOf 78) (scOf 78) [] [] f fd) (g : b.mg "_law_asked" = some (.ref f)) (B : Bt b) (h_FOnL : FOnL b) (h_FLBelow : FLBelow b) : FAsked b :=
  mk_fn F g (ps := ["_law_world_here", "_law_loadings", "_law_lots", "_law_prop"]) ⟨rfl, rfl, rfl, by decide +kernel, rfl, by decide +kernel, by decide +kernel⟩ rfl (fun _ _ _ _ _ _ us hl => match us, hl with | [_, _, _, _], _ => rfl) (xf_asked B h_FOnL h_FLBelow)
theorem at_FWith {b : Bs} {f : Addr} {fd : FuncData} (F : FunD b.K "_law_with" "_law_with" (defArgs (top 81)) (bodyOf 81) (scOf 81) [] [] f fd) (g : b.mg "_law_with" = some (.ref f)) (B : Bt b) : FWith b :=
  mk_fn F g (ps := ["_law_world_here", "_law_told", "_law_prop", "_law_much"]) ⟨rfl, rfl, rfl, by decide +kernel, rfl, by decide +kernel, by decide +kernel⟩ rfl (fun _ _ _ _ _ _ us hl => match us, hl with | [_, _, _, _], _ => rfl) (xf_with B)
theorem at_FWorn {b : Bs} {f : Addr} {fd : FuncData} (F : FunD b.K "_law_worn" "_law_worn" (defArgs (top 80)) (bodyOf 80) (scOf 80) [] [] f fd) (g : b.mg "_law_worn" = some (.ref f)) (B : Bt b) (h_FOverL : FOverL b) : FWorn b :=
  mk_fn F g (ps := ["_law_digits_here", "_law_many", "_law_sheets", "_law_strong"]) ⟨rfl, rfl, rfl, by decide +kernel, rfl, by decide +kernel, by decide +kernel⟩ rfl (fun _ _ _ _ _ _ us hl => match us, hl with | [_, _, _, _], _ => rfl) (xf_worn B h_FOverL)
theorem at_FRight {b : Bs} {C D : Addr} {f : Addr} {fd : FuncData} (F : FunD b.K "_law_right" "_law_right" (defArgs (top 82)) (bodyOf 82) (scOf 82) [] [] f fd) (g : b.mg "_law_right" = some (.ref f)) (B : Bt b) (h_FTables : FTables b) (h_FLying : FLying b) (h_FKept : FKept b) (h_FAsked : FAsked b) (h_FFair : FFair b C D) (h_FLMinus : FLMinus b) (h_FWith : FWith b) (h_FStood : FStood b) (h_FUnder : FUnder b) (h_FSteady : FSteady b C D) (h_FLBelow : FLBelow b) (h_FWorn : FWorn b) : FRight b C :=
  mk_fn F g (ps := ["_law_digits_here", "_law_world_here", "_law_plank", "_law_loadings", "_law_some"]) ⟨rfl, rfl, rfl, by decide +kernel, rfl, by decide +kernel, by decide +kernel⟩ rfl (fun _ _ _ _ _ _ us hl => match us, hl with | [_, _, _, _, _], _ => rfl) (xf_right B h_FTables h_FLying h_FKept h_FAsked h_FFair h_FLMinus h_FWith h_FStood h_FUnder h_FSteady h_FLBelow h_FWorn)
theorem at_FLaw {b : Bs} {C : Addr} {f : Addr} {fd : FuncData} (F : FunD b.K "law" "law" (defArgs (top 83)) (bodyOf 83) (scOf 83) [] [] f fd) (g : b.mg "law" = some (.ref f)) (B : Bt b) (h_FCell : FCell b) (h_FDigits : FDigits b) (h_FWorld : FWorld b) (h_FMade : FMade b C) (h_FHeavy : FHeavy b) (h_FRight : FRight b C) : FLaw b :=
  mk_fn F g (ps := ["_law_script"]) ⟨rfl, rfl, rfl, by decide +kernel, rfl, by decide +kernel, by decide +kernel⟩ rfl (fun _ _ _ _ _ _ us hl => match us, hl with | [_], _ => rfl) (xf_law B rf_of h_FCell h_FDigits h_FWorld h_FMade h_FHeavy h_FRight)
end Pf
set_option maxHeartbeats 0
namespace Pf
open PySem PySem.Spec PyProof.Rows L2 Lg Ra
/-- what the head leaves behind, as this text names it -/
structure Zs (b : Bs) (h : Heap) : Prop where
  X : b.K.In h
  G : h.Ns mainGlobals b.mg
  c : He.SaysD Hd.fa Hd.fn b.K
  t : Hd.tk b.K = true
abbrev cP (b : Bs) : Addr := He.ga b.K "Plank"
abbrev cL (b : Bs) : Addr := He.ga b.K "Loads"
section
variable {b : Bs} {h : Heap}
theorem z_Bt (Z : Zs b h) : Bt b where
  abs := He.free_ok Z.X Z.G (Z.c.fact 0 (f := .free "abs") rfl)
  all := He.free_ok Z.X Z.G (Z.c.fact 1 (f := .free "all") rfl)
  any := He.free_ok Z.X Z.G (Z.c.fact 2 (f := .free "any") rfl)
  dict := He.free_ok Z.X Z.G (Z.c.fact 3 (f := .free "dict") rfl)
  enumerate := He.free_ok Z.X Z.G (Z.c.fact 4 (f := .free "enumerate") rfl)
  int := He.free_ok Z.X Z.G (Z.c.fact 5 (f := .free "int") rfl)
  bool := He.free_ok Z.X Z.G (Z.c.fact 6 (f := .free "bool") rfl)
  isinstance := He.free_ok Z.X Z.G (Z.c.fact 7 (f := .free "isinstance") rfl)
  len := He.free_ok Z.X Z.G (Z.c.fact 8 (f := .free "len") rfl)
  list := He.free_ok Z.X Z.G (Z.c.fact 9 (f := .free "list") rfl)
  max := He.free_ok Z.X Z.G (Z.c.fact 10 (f := .free "max") rfl)
  min := He.free_ok Z.X Z.G (Z.c.fact 11 (f := .free "min") rfl)
  range := He.free_ok Z.X Z.G (Z.c.fact 12 (f := .free "range") rfl)
  set := He.free_ok Z.X Z.G (Z.c.fact 13 (f := .free "set") rfl)
  sorted := He.free_ok Z.X Z.G (Z.c.fact 14 (f := .free "sorted") rfl)
  sum := He.free_ok Z.X Z.G (Z.c.fact 15 (f := .free "sum") rfl)
  tuple := He.free_ok Z.X Z.G (Z.c.fact 16 (f := .free "tuple") rfl)
  zip := He.free_ok Z.X Z.G (Z.c.fact 17 (f := .free "zip") rfl)
  nought := ⟨_, He.glo_ok Z.X Z.G (Z.c.fact 22 (f := .glo "NOUGHT") rfl), fun H => He.tupB_ok (He.ba Z.t).1 H⟩
  one := ⟨_, He.glo_ok Z.X Z.G (Z.c.fact 23 (f := .glo "ONE") rfl), fun H => He.tupB_ok (He.ba Z.t).2 H⟩
  left := He.int_ok Z.X Z.G (Z.c.fact 18 (f := .int "LEFT_WALL" (-1)) rfl)
  mlen := He.int_ok Z.X Z.G (Z.c.fact 19 (f := .int "MOST_LENGTH" 1000) rfl)
  mprops := He.int_ok Z.X Z.G (Z.c.fact 20 (f := .int "MOST_PROPS" 12) rfl)
  mload := He.int_ok Z.X Z.G (Z.c.fact 21 (f := .int "MOST_LOADINGS" 8) rfl)
theorem z_PkC (Z : Zs b h) : PkC b (cP b) where
  cl := He.cls_ok (Z.c.fact 24 (f := .cls "Plank") rfl)
  nLong := He.noat_ok (Z.c.fact 28 (f := .noat "Plank" "long") rfl)
  nStakes := He.noat_ok (Z.c.fact 29 (f := .noat "Plank" "stakes") rfl)
  nLimit := He.noat_ok (Z.c.fact 30 (f := .noat "Plank" "limit") rfl)
theorem z_LdC (Z : Zs b h) : LdC b (cL b) where
  cl := He.cls_ok (Z.c.fact 25 (f := .cls "Loads") rfl)
  nPlank := He.noat_ok (Z.c.fact 31 (f := .noat "Loads" "plank") rfl)
  nWeights := He.noat_ok (Z.c.fact 32 (f := .noat "Loads" "weights") rfl)
  nKnown := He.noat_ok (Z.c.fact 33 (f := .noat "Loads" "known") rfl)
  nOver := He.noat_ok (Z.c.fact 34 (f := .noat "Loads" "over") rfl)
theorem z_FDivisor (Z : Zs b h) : FDivisor b := by
  obtain ⟨fd, F⟩ := Z.c.def_ 1 (d := ⟨("divisor", none), "divisor", "divisor", defArgs (top 11), bodyOf 11, scOf 11, [], []⟩) rfl
  exact at_FDivisor F (He.glo_ok Z.X Z.G (Z.c.fact 42 (f := .glo "divisor") rfl))
theorem z_FCut (Z : Zs b h) : FCut b := by
  obtain ⟨fd, F⟩ := Z.c.def_ 2 (d := ⟨("cut", none), "cut", "cut", defArgs (top 12), bodyOf 12, scOf 12, [], []⟩) rfl
  exact at_FCut F (He.glo_ok Z.X Z.G (Z.c.fact 43 (f := .glo "cut") rfl)) (z_Bt Z) (z_FDivisor Z)
theorem z_FPlus (Z : Zs b h) : FPlus b := by
  obtain ⟨fd, F⟩ := Z.c.def_ 5 (d := ⟨("plus", none), "plus", "plus", defArgs (top 15), bodyOf 15, scOf 15, [], []⟩) rfl
  exact at_FPlus F (He.glo_ok Z.X Z.G (Z.c.fact 46 (f := .glo "plus") rfl)) (z_FCut Z)
theorem z_FLess (Z : Zs b h) : FLess b := by
  obtain ⟨fd, F⟩ := Z.c.def_ 6 (d := ⟨("less", none), "less", "less", defArgs (top 16), bodyOf 16, scOf 16, [], []⟩) rfl
  exact at_FLess F (He.glo_ok Z.X Z.G (Z.c.fact 47 (f := .glo "less") rfl)) (z_FCut Z)
theorem z_FTimes (Z : Zs b h) : FTimes b := by
  obtain ⟨fd, F⟩ := Z.c.def_ 7 (d := ⟨("times", none), "times", "times", defArgs (top 17), bodyOf 17, scOf 17, [], []⟩) rfl
  exact at_FTimes F (He.glo_ok Z.X Z.G (Z.c.fact 48 (f := .glo "times") rfl)) (z_FCut Z)
theorem z_FOver (Z : Zs b h) : FOver b := by
  obtain ⟨fd, F⟩ := Z.c.def_ 8 (d := ⟨("over", none), "over", "over", defArgs (top 18), bodyOf 18, scOf 18, [], []⟩) rfl
  exact at_FOver F (He.glo_ok Z.X Z.G (Z.c.fact 49 (f := .glo "over") rfl)) (z_FCut Z)
theorem z_FBelow (Z : Zs b h) : FBelow b := by
  obtain ⟨fd, F⟩ := Z.c.def_ 9 (d := ⟨("is_below", none), "is_below", "is_below", defArgs (top 19), bodyOf 19, scOf 19, [], []⟩) rfl
  exact at_FBelow F (He.glo_ok Z.X Z.G (Z.c.fact 50 (f := .glo "is_below") rfl))
theorem z_FWhole (Z : Zs b h) : FWhole b := by
  obtain ⟨fd, F⟩ := Z.c.def_ 4 (d := ⟨("whole", none), "whole", "whole", defArgs (top 14), bodyOf 14, scOf 14, [], []⟩) rfl
  exact at_FWhole F (He.glo_ok Z.X Z.G (Z.c.fact 45 (f := .glo "whole") rfl))
theorem z_FIsWhole (Z : Zs b h) : FIsWhole b := by
  obtain ⟨fd, F⟩ := Z.c.def_ 0 (d := ⟨("is_whole", none), "is_whole", "is_whole", defArgs (top 10), bodyOf 10, scOf 10, [], []⟩) rfl
  exact at_FIsWhole F (He.glo_ok Z.X Z.G (Z.c.fact 41 (f := .glo "is_whole") rfl)) (z_Bt Z)
theorem z_FIsFr (Z : Zs b h) : FIsFr b := by
  obtain ⟨fd, F⟩ := Z.c.def_ 3 (d := ⟨("is_fraction", none), "is_fraction", "is_fraction", defArgs (top 13), bodyOf 13, scOf 13, [], []⟩) rfl
  exact at_FIsFr F (He.glo_ok Z.X Z.G (Z.c.fact 44 (f := .glo "is_fraction") rfl)) (z_Bt Z) (z_FIsWhole Z) (z_FDivisor Z)
theorem z_FSum (Z : Zs b h) : FSum b := by
  obtain ⟨fd, F⟩ := Z.c.def_ 10 (d := ⟨("sum_of", none), "sum_of", "sum_of", defArgs (top 20), bodyOf 20, scOf 20, [], []⟩) rfl
  exact at_FSum F (He.glo_ok Z.X Z.G (Z.c.fact 51 (f := .glo "sum_of") rfl)) (z_Bt Z) (z_FPlus Z)
theorem z_FMeas (Z : Zs b h) : FMeas b := by
  obtain ⟨fd, F⟩ := Z.c.def_ 11 (d := ⟨("is_measure", none), "is_measure", "is_measure", defArgs (top 25), bodyOf 25, scOf 25, [], []⟩) rfl
  exact at_FMeas F (He.glo_ok Z.X Z.G (Z.c.fact 52 (f := .glo "is_measure") rfl)) (z_Bt Z) (z_FIsFr Z) (z_FBelow Z)
theorem z_FProp (Z : Zs b h) : FProp b := by
  obtain ⟨fd, F⟩ := Z.c.def_ 12 (d := ⟨("is_prop", none), "is_prop", "is_prop", defArgs (top 26), bodyOf 26, scOf 26, [], []⟩) rfl
  exact at_FProp F (He.glo_ok Z.X Z.G (Z.c.fact 53 (f := .glo "is_prop") rfl)) (z_Bt Z) (z_FIsWhole Z) (z_FMeas Z)
theorem z_FProps (Z : Zs b h) : FProps b := by
  obtain ⟨fd, F⟩ := Z.c.def_ 13 (d := ⟨("are_props", none), "are_props", "are_props", defArgs (top 27), bodyOf 27, scOf 27, [], []⟩) rfl
  exact at_FProps F (He.glo_ok Z.X Z.G (Z.c.fact 54 (f := .glo "are_props") rfl)) (z_Bt Z) (z_FProp Z)
theorem z_FCount (Z : Zs b h) : FCount b (cP b) := by
  obtain ⟨fd, F⟩ := Z.c.def_ 16 (d := ⟨("Plank", some "count"), "count", "Plank.count", defArgs (inClass (top 28) 5), mBody 28 5, mSc 28 5, [], []⟩) rfl
  exact at_FCount F (He.cls_ok (Z.c.fact 24 (f := .cls "Plank") rfl)) (He.meth_ok (Z.c.fact 36 (f := .meth "Plank" "count") rfl)) (z_Bt Z) (z_PkC Z)
theorem z_FLength (Z : Zs b h) : FLength b (cP b) := by
  obtain ⟨fd, F⟩ := Z.c.def_ 15 (d := ⟨("Plank", some "length"), "length", "Plank.length", defArgs (inClass (top 28) 2), mBody 28 2, mSc 28 2, [], []⟩) rfl
  exact at_FLength F (He.cls_ok (Z.c.fact 24 (f := .cls "Plank") rfl)) (He.meth_ok (Z.c.fact 35 (f := .meth "Plank" "length") rfl)) (z_Bt Z) (z_PkC Z)
theorem z_FPlace (Z : Zs b h) : FPlace b (cP b) := by
  obtain ⟨fd, F⟩ := Z.c.def_ 17 (d := ⟨("Plank", some "place_of"), "place_of", "Plank.place_of", defArgs (inClass (top 28) 6), mBody 28 6, mSc 28 6, [], []⟩) rfl
  exact at_FPlace F (He.cls_ok (Z.c.fact 24 (f := .cls "Plank") rfl)) (He.meth_ok (Z.c.fact 37 (f := .meth "Plank" "place_of") rfl)) (z_Bt Z) (z_PkC Z) (z_FIsWhole Z) (z_FCount Z)
theorem z_FIsLot (Z : Zs b h) : FIsLot b (cP b) := by
  obtain ⟨fd, F⟩ := Z.c.def_ 18 (d := ⟨("is_lot", none), "is_lot", "is_lot", defArgs (top 29), bodyOf 29, scOf 29, [], []⟩) rfl
  exact at_FIsLot F (He.glo_ok Z.X Z.G (Z.c.fact 55 (f := .glo "is_lot") rfl)) (z_Bt Z) (z_FIsWhole Z) (z_FCount Z)
theorem z_FLotOf (Z : Zs b h) : FLotOf b (cP b) := by
  obtain ⟨fd, F⟩ := Z.c.def_ 19 (d := ⟨("lot_of", none), "lot_of", "lot_of", defArgs (top 30), bodyOf 30, scOf 30, [], []⟩) rfl
  exact at_FLotOf F (He.glo_ok Z.X Z.G (Z.c.fact 56 (f := .glo "lot_of") rfl)) (z_Bt Z) (z_FCount Z)
theorem z_FRests (Z : Zs b h) : FRests b (cP b) := by
  obtain ⟨fd, F⟩ := Z.c.def_ 20 (d := ⟨("rests_of", none), "rests_of", "rests_of", defArgs (top 31), bodyOf 31, scOf 31, [], []⟩) rfl
  exact at_FRests F (He.glo_ok Z.X Z.G (Z.c.fact 57 (f := .glo "rests_of") rfl)) (z_Bt Z) (z_FCount Z)
theorem z_FSpot (Z : Zs b h) : FSpot b (cP b) := by
  obtain ⟨fd, F⟩ := Z.c.def_ 21 (d := ⟨("is_spot", none), "is_spot", "is_spot", defArgs (top 33), bodyOf 33, scOf 33, [], []⟩) rfl
  exact at_FSpot F (He.glo_ok Z.X Z.G (Z.c.fact 58 (f := .glo "is_spot") rfl)) (z_FMeas Z) (z_FBelow Z) (z_FWhole Z) (z_FLength Z)
theorem z_FWeight (Z : Zs b h) : FWeight b (cP b) := by
  obtain ⟨fd, F⟩ := Z.c.def_ 22 (d := ⟨("is_weight", none), "is_weight", "is_weight", defArgs (top 34), bodyOf 34, scOf 34, [], []⟩) rfl
  exact at_FWeight F (He.glo_ok Z.X Z.G (Z.c.fact 59 (f := .glo "is_weight") rfl)) (z_Bt Z) (z_FBelow Z) (z_FIsFr Z) (z_FSpot Z)
theorem z_FSlope (Z : Zs b h) : FSlope b := by
  obtain ⟨fd, F⟩ := Z.c.def_ 23 (d := ⟨("slope", none), "slope", "slope", defArgs (top 35), bodyOf 35, scOf 35, [], []⟩) rfl
  exact at_FSlope F (He.glo_ok Z.X Z.G (Z.c.fact 60 (f := .glo "slope") rfl)) (z_FOver Z) (z_FLess Z) (z_FWhole Z)
theorem z_FShare (Z : Zs b h) : FShare b (cP b) (cL b) := by
  obtain ⟨fd, F⟩ := Z.c.def_ 25 (d := ⟨("Loads", some "share"), "share", "Loads.share", defArgs (inClass (top 36) 1), mBody 36 1, mSc 36 1, [], []⟩) rfl
  exact at_FShare F (He.cls_ok (Z.c.fact 25 (f := .cls "Loads") rfl)) (He.meth_ok (Z.c.fact 38 (f := .meth "Loads" "share") rfl)) (z_Bt Z) (z_LdC Z) (z_FCount Z) (z_FPlace Z) (z_FBelow Z) (z_FLess Z) (z_FSlope Z) (z_FWhole Z)
theorem z_FLies (Z : Zs b h) : FLies b (cP b) (cL b) := by
  obtain ⟨fd, F⟩ := Z.c.def_ 26 (d := ⟨("Loads", some "lies_on"), "lies_on", "Loads.lies_on", defArgs (inClass (top 36) 2), mBody 36 2, mSc 36 2, [], []⟩) rfl
  exact at_FLies F (He.cls_ok (Z.c.fact 25 (f := .cls "Loads") rfl)) (He.meth_ok (Z.c.fact 39 (f := .meth "Loads" "lies_on") rfl)) (z_Bt Z) (z_LdC Z) (z_FTimes Z) (z_FShare Z) (z_FSum Z)
theorem z_FOverlaid (Z : Zs b h) : FOverlaid b (cP b) (cL b) := by
  obtain ⟨fd, F⟩ := Z.c.def_ 27 (d := ⟨("Loads", some "is_overlaid"), "is_overlaid", "Loads.is_overlaid", defArgs (inClass (top 36) 3), mBody 36 3, mSc 36 3, [], []⟩) rfl
  exact at_FOverlaid F (He.cls_ok (Z.c.fact 25 (f := .cls "Loads") rfl)) (He.meth_ok (Z.c.fact 40 (f := .meth "Loads" "is_overlaid") rfl)) (z_Bt Z) (z_PkC Z) (z_LdC Z) (z_FBelow Z) (z_FLies Z)
theorem z_FBetween (Z : Zs b h) : FBetween b (cP b) (cL b) := by
  obtain ⟨fd, F⟩ := Z.c.def_ 28 (d := ⟨("overlaid_between", none), "overlaid_between", "overlaid_between", defArgs (top 38), bodyOf 38, scOf 38, [], []⟩) rfl
  exact at_FBetween F (He.glo_ok Z.X Z.G (Z.c.fact 61 (f := .glo "overlaid_between") rfl)) (z_Bt Z) (z_FOverlaid Z)
theorem z_FWithout (Z : Zs b h) : FWithout b := by
  obtain ⟨fd, F⟩ := Z.c.def_ 29 (d := ⟨("without", none), "without", "without", defArgs (top 39), bodyOf 39, scOf 39, [], []⟩) rfl
  exact at_FWithout F (He.glo_ok Z.X Z.G (Z.c.fact 62 (f := .glo "without") rfl)) (z_Bt Z)
theorem z_FOvl (Z : Zs b h) : FOvl b (cP b) (cL b) := by
  obtain ⟨fd, F⟩ := Z.c.def_ 30 (d := ⟨("overlaid", none), "overlaid", "overlaid", defArgs (top 40), bodyOf 40, scOf 40, [], []⟩) rfl
  exact at_FOvl F (He.glo_ok Z.X Z.G (Z.c.fact 63 (f := .glo "overlaid") rfl)) (z_Bt Z) (z_LdC Z) (z_FBetween Z) (z_FCount Z)
theorem z_FSides (Z : Zs b h) : FSides b (cP b) := by
  obtain ⟨fd, F⟩ := Z.c.def_ 31 (d := ⟨("with_sides", none), "with_sides", "with_sides", defArgs (top 42), bodyOf 42, scOf 42, [], []⟩) rfl
  exact at_FSides F (He.glo_ok Z.X Z.G (Z.c.fact 64 (f := .glo "with_sides") rfl)) (z_Bt Z) (z_FRests Z)
theorem z_FWeak (Z : Zs b h) : FWeak b (cP b) (cL b) := by
  obtain ⟨fd, F⟩ := Z.c.def_ 32 (d := ⟨("weak_ones", none), "weak_ones", "weak_ones", defArgs (top 45), bodyOf 45, scOf 45, [], []⟩) rfl
  exact at_FWeak F (He.glo_ok Z.X Z.G (Z.c.fact 65 (f := .glo "weak_ones") rfl)) (z_Bt Z) (z_FOvl Z)
theorem z_FSettle (Z : Zs b h) : FSettle b (cP b) (cL b) := by
  obtain ⟨fd, F⟩ := Z.c.def_ 33 (d := ⟨("settled_but", none), "settled_but", "settled_but", defArgs (top 46), bodyOf 46, scOf 46, [], []⟩) rfl
  exact at_FSettle F (He.glo_ok Z.X Z.G (Z.c.fact 66 (f := .glo "settled_but") rfl)) (z_Bt Z) (z_FWeak Z) (z_FWithout Z)
theorem z_FLoadIn (Z : Zs b h) : FLoadIn b (cP b) (cL b) := by
  obtain ⟨fd, F⟩ := Z.c.def_ 34 (d := ⟨("load_in", none), "load_in", "load_in", defArgs (top 47), bodyOf 47, scOf 47, [], []⟩) rfl
  exact at_FLoadIn F (He.glo_ok Z.X Z.G (Z.c.fact 67 (f := .glo "load_in") rfl)) (z_LdC Z) (z_FSides Z) (z_FLies Z)
theorem z_FCheck (Z : Zs b h) : FCheck b (cP b) := by
  obtain ⟨fd, F⟩ := Z.c.def_ 35 (d := ⟨("check_some", none), "check_some", "check_some", defArgs (top 48), bodyOf 48, scOf 48, [], []⟩) rfl
  exact at_FCheck F (He.glo_ok Z.X Z.G (Z.c.fact 68 (f := .glo "check_some") rfl)) (z_FIsLot Z)
theorem z_FCorner (Z : Zs b h) : FCorner b (cP b) (cL b) := by
  obtain ⟨fd, F⟩ := Z.c.def_ 36 (d := ⟨("corner_of", none), "corner_of", "corner_of", defArgs (top 49), bodyOf 49, scOf 49, [], []⟩) rfl
  exact at_FCorner F (He.glo_ok Z.X Z.G (Z.c.fact 69 (f := .glo "corner_of") rfl)) (z_Bt Z) (z_LdC Z) (z_FSettle Z) (z_FLotOf Z) (z_FLoadIn Z) (z_FBelow Z)
theorem z_FAreW (Z : Zs b h) : FAreW b (cP b) := by
  obtain ⟨fd, F⟩ := Z.c.def_ 37 (d := ⟨("are_weights", none), "are_weights", "are_weights", defArgs (top 50), bodyOf 50, scOf 50, [], []⟩) rfl
  exact at_FAreW F (He.glo_ok Z.X Z.G (Z.c.fact 70 (f := .glo "are_weights") rfl)) (z_Bt Z) (z_FWeight Z)
theorem z_MLd (Z : Zs b h) : MkAt b "Loads" (cL b) [] (spLI b.K (cP b) (cL b)) 1 := by
  obtain ⟨fd, F⟩ := Z.c.def_ 24 (d := ⟨("Loads", some "__init__"), "__init__", "Loads.__init__", defArgs (inClass (top 36) 0), mBody 36 0, mSc 36 0, [], []⟩) rfl
  exact ⟨_, fd, ["self", "plank", "weights"], [], li_ok (z_LdC Z) F ⟨rfl, rfl, rfl, by decide +kernel, rfl, by decide +kernel, by decide +kernel⟩ rfl, (He.glo_ok Z.X Z.G (Z.c.fact 103 (f := .glo "Loads") rfl)), He.mkr_ok (Z.c.fact 27 (f := .mkr "Loads") rfl), F.bindsN (fun _ _ _ _ _ _ us hl => match us, hl with | [_, _, _], _ => rfl), .nil⟩
theorem z_Loadings (Z : Zs b h) : FnAt b "loadings_of" 2 (spLoadings b.K (cP b) (cL b)) 7 := by
  obtain ⟨fd, F⟩ := Z.c.def_ 38 (d := ⟨("loadings_of", none), "loadings_of", "loadings_of", defArgs (top 51), bodyOf 51, scOf 51, [], []⟩) rfl
  exact ⟨_, fd, ["plank", "loadings"], loadings_ok (z_Bt Z) (z_FAreW Z) (z_MLd Z) F ⟨rfl, rfl, rfl, by decide +kernel, rfl, by decide +kernel, by decide +kernel⟩ rfl, (He.glo_ok Z.X Z.G (Z.c.fact 71 (f := .glo "loadings_of") rfl)), F.kp, F.bindsN (fun _ _ _ _ _ _ us hl => match us, hl with | [_, _], _ => rfl)⟩
theorem z_FSteady (Z : Zs b h) : FSteady b (cP b) (cL b) := by
  obtain ⟨fd, F⟩ := Z.c.def_ 40 (d := ⟨("steady", none), "steady", "steady", defArgs (top 53), bodyOf 53, scOf 53, [], []⟩) rfl
  exact at_FSteady F (He.glo_ok Z.X Z.G (Z.c.fact 73 (f := .glo "steady") rfl)) (z_Bt Z) (z_Loadings Z) (z_FCheck Z) (z_FCorner Z)
theorem z_FFair (Z : Zs b h) : FFair b (cP b) (cL b) := by
  obtain ⟨fd, F⟩ := Z.c.def_ 39 (d := ⟨("fair", none), "fair", "fair", defArgs (top 52), bodyOf 52, scOf 52, [], []⟩) rfl
  exact at_FFair F (He.glo_ok Z.X Z.G (Z.c.fact 72 (f := .glo "fair") rfl)) (z_Bt Z) (z_Loadings Z) (z_FCheck Z) (z_FCorner Z) (z_FBelow Z)
theorem z_FCell (Z : Zs b h) : FCell b := by
  obtain ⟨fd, F⟩ := Z.c.def_ 41 (d := ⟨("_law_cell", none), "_law_cell", "_law_cell", defArgs (top 55), bodyOf 55, scOf 55, [], []⟩) rfl
  exact at_FCell F (He.glo_ok Z.X Z.G (Z.c.fact 74 (f := .glo "_law_cell") rfl)) (z_Bt Z)
theorem z_FDigits (Z : Zs b h) : FDigits b := by
  obtain ⟨fd, F⟩ := Z.c.def_ 42 (d := ⟨("_law_digits", none), "_law_digits", "_law_digits", defArgs (top 56), bodyOf 56, scOf 56, [], []⟩) rfl
  exact at_FDigits F (He.glo_ok Z.X Z.G (Z.c.fact 75 (f := .glo "_law_digits") rfl)) (z_Bt Z)
theorem z_FLCut (Z : Zs b h) : FLCut b := by
  obtain ⟨fd, F⟩ := Z.c.def_ 43 (d := ⟨("_law_cut", none), "_law_cut", "_law_cut", defArgs (top 57), bodyOf 57, scOf 57, [], []⟩) rfl
  exact at_FLCut F (He.glo_ok Z.X Z.G (Z.c.fact 76 (f := .glo "_law_cut") rfl)) (z_Bt Z)
theorem z_FLPlus (Z : Zs b h) : FLPlus b := by
  obtain ⟨fd, F⟩ := Z.c.def_ 44 (d := ⟨("_law_plus", none), "_law_plus", "_law_plus", defArgs (top 58), bodyOf 58, scOf 58, [], []⟩) rfl
  exact at_FLPlus F (He.glo_ok Z.X Z.G (Z.c.fact 77 (f := .glo "_law_plus") rfl)) (z_FLCut Z)
theorem z_FLMinus (Z : Zs b h) : FLMinus b := by
  obtain ⟨fd, F⟩ := Z.c.def_ 45 (d := ⟨("_law_minus", none), "_law_minus", "_law_minus", defArgs (top 59), bodyOf 59, scOf 59, [], []⟩) rfl
  exact at_FLMinus F (He.glo_ok Z.X Z.G (Z.c.fact 78 (f := .glo "_law_minus") rfl)) (z_FLCut Z)
theorem z_FLBy (Z : Zs b h) : FLBy b := by
  obtain ⟨fd, F⟩ := Z.c.def_ 46 (d := ⟨("_law_by", none), "_law_by", "_law_by", defArgs (top 60), bodyOf 60, scOf 60, [], []⟩) rfl
  exact at_FLBy F (He.glo_ok Z.X Z.G (Z.c.fact 79 (f := .glo "_law_by") rfl)) (z_FLCut Z)
theorem z_FLBelow (Z : Zs b h) : FLBelow b := by
  obtain ⟨fd, F⟩ := Z.c.def_ 47 (d := ⟨("_law_is_below", none), "_law_is_below", "_law_is_below", defArgs (top 62), bodyOf 62, scOf 62, [], []⟩) rfl
  exact at_FLBelow F (He.glo_ok Z.X Z.G (Z.c.fact 80 (f := .glo "_law_is_below") rfl))
theorem z_FLShare (Z : Zs b h) : FLShare b := by
  obtain ⟨fd, F⟩ := Z.c.def_ 48 (d := ⟨("_law_share", none), "_law_share", "_law_share", defArgs (top 63), bodyOf 63, scOf 63, [], []⟩) rfl
  exact at_FLShare F (He.glo_ok Z.X Z.G (Z.c.fact 81 (f := .glo "_law_share") rfl)) (z_FLCut Z) (z_FLBelow Z)
theorem z_FLLoad (Z : Zs b h) : FLLoad b := by
  obtain ⟨fd, F⟩ := Z.c.def_ 49 (d := ⟨("_law_load", none), "_law_load", "_law_load", defArgs (top 64), bodyOf 64, scOf 64, [], []⟩) rfl
  exact at_FLLoad F (He.glo_ok Z.X Z.G (Z.c.fact 82 (f := .glo "_law_load") rfl)) (z_FLShare Z) (z_FLPlus Z) (z_FLBy Z)
theorem z_FKeys (Z : Zs b h) : FKeys b := by
  obtain ⟨fd, F⟩ := Z.c.def_ 50 (d := ⟨("_law_keys", none), "_law_keys", "_law_keys", defArgs (top 65), bodyOf 65, scOf 65, [], []⟩) rfl
  exact at_FKeys F (He.glo_ok Z.X Z.G (Z.c.fact 83 (f := .glo "_law_keys") rfl)) (z_Bt Z)
theorem z_FHeavy (Z : Zs b h) : FHeavy b := by
  obtain ⟨fd, F⟩ := Z.c.def_ 51 (d := ⟨("_law_heavy", none), "_law_heavy", "_law_heavy", defArgs (top 66), bodyOf 66, scOf 66, [], []⟩) rfl
  exact at_FHeavy F (He.glo_ok Z.X Z.G (Z.c.fact 84 (f := .glo "_law_heavy") rfl)) (z_Bt Z) (z_FLCut Z)
theorem z_FWorld (Z : Zs b h) : FWorld b := by
  obtain ⟨fd, F⟩ := Z.c.def_ 52 (d := ⟨("_law_world", none), "_law_world", "_law_world", defArgs (top 67), bodyOf 67, scOf 67, [], []⟩) rfl
  exact at_FWorld F (He.glo_ok Z.X Z.G (Z.c.fact 85 (f := .glo "_law_world") rfl)) (z_Bt Z) (z_FHeavy Z) (z_FLLoad Z) (z_FLPlus Z)
theorem z_MPk (Z : Zs b h) : MPk b (cP b) := by
  obtain ⟨fd, F⟩ := Z.c.def_ 14 (d := ⟨("Plank", some "__init__"), "__init__", "Plank.__init__", defArgs (inClass (top 28) 0), mBody 28 0, mSc 28 0, [], [("bend", .non)]⟩) rfl
  obtain ⟨ds, hv, hb⟩ := FunD.binds0 (ps := ["self", "length", "props", "bend"]) F 3 (List.cons_ne_nil _ _) rfl (fun _ _ _ _ _ _ us ks h1 h2 => match us, h1, ks, h2 with | [_, _, _], _, [_], _ => ⟨_, _, _, _, _, _, rfl, rfl, rfl⟩)
  exact ⟨_, fd, ["self", "length", "props", "bend"], ds, mk_ok F ⟨rfl, rfl, rfl, by decide +kernel, rfl, by decide +kernel, by decide +kernel⟩ rfl (xf_initP (z_Bt Z) (z_PkC Z) (z_FIsWhole Z) (z_FProps Z)), (He.glo_ok Z.X Z.G (Z.c.fact 102 (f := .glo "Plank") rfl)), He.mkr_ok (Z.c.fact 26 (f := .mkr "Plank") rfl), hb, hv⟩
theorem z_FMade (Z : Zs b h) : FMade b (cP b) := by
  obtain ⟨fd, F⟩ := Z.c.def_ 53 (d := ⟨("_law_made", none), "_law_made", "_law_made", defArgs (top 68), bodyOf 68, scOf 68, [], []⟩) rfl
  exact at_FMade F (He.glo_ok Z.X Z.G (Z.c.fact 86 (f := .glo "_law_made") rfl)) (z_Bt Z) (z_MPk Z)
theorem z_FSpares (Z : Zs b h) : FSpares b := by
  obtain ⟨fd, F⟩ := Z.c.def_ 54 (d := ⟨("_law_spares", none), "_law_spares", "_law_spares", defArgs (top 69), bodyOf 69, scOf 69, [], []⟩) rfl
  exact at_FSpares F (He.glo_ok Z.X Z.G (Z.c.fact 87 (f := .glo "_law_spares") rfl)) (z_Bt Z) (z_FKeys Z) (z_FLMinus Z) (z_FLLoad Z)
theorem z_FLying (Z : Zs b h) : FLying b := by
  obtain ⟨fd, F⟩ := Z.c.def_ 59 (d := ⟨("_law_lying", none), "_law_lying", "_law_lying", defArgs (top 74), bodyOf 74, scOf 74, [], []⟩) rfl
  exact at_FLying F (He.glo_ok Z.X Z.G (Z.c.fact 92 (f := .glo "_law_lying") rfl)) (z_Bt Z) (z_FKeys Z) (z_FLLoad Z)
theorem z_FBeside (Z : Zs b h) : FBeside b := by
  obtain ⟨fd, F⟩ := Z.c.def_ 56 (d := ⟨("_law_beside", none), "_law_beside", "_law_beside", defArgs (top 71), bodyOf 71, scOf 71, [], []⟩) rfl
  exact at_FBeside F (He.glo_ok Z.X Z.G (Z.c.fact 89 (f := .glo "_law_beside") rfl)) (z_Bt Z)
theorem z_FGreatest (Z : Zs b h) : FGreatest b := by
  obtain ⟨fd, F⟩ := Z.c.def_ 55 (d := ⟨("_law_greatest", none), "_law_greatest", "_law_greatest", defArgs (top 70), bodyOf 70, scOf 70, [], []⟩) rfl
  exact at_FGreatest F (He.glo_ok Z.X Z.G (Z.c.fact 88 (f := .glo "_law_greatest") rfl)) (z_Bt Z)
theorem z_FKept (Z : Zs b h) : FKept b := by
  obtain ⟨fd, F⟩ := Z.c.def_ 57 (d := ⟨("_law_kept", none), "_law_kept", "_law_kept", defArgs (top 72), bodyOf 72, scOf 72, [], []⟩) rfl
  exact at_FKept F (He.glo_ok Z.X Z.G (Z.c.fact 90 (f := .glo "_law_kept") rfl)) (z_Bt Z) (z_FGreatest Z)
theorem z_FStood (Z : Zs b h) : FStood b := by
  obtain ⟨fd, F⟩ := Z.c.def_ 60 (d := ⟨("_law_stood", none), "_law_stood", "_law_stood", defArgs (top 75), bodyOf 75, scOf 75, [], []⟩) rfl
  exact at_FStood F (He.glo_ok Z.X Z.G (Z.c.fact 93 (f := .glo "_law_stood") rfl)) (z_Bt Z) (z_FGreatest Z) (z_FLBelow Z)
theorem z_FOnL (Z : Zs b h) : FOnL b := by
  obtain ⟨fd, F⟩ := Z.c.def_ 58 (d := ⟨("_law_on", none), "_law_on", "_law_on", defArgs (top 73), bodyOf 73, scOf 73, [], []⟩) rfl
  exact at_FOnL F (He.glo_ok Z.X Z.G (Z.c.fact 91 (f := .glo "_law_on") rfl)) (z_Bt Z) (z_FBeside Z) (z_FLLoad Z)
theorem z_FTables (Z : Zs b h) : FTables b := by
  obtain ⟨fd, F⟩ := Z.c.def_ 61 (d := ⟨("_law_tables", none), "_law_tables", "_law_tables", defArgs (top 76), bodyOf 76, scOf 76, [], []⟩) rfl
  exact at_FTables F (He.glo_ok Z.X Z.G (Z.c.fact 94 (f := .glo "_law_tables") rfl)) (z_Bt Z) (z_FSpares Z)
theorem z_FOverL (Z : Zs b h) : FOverL b := by
  obtain ⟨fd, F⟩ := Z.c.def_ 64 (d := ⟨("_law_over", none), "_law_over", "_law_over", defArgs (top 79), bodyOf 79, scOf 79, [], []⟩) rfl
  exact at_FOverL F (He.glo_ok Z.X Z.G (Z.c.fact 97 (f := .glo "_law_over") rfl)) (z_Bt Z) (z_FBeside Z) (z_FLBelow Z)
theorem z_FUnder (Z : Zs b h) : FUnder b := by
  obtain ⟨fd, F⟩ := Z.c.def_ 62 (d := ⟨("_law_under_all", none), "_law_under_all", "_law_under_all", defArgs (top 77), bodyOf 77, scOf 77, [], []⟩) rfl
  exact at_FUnder F (He.glo_ok Z.X Z.G (Z.c.fact 95 (f := .glo "_law_under_all") rfl)) (z_Bt Z) (z_FGreatest Z)
theorem z_FAsked (Z : Zs b h) : FAsked b := by
  obtain ⟨fd, F⟩ := Z.c.def_ 63 (d := ⟨("_law_asked", none), "_law_asked", "_law_asked", defArgs (top 78), bodyOf 78, scOf 78, [], []⟩) rfl
  exact at_FAsked F (He.glo_ok Z.X Z.G (Z.c.fact 96 (f := .glo "_law_asked") rfl)) (z_Bt Z) (z_FOnL Z) (z_FLBelow Z)
theorem z_FWith (Z : Zs b h) : FWith b := by
  obtain ⟨fd, F⟩ := Z.c.def_ 66 (d := ⟨("_law_with", none), "_law_with", "_law_with", defArgs (top 81), bodyOf 81, scOf 81, [], []⟩) rfl
  exact at_FWith F (He.glo_ok Z.X Z.G (Z.c.fact 99 (f := .glo "_law_with") rfl)) (z_Bt Z)
theorem z_FWorn (Z : Zs b h) : FWorn b := by
  obtain ⟨fd, F⟩ := Z.c.def_ 65 (d := ⟨("_law_worn", none), "_law_worn", "_law_worn", defArgs (top 80), bodyOf 80, scOf 80, [], []⟩) rfl
  exact at_FWorn F (He.glo_ok Z.X Z.G (Z.c.fact 98 (f := .glo "_law_worn") rfl)) (z_Bt Z) (z_FOverL Z)
theorem z_FRight (Z : Zs b h) : FRight b (cP b) := by
  obtain ⟨fd, F⟩ := Z.c.def_ 67 (d := ⟨("_law_right", none), "_law_right", "_law_right", defArgs (top 82), bodyOf 82, scOf 82, [], []⟩) rfl
  exact at_FRight F (He.glo_ok Z.X Z.G (Z.c.fact 100 (f := .glo "_law_right") rfl)) (z_Bt Z) (z_FTables Z) (z_FLying Z) (z_FKept Z) (z_FAsked Z) (z_FFair Z) (z_FLMinus Z) (z_FWith Z) (z_FStood Z) (z_FUnder Z) (z_FSteady Z) (z_FLBelow Z) (z_FWorn Z)
theorem z_law {f : Addr} {fd : FuncData} (Z : Zs b h) (F : FunD b.K "law" "law" (defArgs (top 83)) (bodyOf 83) (scOf 83) [] [] f fd) : FnOk b.P b.w b.K b.mg b.base CX0 15 f fd ["_law_script"] (spOf 1 (spLaw b.K)) :=
  fn_ok F ⟨rfl, rfl, rfl, by decide +kernel, rfl, by decide +kernel, by decide +kernel⟩ rfl (xf_law (z_Bt Z) rf_of (z_FCell Z) (z_FDigits Z) (z_FWorld Z) (z_FMade Z) (z_FHeavy Z) (z_FRight Z))
end
end Pf

set_option maxHeartbeats 0
namespace Hd
open PySem PySem.Spec PyProof.Rows L2 Lg Pf
theorem told (K : PySem.W.Frag) (H : Hp) (a : Addr) (ns : List Int) (hS : SqL K H a (ns.map V.int)) : spOf 1 (spLaw K) [.ref a] H (fun v _ => v = .bl true) fun _ _ _ => False :=
  ⟨[], H, [tSq K (ns.map tInt)], tBl true, ⟨ns, rfl, rfl, rfl⟩, rfl, ⟨fun _ _ h => h, List.nodup_nil, fun c hc => nomatch hc⟩, ⟨⟨a, _, rfl, hS, TsP_of_ints ns⟩, trivial⟩, fun v H' ⟨Hi', _, t⟩ => t⟩
theorem facts {P : Program} {w : World} {K : PySem.W.Frag} {h : Heap} {mg : Str → Option Value} {f : Addr} (X : K.In h) (G : h.Ns mainGlobals mg) (hfa : mg ("law" : Str) = some (.ref f)) (c : He.SaysD fa fn K) (t : tk K = true) :
    ∃ fd : FuncData, (∀ (s : Shared) (v : Value), BindsTo s fd ⟨[v], []⟩ [("_law_script", v)]) ∧ ∀ base : Heap, K.In base → base.Ns mainGlobals mg → FnOk P w K mg base CX0 15 f fd ["_law_script"] (spOf 1 (spLaw K)) := by
  obtain ⟨fd, F⟩ := c.def_ 68 (d := ⟨("law", none), "law", "law", defArgs (top 83), bodyOf 83, scOf 83, [], []⟩) rfl
  have e := hfa.symm.trans (He.glo_ok X G (c.fact 101 (f := .glo "law") rfl))
  cases e
  have z := FunD.bindsA (ps := ["_law_script"]) F fun _ _ _ _ _ _ us hl => match us, hl with | [_], _ => rfl
  exact ⟨fd, fun s v => z s [v] rfl, fun base _ _ => z_law (b := ⟨P, w, K, mg, base⟩) ⟨X, G, c, t⟩ F⟩
end Hd
open PySem PySem.W PySem.Calls PyProof.Rows
theorem PySem.Challenge.cw_propfall_k54_whole_strengths_for_several_holds : PySem.Challenge.rw_propfall_k54_whole_strengths_for_several.Holds := by
  w_on; o_law
  refine HandSHeadRun.head_any (r := Hd.Rw) (q := view Hd.Rw.prog [83]) (H := Hd.hk) (ob := Hd.ob) (M := 20000) (loose := Hd.lo) (d := HandSHeadRun.topDef Hd.Rw.prog 83) (kwd := []) Hd.ob_eq
    (by kernel_rfl) (fun s => by kernel_rfl) Hd.run (by kernel_rfl) (by kernel_rfl) (by kernel_rfl) (by rfl) (by first | assumption | decide +kernel) (by decide +kernel) ⟨rfl, rfl, rfl, rfl, rfl, by decide +kernel⟩ ?hw ?hc
  case hw => w_witness2
  case hc =>
    refine L2.walk_ofE (l := PySem.Challenge.rw_propfall_k54_whole_strengths_for_several) (n := 63) (k := 15) (x := "_law_script") (CX := L2.CX0) rfl (by decide) (by kernel_rfl) ⟨rfl, by decide, by decide⟩ ?F (fun _ _ _ _ z => z)
    intro w mg fa h Y G hmg0
    obtain ⟨K, KX, c, t⟩ := Y
    have hmg : mg ("law" : PySem.Str) = some (.ref fa) := by
      have e : (HandSHeadRun.topDef Hd.Rw.prog 83).name = ("law" : PySem.Str) := by kernel_rfl
      rw [← e]
      exact hmg0
    obtain ⟨fd, hb, hF⟩ := Hd.facts (P := (PySem.Challenge.rw_propfall_k54_whole_strengths_for_several).prog) (w := w) KX G hmg c t
    exact ⟨K, fd, Lg.spOf 1 (Pf.spLaw K), KX, hb, fun H a ns _ _ hS => Hd.told K H a ns hS, hF⟩

