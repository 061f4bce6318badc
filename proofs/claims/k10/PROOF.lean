import PyProof.Rows.All
import Wide.All
import OpenK.AllK
import Wide.FinOn
import KE.KStateDown
import Lean
import HandS.ForMost
import HandS.ForExc
import HandS.Defaults
import HandS.Walk
import HandS.Zip
import HandS.IsInst
import HandS.Wide
import HandS.TupAny
import HandS.Codes
import HandS.Deep
import HandS.TupMul
import HandS.Style
import KE.GoesMore
import KE.GoesEnum
import HandS.More
import PySem.Challenge.RW_keyswithin_k10_whole_counts_at_any_size
import HandS.Head0
import HandS.Head1
import HandS.Head2
import HandS.HeadEnd
import HandS.HeadHook1
import HandS.HeadHook2
import HandS.HeadHook4
set_option Elab.async false
set_option linter.all false
set_option maxRecDepth 100000
set_option maxHeartbeats 4000000
namespace DL
open PySem PySem.Spec PyProof.Rows L2
/-- the written part that the law's list may stand in -/
class Wr where
  K : PySem.W.Frag
variable [Wr]

abbrev D := PyData

/-! ### heaps that grow -/
def Ex (H H' : Hp) : Prop := ∀ a o, H a = some o → H' a = some o
theorem Ex.refl (H : Hp) : Ex H H := fun _ _ h => h
theorem Ex.trans {H H1 H2 : Hp} (a : Ex H H1) (b : Ex H1 H2) : Ex H H2 := fun x o h => b x o (a x o h)
theorem Ex.new {H : Hp} {p : Addr} {o : HO} (h : H p = none) : Ex H (upd H p o) := fun a u e => by
  rw [upd_ne (ne_of_none e h)]
  exact e
theorem Ex.none {H H' : Hp} (e : Ex H H') {p : Addr} (h : H' p = none) : H p = none := by
  cases q : H p with
  | none => rfl
  | some o => rw [e p o q] at h; cases h

/-! ### data as the shared heap holds them -/
mutual
def Rp (S : Hp) (v : V) : D → Prop
  | .none => v = .non
  | .bool b => v = .bl b
  | .int i => v = .int i
  | .str x => v = .str x
  | .list ds => ∃ a xs, v = .ref a ∧ S a = some (.lst xs) ∧ RpL S xs ds
  | .tuple ds => ∃ a xs, v = .ref a ∧ S a = some (.tup xs) ∧ RpL S xs ds
  | .dict kvs => ∃ (a : Addr), v = .ref a ∧ ((∃ (ns : List Int), kvs = [(.none, .list (ns.map .int))] ∧ SqL Wr.K S a (ns.map V.int)) ∨ kvs = [(.bool true, .int (a : Nat))])
def RpL (S : Hp) (vs : List V) : List D → Prop
  | [] => vs = []
  | d :: ds => ∃ w ws, vs = w :: ws ∧ Rp S w d ∧ RpL S ws ds
end
/-- the script's own list -/
def frzD (ns : List Int) : D := .dict [(.none, .list (ns.map .int))]
/-- an object by its address -/
def adrD (a : Addr) : D := .dict [(.bool true, .int (a : Nat))]
theorem Rp.non {S : Hp} : Rp S .non .none := rfl
theorem Rp.bl {S : Hp} (b : Bool) : Rp S (.bl b) (.bool b) := rfl
theorem Rp.int {S : Hp} (i : Int) : Rp S (.int i) (.int i) := rfl
theorem Rp.str {S : Hp} (x : Str) : Rp S (.str x) (.str x) := rfl
theorem Rp.lst {S : Hp} {a : Addr} {xs : List V} {ds : List D} (h : S a = some (.lst xs)) (r : RpL S xs ds) : Rp S (.ref a) (.list ds) := ⟨a, xs, rfl, h, r⟩
theorem Rp.tup {S : Hp} {a : Addr} {xs : List V} {ds : List D} (h : S a = some (.tup xs)) (r : RpL S xs ds) : Rp S (.ref a) (.tuple ds) := ⟨a, xs, rfl, h, r⟩
theorem Rp.frz {S : Hp} {a : Addr} {ns : List Int} (h : SqL Wr.K S a (ns.map V.int)) : Rp S (.ref a) (frzD ns) := ⟨a, rfl, .inl ⟨ns, rfl, h⟩⟩
theorem sqL_mono {K : PySem.W.Frag} {S S' : Hp} {a : Addr} {xs : List V} (e : Ex S S') (h : SqL K S a xs) : SqL K S' a xs := by
  rcases h with (h | ⟨o, h⟩) | h
  · exact .inl (.inl (e _ _ h))
  · exact .inl (.inr ⟨o, e _ _ h⟩)
  · exact .inr h
theorem Rp.adr {S : Hp} (a : Addr) : Rp S (.ref a) (adrD a) := ⟨a, rfl, .inr rfl⟩
theorem RpL.nil {S : Hp} : RpL S [] [] := rfl
theorem RpL.cons {S : Hp} {v : V} {vs : List V} {d : D} {ds : List D} (h : Rp S v d) (r : RpL S vs ds) : RpL S (v :: vs) (d :: ds) := ⟨v, vs, rfl, h, r⟩
theorem Rp.adr_inv {S : Hp} {v : V} {a : Addr} (h : Rp S v (adrD a)) : v = .ref a := by
  obtain ⟨b, rfl, h | h⟩ := h
  · obtain ⟨ns, e, _⟩ := h
    injection e with e _; injection e with e _; cases e
  · injection h with e _; injection e with _ e
    injection e with e
    have : a = b := Int.ofNat.inj e
    rw [this]
theorem Rp.frz_inv {S : Hp} {v : V} {ns : List Int} (h : Rp S v (frzD ns)) : ∃ a, v = .ref a ∧ SqL Wr.K S a (ns.map V.int) := by
  obtain ⟨b, rfl, h | h⟩ := h
  · obtain ⟨ms, e, hs⟩ := h
    injection e with e _; injection e with _ e
    injection e with e
    have inj : ∀ (l m : List Int), l.map PyData.int = m.map PyData.int → l = m := by
      intro l
      induction l with
      | nil => intro m e; cases m with
        | nil => rfl
        | cons => cases e
      | cons x l ih => intro m e; cases m with
        | nil => cases e
        | cons y m =>
          injection e with e1 e2
          injection e1 with e1
          rw [e1, ih m e2]
    rw [inj _ _ e]
    exact ⟨b, rfl, hs⟩
  · injection h with e _; injection e with e _; cases e
mutual
theorem Rp.mono {S S' : Hp} (e : Ex S S') : ∀ (d : D) {v : V}, Rp S v d → Rp S' v d
  | .none, _, h => h
  | .bool _, _, h => h
  | .int _, _, h => h
  | .str _, _, h => h
  | .list ds, _, h => by
    obtain ⟨a, xs, h1, h2, h3⟩ := h
    exact ⟨a, xs, h1, e _ _ h2, RpL.mono e ds h3⟩
  | .tuple ds, _, h => by
    obtain ⟨a, xs, h1, h2, h3⟩ := h
    exact ⟨a, xs, h1, e _ _ h2, RpL.mono e ds h3⟩
  | .dict _, _, h => by
    obtain ⟨a, h1, h2⟩ := h
    refine ⟨a, h1, h2.imp ?_ id⟩
    rintro ⟨ns, e1, e2⟩
    exact ⟨ns, e1, sqL_mono e e2⟩
theorem RpL.mono {S S' : Hp} (e : Ex S S') : ∀ (ds : List D) {vs : List V}, RpL S vs ds → RpL S' vs ds
  | [], _, h => h
  | d :: ds, _, h => by
    obtain ⟨w, ws, h1, h2, h3⟩ := h
    exact ⟨w, ws, h1, Rp.mono e d h2, RpL.mono e ds h3⟩
end
theorem RpL.length {S : Hp} : ∀ {ds : List D} {vs : List V}, RpL S vs ds → vs.length = ds.length
  | [], _, h => by rw [show _ = [] from h]; rfl
  | _ :: ds, _, ⟨_, _, e, _, r⟩ => by rw [e, List.length_cons, List.length_cons, RpL.length r]
theorem RpL.get {S : Hp} : ∀ {ds : List D} {vs : List V} {i : Nat} {d : D}, RpL S vs ds → ds[i]? = some d → ∃ v, vs[i]? = some v ∧ Rp S v d
  | [], _, _, _, _, e => by simp at e
  | d :: ds, _, 0, _, ⟨w, ws, e1, h, _⟩, e => by simp at e; subst e; subst e1; exact ⟨_, rfl, h⟩
  | d :: ds, _, i + 1, _, ⟨w, ws, e1, _, r⟩, e => by
    obtain ⟨v, h1, h2⟩ := RpL.get (i := i) r (by simpa using e)
    subst e1
    exact ⟨v, by simpa using h1, h2⟩
theorem RpL.getV {S : Hp} : ∀ {ds : List D} {vs : List V} {i : Nat} {v : V}, RpL S vs ds → vs[i]? = some v → ∃ d, ds[i]? = some d ∧ Rp S v d
  | [], _, _, _, h, e => by rw [show _ = [] from h] at e; simp at e
  | d :: ds, _, 0, _, ⟨w, ws, e1, h, _⟩, e => by subst e1; simp at e; subst e; exact ⟨_, rfl, h⟩
  | d :: ds, _, i + 1, v, ⟨w, ws, e1, _, r⟩, e => by
    subst e1
    obtain ⟨d, h1, h2⟩ := RpL.getV (i := i) (v := v) r (by simpa using e)
    exact ⟨d, by simpa using h1, h2⟩
theorem RpL.append {S : Hp} : ∀ {ds es : List D} {vs ws : List V}, RpL S vs ds → RpL S ws es → RpL S (vs ++ ws) (ds ++ es)
  | [], _, _, _, h, s => by rw [show _ = [] from h]; exact s
  | _ :: _, _, _, _, ⟨w, ws, e, h, r⟩, s => by subst e; exact .cons h (RpL.append r s)
theorem RpL.take {S : Hp} : ∀ {ds : List D} {vs : List V} (n : Nat), RpL S vs ds → RpL S (vs.take n) (ds.take n)
  | _, _, 0, _ => RpL.nil
  | [], _, _ + 1, h => by rw [show _ = [] from h]; exact RpL.nil
  | _ :: _, _, n + 1, ⟨w, ws, e, h, r⟩ => by subst e; exact .cons h (RpL.take n r)
theorem RpL.drop {S : Hp} : ∀ {ds : List D} {vs : List V} (n : Nat), RpL S vs ds → RpL S (vs.drop n) (ds.drop n)
  | _, _, 0, r => r
  | [], _, _ + 1, h => by rw [show _ = [] from h]; exact RpL.nil
  | _ :: _, _, n + 1, ⟨w, ws, e, h, r⟩ => by subst e; exact RpL.drop n r
theorem RpL.set {S : Hp} {v : V} {d : D} (h : Rp S v d) : ∀ {ds : List D} {vs : List V} (i : Nat), RpL S vs ds → RpL S (vs.set i v) (ds.set i d)
  | [], _, _, h => by rw [show _ = [] from h]; exact RpL.nil
  | _ :: _, _, 0, ⟨w, ws, e, _, r⟩ => by subst e; exact .cons h r
  | _ :: _, _, i + 1, ⟨w, ws, e, q, r⟩ => by subst e; exact .cons q (RpL.set h i r)
theorem RpL.one {S : Hp} {v : V} {d : D} (h : Rp S v d) : RpL S [v] [d] := .cons h .nil
theorem RpL.rep {S : Hp} {vs : List V} {ds : List D} (h : RpL S vs ds) : ∀ k : Nat, RpL S (List.replicate k vs).flatten (List.replicate k ds).flatten
  | 0 => RpL.nil
  | k + 1 => by
    rw [List.replicate_succ, List.replicate_succ, List.flatten_cons, List.flatten_cons]
    exact h.append (RpL.rep h k)
theorem RpL.eraseIdx {S : Hp} : ∀ {ds : List D} {vs : List V} (i : Nat), RpL S vs ds → RpL S (vs.eraseIdx i) (ds.eraseIdx i)
  | [], _, _, h => by rw [show _ = [] from h]; exact RpL.nil
  | _ :: _, _, 0, ⟨w, ws, e, _, r⟩ => by subst e; exact r
  | _ :: _, _, i + 1, ⟨w, ws, e, h, r⟩ => by subst e; exact .cons h (RpL.eraseIdx i r)
theorem RpL.insertIdx {S : Hp} {v : V} {d : D} (h : Rp S v d) : ∀ {ds : List D} {vs : List V} (i : Nat), RpL S vs ds → RpL S (vs.insertIdx i v) (ds.insertIdx i d)
  | _, _, 0, r => by rw [List.insertIdx_zero, List.insertIdx_zero]; exact .cons h r
  | [], _, _ + 1, r => by rw [show _ = [] from r]; exact RpL.nil
  | _ :: _, _, i + 1, ⟨w, ws, e, q, r⟩ => by subst e; rw [List.insertIdx_succ_cons, List.insertIdx_succ_cons]; exact .cons q (RpL.insertIdx h i r)
theorem RpL.ints {S : Hp} : ∀ {ns : List Int} {vs : List V}, RpL S vs (ns.map .int) → vs = ns.map V.int
  | [], _, h => h
  | n :: ns, _, ⟨w, ws, e, h, r⟩ => by rw [e, show w = .int n from h, RpL.ints r]; rfl
theorem RpL.ofInts {S : Hp} : ∀ (ns : List Int), RpL S (ns.map V.int) (ns.map .int)
  | [] => RpL.nil
  | n :: ns => .cons (.int n) (RpL.ofInts ns)
theorem RpL.strs {S : Hp} : ∀ {ns : List Str} {vs : List V}, RpL S vs (ns.map .str) → vs = ns.map V.str
  | [], _, h => h
  | n :: ns, _, ⟨w, ws, e, h, r⟩ => by rw [e, show w = .str n from h, RpL.strs r]; rfl
theorem RpL.ofStrs {S : Hp} : ∀ (ns : List Str), RpL S (ns.map V.str) (ns.map .str)
  | [] => RpL.nil
  | n :: ns => .cons (.str n) (RpL.ofStrs ns)
theorem RpL.bools {S : Hp} : ∀ {ns : List Bool} {vs : List V}, RpL S vs (ns.map .bool) → vs = ns.map V.bl
  | [], _, h => h
  | n :: ns, _, ⟨w, ws, e, h, r⟩ => by rw [e, show w = .bl n from h, RpL.bools r]; rfl
/- no marks within -/
mutual
def plainD : D → Bool
  | .none => true
  | .bool _ => true
  | .int _ => true
  | .str _ => true
  | .list xs => plainL xs
  | .tuple xs => plainL xs
  | .dict _ => false
def plainL : List D → Bool
  | [] => true
  | x :: xs => plainD x && plainL xs
end
mutual
theorem Rp.dp {K : PySem.W.Frag} {S H : Hp} (e : Ex S H) : ∀ (d : D) {v : V}, Rp S v d → plainD d = true → Dp K H v d
  | .none, _, h, _ => by rw [show _ = V.non from h]; exact .non
  | .bool b, _, h, _ => by rw [show _ = V.bl b from h]; exact .bl b
  | .int b, _, h, _ => by rw [show _ = V.int b from h]; exact .int b
  | .str b, _, h, _ => by rw [show _ = V.str b from h]; exact .str b
  | .list ds, _, h, p => by
    obtain ⟨a, xs, h1, h2, h3⟩ := h
    rw [h1]
    exact .lst (SqL.of (e _ _ h2)) (RpL.dp e ds h3 p)
  | .tuple ds, _, h, p => by
    obtain ⟨a, xs, h1, h2, h3⟩ := h
    rw [h1]
    exact .tup (SqT.of (e _ _ h2)) (RpL.dp e ds h3 p)
  | .dict _, _, _, p => by cases p
theorem RpL.dp {K : PySem.W.Frag} {S H : Hp} (e : Ex S H) : ∀ (ds : List D) {vs : List V}, RpL S vs ds → plainL ds = true → DpAll K H vs ds
  | [], _, h, _ => by rw [show _ = [] from h]; exact .nil
  | d :: ds, _, h, p => by
    obtain ⟨w, ws, e1, h1, h2⟩ := h
    have p' : (plainD d && plainL ds) = true := p
    rw [e1]
    exact .cons (Rp.dp e d h1 (Bool.and_eq_true_iff.mp p').1) (RpL.dp e ds h2 (Bool.and_eq_true_iff.mp p').2)
end

/-! ### slots -/
abbrev KD := List (Key × D)
inductive Sl where
  | no
  | sh (d : D)
  | ow (ds : List D)
  | io (ds : List D)
  | od (kvs : KD)
def Sl.own : Sl → Bool
  | .ow _ => true
  | .io _ => true
  | .od _ => true
  | _ => false
abbrev En := List Sl
abbrev RpK (S : Hp) (ws : List (Key × V)) (kvs : KD) : Prop := Paired (fun (p : Key × V) (q : Key × D) => p.1 = q.1 ∧ Rp S p.2 q.2) ws kvs
theorem RpK.mono {S S' : Hp} (e : Ex S S') {ws : List (Key × V)} {kvs : KD} (h : RpK S ws kvs) : RpK S' ws kvs := Paired.mapP h fun _ _ r => ⟨r.1, Rp.mono e _ r.2⟩
def SlAt (B : Hp) (M : List Addr) (H S : Hp) (ov : Option (Option V)) : Sl → Prop
  | .no => True
  | .sh d => ∃ v, ov = some (some v) ∧ Rp S v d
  | .ow ds => ∃ l vs, ov = some (some (.ref l)) ∧ H l = some (.lst vs) ∧ S l = none ∧ RpL S vs ds ∧ (B l = none ∧ l ∉ M)
  | .io ds => ∃ l vs, ov = some (some (.ref l)) ∧ H l = some (.lst vs) ∧ S l = none ∧ RpL S vs ds ∧ l ∈ M
  | .od kvs => ∃ l ws, ov = some (some (.ref l)) ∧ H l = some (.dK ws) ∧ S l = none ∧ RpK S ws kvs ∧ (B l = none ∧ l ∉ M)
structure Rel (B S0 : Hp) (M : List Addr) (σ : L2.St) (H S : Hp) (ρ : En) : Prop where
  sub : Ex S H
  s0 : Ex S0 S
  keep : ∀ a o, B a = some o → a ∉ M → H a = some o
  there : ∀ a ∈ M, ∃ o, H a = some o
  base : ∀ a o, B a = some o → S a = S0 a
  len : σ.length = ρ.length
  ats : ∀ (i : Nat) (s : Sl), ρ[i]? = some s → SlAt B M H S (σ[i]?) s
  apart : ∀ (i j : Nat) (s s' : Sl) (l : Addr), i ≠ j → ρ[i]? = some s → ρ[j]? = some s' → s.own = true → s'.own = true → σ[i]? = some (some (.ref l)) → σ[j]? = some (some (.ref l)) → False
section
variable {B S0 : Hp} {M : List Addr} {σ : L2.St} {H S : Hp} {ρ : En}
theorem SlAt.addr {B H S : Hp} {M : List Addr} {ov : Option (Option V)} {s : Sl} (h : SlAt B M H S ov s) (o : s.own = true) : ∃ l, ov = some (some (.ref l)) ∧ (∃ x, H l = some x) ∧ S l = none ∧ (B l = none ∨ l ∈ M) := by
  cases s with
  | no => cases o
  | sh d => cases o
  | ow ds => obtain ⟨l, vs, e, h1, h2, _, h4⟩ := h; exact ⟨l, e, ⟨_, h1⟩, h2, .inl h4.1⟩
  | io ds => obtain ⟨l, vs, e, h1, h2, _, h4⟩ := h; exact ⟨l, e, ⟨_, h1⟩, h2, .inr h4⟩
  | od kvs => obtain ⟨l, vs, e, h1, h2, _, h4⟩ := h; exact ⟨l, e, ⟨_, h1⟩, h2, .inl h4.1⟩
/-- another heap, where the owned ones stand as they were -/
theorem SlAt.mono {B H S H' S' : Hp} {M : List Addr} {ov : Option (Option V)} {s : Sl} (h : SlAt B M H S ov s) (e : Ex S S') (k : ∀ l o, ov = some (some (.ref l)) → s.own = true → H l = some o → S l = none → H' l = some o ∧ S' l = none) : SlAt B M H' S' ov s := by
  cases s with
  | no => trivial
  | sh d => obtain ⟨v, e1, r⟩ := h; exact ⟨v, e1, Rp.mono e _ r⟩
  | ow ds => obtain ⟨l, vs, e1, h1, h2, h3, h4⟩ := h; exact ⟨l, vs, e1, (k l _ e1 rfl h1 h2).1, (k l _ e1 rfl h1 h2).2, RpL.mono e _ h3, h4⟩
  | io ds => obtain ⟨l, vs, e1, h1, h2, h3, h4⟩ := h; exact ⟨l, vs, e1, (k l _ e1 rfl h1 h2).1, (k l _ e1 rfl h1 h2).2, RpL.mono e _ h3, h4⟩
  | od kvs => obtain ⟨l, vs, e1, h1, h2, h3, h4⟩ := h; exact ⟨l, vs, e1, (k l _ e1 rfl h1 h2).1, (k l _ e1 rfl h1 h2).2, RpK.mono e h3, h4⟩
theorem Rel.fresh (R : Rel B S0 M σ H S ρ) {p : Addr} (h : H p = none) : B p = none ∧ S p = none := by
  refine ⟨?_, R.sub.none h⟩
  cases q : B p with
  | none => rfl
  | some o =>
    by_cases hm : p ∈ M
    · obtain ⟨x, hx⟩ := R.there p hm
      rw [h] at hx; cases hx
    · rw [R.keep p o q hm] at h; cases h
/-- a new object, shared at once -/
theorem Rel.pub (R : Rel B S0 M σ H S ρ) {p : Addr} {o : HO} (h : H p = none) : Rel B S0 M σ (upd H p o) (upd S p o) ρ where
  sub := fun a u e => by
    by_cases ha : a = p
    · subst ha; rw [upd_same] at e ⊢; exact e
    · rw [upd_ne ha] at e ⊢; exact R.sub a u e
  s0 := R.s0.trans (Ex.new (R.fresh h).2)
  keep := fun a u e m => by rw [upd_ne (ne_of_none e (R.fresh h).1)]; exact R.keep a u e m
  there := fun a m => by
    obtain ⟨x, hx⟩ := R.there a m
    exact ⟨x, by rw [upd_ne (ne_of_none hx h)]; exact hx⟩
  base := fun a u e => by rw [upd_ne (ne_of_none e (R.fresh h).1)]; exact R.base a u e
  len := R.len
  ats := fun i s e => (R.ats i s e).mono (Ex.new (R.fresh h).2) fun l u _ _ h1 h2 => ⟨by rw [upd_ne (ne_of_none h1 h)]; exact h1, by rw [upd_ne (ne_of_none h1 h)]; exact h2⟩
  apart := R.apart
/-- a new object, not shared -/
theorem Rel.lay (R : Rel B S0 M σ H S ρ) {p : Addr} {o : HO} (h : H p = none) : Rel B S0 M σ (upd H p o) S ρ where
  sub := R.sub.trans (Ex.new h)
  s0 := R.s0
  keep := fun a u e m => by rw [upd_ne (ne_of_none e (R.fresh h).1)]; exact R.keep a u e m
  there := fun a m => by
    obtain ⟨x, hx⟩ := R.there a m
    exact ⟨x, by rw [upd_ne (ne_of_none hx h)]; exact hx⟩
  base := R.base
  len := R.len
  ats := fun i s e => (R.ats i s e).mono (Ex.refl S) fun l u _ _ h1 h2 => ⟨by rw [upd_ne (ne_of_none h1 h)]; exact h1, h2⟩
  apart := R.apart
/-- p is no slot's -/
def NoSl (σ : L2.St) (ρ : En) (p : Addr) : Prop := ∀ (i : Nat) (s : Sl), ρ[i]? = some s → s.own = true → σ[i]? ≠ some (some (.ref p))
theorem Rel.noSl (R : Rel B S0 M σ H S ρ) {p : Addr} (h : H p = none) : NoSl σ ρ p := fun i s e o z => by
  obtain ⟨l, e1, ⟨x, hx⟩, _⟩ := (R.ats i s e).addr o
  rw [z] at e1
  injection e1 with e1
  injection e1 with e1
  injection e1 with e1
  rw [← e1, h] at hx; cases hx
/-- an object that is nobody's becomes shared -/
theorem Rel.give (R : Rel B S0 M σ H S ρ) {p : Addr} {o : HO} (h : H p = some o) (hs : S p = none) (hb : B p = none) (n : NoSl σ ρ p) : Rel B S0 M σ H (upd S p o) ρ where
  sub := fun a u e => by
    by_cases ha : a = p
    · subst ha; rw [upd_same] at e; rw [h]; exact e
    · rw [upd_ne ha] at e; exact R.sub a u e
  s0 := R.s0.trans (Ex.new hs)
  keep := R.keep
  there := R.there
  base := fun a u e => by rw [upd_ne (ne_of_none e hb)]; exact R.base a u e
  len := R.len
  ats := fun i s e => (R.ats i s e).mono (Ex.new hs) fun l u e1 ow h1 h2 => ⟨h1, by
    rw [upd_ne (fun z => n i s e ow (by rw [e1, z]))]; exact h2⟩
  apart := R.apart
theorem getElem?_set_cases {α : Type} {l : List α} {i j : Nat} {x y : α} (h : (l.set i x)[j]? = some y) : (i = j ∧ y = x ∧ i < l.length) ∨ (i ≠ j ∧ l[j]? = some y) := by
  by_cases e : i = j
  · subst e
    by_cases hl : i < l.length
    · rw [List.getElem?_set_self hl] at h
      exact .inl ⟨rfl, (Option.some.inj h).symm, hl⟩
    · rw [List.getElem?_eq_none (by simpa using hl)] at h; cases h
  · rw [List.getElem?_set_ne e] at h
    exact .inr ⟨e, h⟩
/-- a slot is set to something shared -/
theorem Rel.setSh (R : Rel B S0 M σ H S ρ) {i : Nat} {v : V} {d : D} (r : Rp S v d) : Rel B S0 M (σ.set i (some v)) H S (ρ.set i (.sh d)) where
  sub := R.sub
  s0 := R.s0
  keep := R.keep
  there := R.there
  base := R.base
  len := by simpa using R.len
  ats := fun j s e => by
    rcases getElem?_set_cases e with ⟨rfl, rfl, hl⟩ | ⟨ne, e'⟩
    · exact ⟨v, by rw [List.getElem?_set_self (by rw [R.len]; exact hl)], r⟩
    · rw [List.getElem?_set_ne ne]; exact R.ats j s e'
  apart := fun a b s s' l ab e1 e2 o1 o2 q1 q2 => by
    rcases getElem?_set_cases e1 with ⟨rfl, rfl, hl⟩ | ⟨ne1, e1'⟩
    · cases o1
    · rcases getElem?_set_cases e2 with ⟨rfl, rfl, hl⟩ | ⟨ne2, e2'⟩
      · cases o2
      · rw [List.getElem?_set_ne ne1] at q1
        rw [List.getElem?_set_ne ne2] at q2
        exact R.apart a b s s' l ab e1' e2' o1 o2 q1 q2
/-- a slot is forgotten; its value may be anything -/
theorem Rel.setNo (R : Rel B S0 M σ H S ρ) {i : Nat} (x : Option V) : Rel B S0 M (σ.set i x) H S (ρ.set i .no) where
  sub := R.sub
  s0 := R.s0
  keep := R.keep
  there := R.there
  base := R.base
  len := by simpa using R.len
  ats := fun j s e => by
    rcases getElem?_set_cases e with ⟨rfl, rfl, hl⟩ | ⟨ne, e'⟩
    · trivial
    · rw [List.getElem?_set_ne ne]; exact R.ats j s e'
  apart := fun a b s s' l ab e1 e2 o1 o2 q1 q2 => by
    rcases getElem?_set_cases e1 with ⟨rfl, rfl, hl⟩ | ⟨ne1, e1'⟩
    · cases o1
    · rcases getElem?_set_cases e2 with ⟨rfl, rfl, hl⟩ | ⟨ne2, e2'⟩
      · cases o2
      · rw [List.getElem?_set_ne ne1] at q1
        rw [List.getElem?_set_ne ne2] at q2
        exact R.apart a b s s' l ab e1' e2' o1 o2 q1 q2
theorem Rel.forget (R : Rel B S0 M σ H S ρ) {i : Nat} : Rel B S0 M σ H S (ρ.set i .no) := by
  have h := R.setNo (i := i) ((σ[i]?).getD none)
  have e : σ.set i ((σ[i]?).getD none) = σ := by
    apply List.ext_getElem?
    intro j
    by_cases ij : i = j
    · subst ij
      by_cases hl : i < σ.length
      · rw [List.getElem?_set_self hl, List.getElem?_eq_getElem hl]; rfl
      · rw [List.getElem?_eq_none (by simpa using hl), List.getElem?_eq_none (by omega)]
    · rw [List.getElem?_set_ne ij]
  rw [e] at h
  exact h
/-- a slot is set to an owned thing -/
theorem Rel.setOwn (R : Rel B S0 M σ H S ρ) {i : Nat} {p : Addr} {s0 : Sl} (h : SlAt B M H S (some (some (.ref p))) s0) (n : NoSl σ ρ p) : Rel B S0 M (σ.set i (some (.ref p))) H S (ρ.set i s0) where
  sub := R.sub
  s0 := R.s0
  keep := R.keep
  there := R.there
  base := R.base
  len := by simpa using R.len
  ats := fun j s e => by
    rcases getElem?_set_cases e with ⟨rfl, rfl, hl⟩ | ⟨ne, e'⟩
    · rw [List.getElem?_set_self (by rw [R.len]; exact hl)]; exact h
    · rw [List.getElem?_set_ne ne]; exact R.ats j s e'
  apart := fun a b s s' l ab e1 e2 o1 o2 q1 q2 => by
    rcases getElem?_set_cases e1 with ⟨rfl, rfl, hl⟩ | ⟨ne1, e1'⟩
    · rcases getElem?_set_cases e2 with ⟨rfl, rfl, hl⟩ | ⟨ne2, e2'⟩
      · exact ab rfl
      · rw [List.getElem?_set_self (by rw [R.len]; exact hl)] at q1
        rw [List.getElem?_set_ne ne2] at q2
        injection q1 with q1; injection q1 with q1; injection q1 with q1
        subst q1
        exact n b s' e2' o2 q2
    · rcases getElem?_set_cases e2 with ⟨rfl, rfl, hl⟩ | ⟨ne2, e2'⟩
      · rw [List.getElem?_set_self (by rw [R.len]; exact hl)] at q2
        rw [List.getElem?_set_ne ne1] at q1
        injection q2 with q2; injection q2 with q2; injection q2 with q2
        subst q2
        exact n a s e1' o1 q1
      · rw [List.getElem?_set_ne ne1] at q1
        rw [List.getElem?_set_ne ne2] at q2
        exact R.apart a b s s' l ab e1' e2' o1 o2 q1 q2
/-- an owned thing is written -/
theorem Rel.write (R : Rel B S0 M σ H S ρ) {i : Nat} {l : Addr} {s1 s2 : Sl} {o : HO} (e : ρ[i]? = some s1) (o1 : s1.own = true) (ev : σ[i]? = some (some (.ref l)))
    (h2 : SlAt B M (upd H l o) S (some (some (.ref l))) s2) : Rel B S0 M σ (upd H l o) S (ρ.set i s2) := by
  obtain ⟨l', e1, ⟨x, hx⟩, hS, hB⟩ := (R.ats i s1 e).addr o1
  rw [ev] at e1
  injection e1 with e1; injection e1 with e1; injection e1 with e1
  subst e1
  have il : i < ρ.length := (List.getElem?_eq_some_iff.mp e).1
  have neq : ∀ j s, i ≠ j → ρ[j]? = some s → s.own = true → σ[j]? ≠ some (some (.ref l)) := fun j s ne ej oj q => R.apart i j s1 s l ne e ej o1 oj ev q
  refine ⟨fun a u q => ?_, R.s0, fun a u q m => ?_, fun a m => ?_, R.base, by simpa using R.len, fun j s q => ?_, fun a b s s' l2 ab q1 q2 o1' o2' r1 r2 => ?_⟩
  · rw [upd_ne (ne_of_none q hS)]; exact R.sub a u q
  · have : a ≠ l := fun z => by
      subst z
      rcases hB with hb | hb
      · rw [q] at hb; cases hb
      · exact m hb
    rw [upd_ne this]; exact R.keep a u q m
  · by_cases z : a = l
    · subst z; exact ⟨o, upd_same⟩
    · rw [upd_ne z]; exact R.there a m
  · rcases getElem?_set_cases q with ⟨rfl, rfl, _⟩ | ⟨ne, q'⟩
    · rw [ev]; exact h2
    · refine (R.ats j s q').mono (Ex.refl S) fun l2 u e2 ow h1 hs => ⟨?_, hs⟩
      rw [upd_ne (fun z => neq j s ne q' ow (by rw [e2, z]))]; exact h1
  · have old : ∀ (k : Nat) (t : Sl), (ρ.set i s2)[k]? = some t → t.own = true → ∃ t', ρ[k]? = some t' ∧ t'.own = true := fun k t hk ot => by
      rcases getElem?_set_cases hk with ⟨rfl, rfl, _⟩ | ⟨_, hk'⟩
      · exact ⟨s1, e, o1⟩
      · exact ⟨t, hk', ot⟩
    obtain ⟨t1, z1, p1⟩ := old a s q1 o1'
    obtain ⟨t2, z2, p2⟩ := old b s' q2 o2'
    exact R.apart a b t1 t2 l2 ab z1 z2 p1 p2 r1 r2
/-- less is to be kept -/
theorem Rel.weak {B' : Hp} (R : Rel B' S0 M σ H S ρ) (h : Ex B B') : Rel B S0 M σ H S ρ where
  sub := R.sub
  s0 := R.s0
  keep := fun a o e m => R.keep a o (h a o e) m
  there := R.there
  base := fun a o e => R.base a o (h a o e)
  len := R.len
  ats := fun i s e => by
    have q := R.ats i s e
    cases s with
    | no => trivial
    | sh d => exact q
    | ow ds => obtain ⟨l, vs, e1, h1, h2, h3, h4⟩ := q; exact ⟨l, vs, e1, h1, h2, h3, h4.imp h.none id⟩
    | io ds => exact q
    | od kvs => obtain ⟨l, vs, e1, h1, h2, h3, h4⟩ := q; exact ⟨l, vs, e1, h1, h2, h3, h4.imp h.none id⟩
  apart := R.apart
/-- one more thing is to be kept: it is nobody's -/
theorem Rel.pin (R : Rel B S0 M σ H S ρ) {p : Addr} {o : HO} (h : H p = some o) (hs : S p = none) (hm : p ∉ M) (n : NoSl σ ρ p) : Rel (upd B p o) S0 M σ H S ρ where
  sub := R.sub
  s0 := R.s0
  keep := fun a u e m => by
    by_cases z : a = p
    · subst z; rw [upd_same] at e; rw [h]; exact e
    · rw [upd_ne z] at e; exact R.keep a u e m
  there := R.there
  base := fun a u e => by
    by_cases z : a = p
    · subst z; rw [hs, R.s0.none hs]
    · rw [upd_ne z] at e; exact R.base a u e
  len := R.len
  ats := fun i s e => by
    have q := R.ats i s e
    cases s with
    | no => trivial
    | sh d => exact q
    | ow ds =>
      obtain ⟨l, vs, e1, h1, h2, h3, h4⟩ := q
      exact ⟨l, vs, e1, h1, h2, h3, h4.imp (fun z => by rw [upd_ne (fun y => n i _ e rfl (by rw [e1, y]))]; exact z) id⟩
    | io ds => exact q
    | od kvs =>
      obtain ⟨l, vs, e1, h1, h2, h3, h4⟩ := q
      exact ⟨l, vs, e1, h1, h2, h3, h4.imp (fun z => by rw [upd_ne (fun y => n i _ e rfl (by rw [e1, y]))]; exact z) id⟩
  apart := R.apart
/-- what is kept is no slot's -/
theorem Rel.pinned (R : Rel B S0 M σ H S ρ) {p : Addr} {o : HO} (h : B p = some o) (hm : p ∉ M) : NoSl σ ρ p ∧ H p = some o := by
  refine ⟨fun i s e ow z => ?_, R.keep p o h hm⟩
  obtain ⟨l, e1, _, _, hB⟩ := (R.ats i s e).addr ow
  rw [z] at e1
  injection e1 with e1; injection e1 with e1; injection e1 with e1
  subst e1
  rcases hB with hb | hb
  · rw [h] at hb; cases hb
  · exact hm hb
end
end DL

set_option Elab.async false
set_option linter.all false
set_option maxRecDepth 100000
set_option maxHeartbeats 4000000
namespace DL
open PySem PySem.Spec PyProof.Rows L2
variable [Wr]

/-! ### results -/
inductive Res (α : Type) where
  | ok (a : α)
  | err (c : Str) (fs : List V)
  | no
def Res.bind {α β : Type} (x : Res α) (f : α → Res β) : Res β := match x with
  | .ok a => f a
  | .err c fs => .err c fs
  | .no => .no
@[simp] theorem Res.bind_ok {α β : Type} (a : α) (f : α → Res β) : (Res.ok a).bind f = f a := rfl
@[simp] theorem Res.bind_err {α β : Type} (c : Str) (fs : List V) (f : α → Res β) : (Res.err c fs : Res α).bind f = .err c fs := rfl
@[simp] theorem Res.bind_no {α β : Type} (f : α → Res β) : (Res.no : Res α).bind f = .no := rfl
/-- a value: shared, a new list, a new dict -/
inductive Rv where
  | sh (d : D)
  | fr (ds : List D)
  | fk (kvs : KD)
inductive Out where
  | nx (ρ : En)
  | rt (rv : Rv) (ρ : En)
  | bk (ρ : En)
  | ct (ρ : En)
  | err (c : Str) (fs : List V)
  | no
abbrev Er := Str → List V → Hp → Prop
abbrev Fe := En → Res (Rv × En)
abbrev Fd := En → Res (D × En)
abbrev Ft := En → Res (Bool × En)
abbrev Fa := En → Res (List D × En)
abbrev Fs := En → Out
def Nobody (B : Hp) (M : List Addr) (σ : L2.St) (S : Hp) (ρ : En) (p : Addr) : Prop := S p = none ∧ B p = none ∧ p ∉ M ∧ NoSl σ ρ p
def Good (B : Hp) (M : List Addr) (σ : L2.St) (H S : Hp) (ρ : En) (v : V) : Rv → Prop
  | .sh d => Rp S v d
  | .fr ds => ∃ p vs, v = .ref p ∧ H p = some (.lst vs) ∧ RpL S vs ds ∧ Nobody B M σ S ρ p
  | .fk kvs => ∃ p ws, v = .ref p ∧ H p = some (.dK ws) ∧ RpK S ws kvs ∧ Nobody B M σ S ρ p
def Kp (B : Hp) (M : List Addr) (H' : Hp) : Prop := ∀ a o, B a = some o → a ∉ M → H' a = some o
def AE (ER : Er) (B S0 : Hp) (M : List Addr) (σ : L2.St) (S : Hp) (Q : VK) : Res (Rv × En) → Prop
  | .ok (rv, ρ') => ∀ v H' S', Ex S S' → Rel B S0 M σ H' S' ρ' → Good B M σ H' S' ρ' v rv → Q v H'
  | .err c fs => ∀ H', Kp B M H' → ER c fs H'
  | .no => False
def AD (ER : Er) (B S0 : Hp) (M : List Addr) (σ : L2.St) (S : Hp) (Q : VK) : Res (D × En) → Prop
  | .ok (d, ρ') => ∀ v H' S', Ex S S' → Rel B S0 M σ H' S' ρ' → Rp S' v d → Q v H'
  | .err c fs => ∀ H', Kp B M H' → ER c fs H'
  | .no => False
def AT (ER : Er) (B S0 : Hp) (M : List Addr) (σ : L2.St) (S : Hp) (Q : Bool → Hp → Prop) : Res (Bool × En) → Prop
  | .ok (b, ρ') => ∀ H' S', Ex S S' → Rel B S0 M σ H' S' ρ' → Q b H'
  | .err c fs => ∀ H', Kp B M H' → ER c fs H'
  | .no => False
def AA (ER : Er) (B S0 : Hp) (M : List Addr) (σ : L2.St) (S : Hp) (Q : List V → Hp → Prop) : Res (List D × En) → Prop
  | .ok (ds, ρ') => ∀ vs H' S', Ex S S' → Rel B S0 M σ H' S' ρ' → RpL S' vs ds → Q vs H'
  | .err c fs => ∀ H', Kp B M H' → ER c fs H'
  | .no => False
def AS (ER : Er) (B S0 : Hp) (M : List Addr) (S : Hp) (E : Ends) : Out → Prop
  | .nx ρ' => ∀ σ' H' S', Ex S S' → Rel B S0 M σ' H' S' ρ' → E.nx σ' H'
  | .rt rv ρ' => ∀ v σ' H' S', Ex S S' → Rel B S0 M σ' H' S' ρ' → Good B M σ' H' S' ρ' v rv → E.rt v H'
  | .bk ρ' => ∀ σ' H' S', Ex S S' → Rel B S0 M σ' H' S' ρ' → E.bk σ' H'
  | .ct ρ' => ∀ σ' H' S', Ex S S' → Rel B S0 M σ' H' S' ρ' → E.ct σ' H'
  | .err c fs => ∀ H', Kp B M H' → ER c fs H'
  | .no => False
structure RE (ER : Er) (t : TE) (f : Fe) : Prop where
  go : ∀ B S0 M σ H S ρ Q, Rel B S0 M σ H S ρ → AE ER B S0 M σ S Q (f ρ) → t σ H Q
structure RD (ER : Er) (t : TE) (f : Fd) : Prop where
  go : ∀ B S0 M σ H S ρ Q, Rel B S0 M σ H S ρ → AD ER B S0 M σ S Q (f ρ) → t σ H Q
structure RT (ER : Er) (t : TT) (f : Ft) : Prop where
  go : ∀ B S0 M σ H S ρ Q, Rel B S0 M σ H S ρ → AT ER B S0 M σ S Q (f ρ) → t σ H Q
structure RA (ER : Er) (t : TA) (f : Fa) : Prop where
  go : ∀ B S0 M σ H S ρ Q, Rel B S0 M σ H S ρ → AA ER B S0 M σ S Q (f ρ) → t σ H Q
structure RS (ER : Er) (t : TS) (f : Fs) : Prop where
  go : ∀ B S0 M σ H S ρ E, Rel B S0 M σ H S ρ → AS ER B S0 M S E (f ρ) → t E σ H
section
variable {ER : Er} {B S0 : Hp} {M : List Addr} {σ : L2.St} {S S1 H : Hp} {ρ : En}
theorem Rel.kp (R : Rel B S0 M σ H S ρ) : Kp B M H := R.keep
theorem Rel.nobody (R : Rel B S0 M σ H S ρ) {p : Addr} (h : H p = none) : Nobody B M σ S ρ p := by
  refine ⟨(R.fresh h).2, (R.fresh h).1, fun m => ?_, R.noSl h⟩
  obtain ⟨o, ho⟩ := R.there p m
  rw [h] at ho; cases ho
theorem AE.later {Q : VK} {x : Res (Rv × En)} (e : Ex S S1) (h : AE ER B S0 M σ S Q x) : AE ER B S0 M σ S1 Q x := by
  cases x with
  | ok a => exact fun v H' S' e1 r g => h v H' S' (e.trans e1) r g
  | err c fs => exact h
  | no => exact h
theorem AD.later {Q : VK} {x : Res (D × En)} (e : Ex S S1) (h : AD ER B S0 M σ S Q x) : AD ER B S0 M σ S1 Q x := by
  cases x with
  | ok a => exact fun v H' S' e1 r g => h v H' S' (e.trans e1) r g
  | err c fs => exact h
  | no => exact h
theorem AT.later {Q : Bool → Hp → Prop} {x : Res (Bool × En)} (e : Ex S S1) (h : AT ER B S0 M σ S Q x) : AT ER B S0 M σ S1 Q x := by
  cases x with
  | ok a => exact fun H' S' e1 r => h H' S' (e.trans e1) r
  | err c fs => exact h
  | no => exact h
theorem AA.later {Q : List V → Hp → Prop} {x : Res (List D × En)} (e : Ex S S1) (h : AA ER B S0 M σ S Q x) : AA ER B S0 M σ S1 Q x := by
  cases x with
  | ok a => exact fun v H' S' e1 r g => h v H' S' (e.trans e1) r g
  | err c fs => exact h
  | no => exact h
theorem AS.later {E : Ends} {x : Out} (e : Ex S S1) (h : AS ER B S0 M S E x) : AS ER B S0 M S1 E x := by
  cases x with
  | nx ρ' => exact fun σ' H' S' e1 r => h σ' H' S' (e.trans e1) r
  | rt rv ρ' => exact fun v σ' H' S' e1 r g => h v σ' H' S' (e.trans e1) r g
  | bk ρ' => exact fun σ' H' S' e1 r => h σ' H' S' (e.trans e1) r
  | ct ρ' => exact fun σ' H' S' e1 r => h σ' H' S' (e.trans e1) r
  | err c fs => exact h
  | no => exact h
/-- a value that is shared from now on -/
theorem Good.share {v : V} {rv : Rv} (R : Rel B S0 M σ H S ρ) (g : Good B M σ H S ρ v rv) : match rv with
    | .sh d => Rp S v d
    | .fr ds => ∃ S', Ex S S' ∧ Rel B S0 M σ H S' ρ ∧ Rp S' v (.list ds)
    | .fk _ => True := by
  cases rv with
  | sh d => exact g
  | fr ds =>
    obtain ⟨p, vs, rfl, h1, h2, h3, h4, h5, h6⟩ := g
    exact ⟨upd S p (.lst vs), Ex.new h3, R.give h1 h3 h4 h6, Rp.lst upd_same (RpL.mono (Ex.new h3) _ h2)⟩
  | fk kvs => trivial
end
def dSh (f : Fe) : Fd := fun ρ => match f ρ with
  | .ok (.sh d, ρ') => .ok (d, ρ')
  | .ok (.fr ds, ρ') => .ok (.list ds, ρ')
  | .ok (.fk _, _) => .no
  | .err c fs => .err c fs
  | .no => .no
section
variable {ER : Er} {t : TE} {f : Fe}
theorem RE.sh (h : RE ER t f) : RD ER t (dSh f) := ⟨fun B S0 M σ H S ρ Q R a => by
  refine h.go B S0 M σ H S ρ Q R ?_
  unfold dSh at a
  cases e : f ρ with
  | ok x =>
    obtain ⟨rv, ρ'⟩ := x
    rw [e] at a
    cases rv with
    | sh d => exact fun v H' S' e1 r g => a v H' S' e1 r g
    | fr ds =>
      intro v H' S' e1 r g
      obtain ⟨S'', e2, r2, g2⟩ := Good.share r g
      exact a v H' S'' (e1.trans e2) r2 g2
    | fk kvs => exact (show False from a).elim
  | err c fs => rw [e] at a; exact a
  | no => rw [e] at a; exact (show False from a).elim⟩
end
/-! ### names and constants -/
section
variable {ER : Er}
/-- a name that is read: an owned list is shared from then on -/
def dVar (i : Nat) : Fe := fun ρ => match ρ[i]? with
  | some (.sh d) => .ok (.sh d, ρ)
  | some (.ow ds) => .ok (.sh (.list ds), ρ.set i (.sh (.list ds)))
  | _ => .no
/-- an owned list leaves its name -/
def dMove (i : Nat) : Fe := fun ρ => match ρ[i]? with
  | some (.sh d) => .ok (.sh d, ρ)
  | some (.ow ds) => .ok (.fr ds, ρ.set i .no)
  | some (.od kvs) => .ok (.fk kvs, ρ.set i .no)
  | _ => .no
theorem re_var (i : Nat) : RE ER (tVar i) (dVar i) := ⟨fun B S0 M σ H S ρ Q R a => by
  unfold dVar at a
  cases e : ρ[i]? with
  | none => rw [e] at a; exact (show False from a).elim
  | some s =>
    rw [e] at a
    have q := R.ats i s e
    cases s with
    | no => exact (show False from a).elim
    | sh d =>
      obtain ⟨v, ev, r⟩ := q
      exact ⟨v, ev, a v H S (Ex.refl S) R r⟩
    | od kvs => exact (show False from a).elim
    | ow ds =>
      obtain ⟨l, vs, ev, h1, h2, h3, h4⟩ := q
      refine ⟨.ref l, ev, ?_⟩
      have il : i < ρ.length := (List.getElem?_eq_some_iff.mp e).1
      have R1 := R.forget (i := i)
      have n : NoSl σ (ρ.set i .no) l := fun j s ej oj z => by
        rcases getElem?_set_cases ej with ⟨rfl, rfl, _⟩ | ⟨ne, ej'⟩
        · cases oj
        · exact R.apart i j _ s l ne e ej' rfl oj ev z
      have Sx : Ex S (upd S l (.lst vs)) := Ex.new h2
      · have R2 := R1.give h1 h2 h4.1 n
        have rp : Rp (upd S l (.lst vs)) (.ref l) (.list ds) := Rp.lst upd_same (RpL.mono Sx _ h3)
        have R3 := R2.setSh (i := i) rp
        have es : σ.set i (some (.ref l)) = σ := by
          apply List.ext_getElem?
          intro j
          by_cases ij : i = j
          · subst ij
            rw [List.getElem?_set_self (by rw [R.len]; exact il), ev]
          · rw [List.getElem?_set_ne ij]
        rw [es, List.set_set] at R3
        exact a (.ref l) H _ Sx R3 rp
    | io ds => exact (show False from a).elim⟩
end
end DL

set_option Elab.async false
set_option linter.all false
set_option maxRecDepth 100000
set_option maxHeartbeats 4000000
namespace DL
open PySem PySem.Spec PyProof.Rows L2
variable [Wr]
section
variable {ER : Er} {ta tb tc te : TE} {fa fb fc : Fd} {fe : Fe}
theorem re_move (i : Nat) : RE ER (tVar i) (dMove i) := ⟨fun B S0 M σ H S ρ Q R a => by
  unfold dMove at a
  cases e : ρ[i]? with
  | none => rw [e] at a; exact (show False from a).elim
  | some s =>
    rw [e] at a
    have q := R.ats i s e
    have out : ∀ l, s.own = true → σ[i]? = some (some (.ref l)) → NoSl σ (ρ.set i .no) l := fun l os ev j s' ej oj z => by
      rcases getElem?_set_cases ej with ⟨rfl, rfl, _⟩ | ⟨ne, ej'⟩
      · cases oj
      · exact R.apart i j _ s' l ne e ej' os oj ev z
    cases s with
    | no => exact (show False from a).elim
    | io ds => exact (show False from a).elim
    | sh d =>
      obtain ⟨v, ev, r⟩ := q
      exact ⟨v, ev, a v H S (Ex.refl S) R r⟩
    | od kvs =>
      obtain ⟨l, ws, ev, h1, h2, h3, h4⟩ := q
      exact ⟨.ref l, ev, a (.ref l) H S (Ex.refl S) R.forget ⟨l, ws, rfl, h1, h3, h2, h4.1, h4.2, out l rfl ev⟩⟩
    | ow ds =>
      obtain ⟨l, ws, ev, h1, h2, h3, h4⟩ := q
      exact ⟨.ref l, ev, a (.ref l) H S (Ex.refl S) R.forget ⟨l, ws, rfl, h1, h3, h2, h4.1, h4.2, out l rfl ev⟩⟩⟩
/-- a constant -/
def dC (d : D) : Fe := fun ρ => .ok (.sh d, ρ)
theorem re_int (i : Int) : RE ER (tC (.int i)) (dC (.int i)) := ⟨fun B S0 M σ H S ρ Q R a => a (.int i) H S (Ex.refl S) R (show Rp S (.int i) (.int i) from rfl)⟩
theorem re_bl (b : Bool) : RE ER (tC (.bl b)) (dC (.bool b)) := ⟨fun B S0 M σ H S ρ Q R a => a (.bl b) H S (Ex.refl S) R (show Rp S (.bl b) (.bool b) from rfl)⟩
theorem re_non : RE ER (tC .non) (dC .none) := ⟨fun B S0 M σ H S ρ Q R a => a .non H S (Ex.refl S) R (show Rp S .non .none from rfl)⟩
theorem re_str (x : Str) : RE ER (tC (.str x)) (dC (.str x)) := ⟨fun B S0 M σ H S ρ Q R a => a (.str x) H S (Ex.refl S) R (show Rp S (.str x) (.str x) from rfl)⟩
/-! ### operators by data -/
def AG (B S0 : Hp) (M : List Addr) (σ : L2.St) (S : Hp) (ρ : En) (Q : VK) (rv : Rv) : Prop := ∀ v H' S', Ex S S' → Rel B S0 M σ H' S' ρ → Good B M σ H' S' ρ v rv → Q v H'
def OpG (r : R2) (g : D → D → Option Rv) : Prop := ∀ B S0 M σ H S ρ x y d e rv Q, Rel B S0 M σ H S ρ → Rp S x d → Rp S y e → g d e = some rv → AG B S0 M σ S ρ Q rv → r x y H Q
def optR (o : Option Rv) (ρ : En) : Res (Rv × En) := match o with
  | some rv => .ok (rv, ρ)
  | none => .no
def dOp (g : D → D → Option Rv) (fa fb : Fd) : Fe := fun ρ => (fa ρ).bind fun p => (fb p.2).bind fun q => optR (g p.1 q.1) q.2
theorem AD.bindE {B S0 : Hp} {M : List Addr} {σ : L2.St} {S : Hp} {Q Q' : VK} {x : Res (D × En)} {k : D × En → Res (Rv × En)} (h : AE ER B S0 M σ S Q (x.bind k))
    (c : ∀ d ρ' v H' S', Ex S S' → Rel B S0 M σ H' S' ρ' → Rp S' v d → AE ER B S0 M σ S' Q (k (d, ρ')) → Q' v H') : AD ER B S0 M σ S Q' x := by
  cases x with
  | ok a => exact fun v H' S' e R r => c a.1 a.2 v H' S' e R r (AE.later e h)
  | err c fs => exact h
  | no => exact (show False from h).elim
theorem re_op {r : R2} {g : D → D → Option Rv} (ho : OpG r g) (ha : RD ER ta fa) (hb : RD ER tb fb) : RE ER (tOp r ta tb) (dOp g fa fb) := ⟨fun B S0 M σ H S ρ Q R a => by
  refine ha.go B S0 M σ H S ρ _ R (AD.bindE a fun d ρ1 x H1 S1 e1 R1 r1 a1 => ?_)
  refine hb.go B S0 M σ H1 S1 ρ1 _ R1 (AD.bindE a1 fun e ρ2 y H2 S2 e2 R2 r2 a2 => ?_)
  replace a2 : AE ER B S0 M σ S2 Q (optR (g d e) ρ2) := a2
  cases eg : g d e with
  | none => rw [eg] at a2; exact (show False from a2).elim
  | some rv =>
    rw [eg] at a2
    exact ho B S0 M σ H2 S2 ρ2 x y d e rv Q R2 (Rp.mono e2 _ r1) r2 eg fun v H' S' e3 R3 g3 => a2 v H' S' e3 R3 g3⟩
/-! what the operators give -/
theorem ag_sh {B S0 : Hp} {M : List Addr} {σ : L2.St} {H S : Hp} {ρ : En} {Q : VK} {d : D} {v : V} (R : Rel B S0 M σ H S ρ) (a : AG B S0 M σ S ρ Q (.sh d)) (r : Rp S v d) : Q v H := a v H S (Ex.refl S) R r
theorem ag_fr {B S0 : Hp} {M : List Addr} {σ : L2.St} {H S : Hp} {ρ : En} {Q : VK} {ds : List D} {vs : List V} {p : Addr} (R : Rel B S0 M σ H S ρ) (a : AG B S0 M σ S ρ Q (.fr ds)) (r : RpL S vs ds) (hp : H p = none) : Q (.ref p) (upd H p (.lst vs)) :=
  a (.ref p) _ S (Ex.refl S) (R.lay hp) ⟨p, vs, rfl, upd_same, r, R.nobody hp⟩
theorem ag_tup {B S0 : Hp} {M : List Addr} {σ : L2.St} {H S : Hp} {ρ : En} {Q : VK} {ds : List D} {vs : List V} {p : Addr} (R : Rel B S0 M σ H S ρ) (a : AG B S0 M σ S ρ Q (.sh (.tuple ds))) (r : RpL S vs ds) (hp : H p = none) : Q (.ref p) (upd H p (.tup vs)) :=
  a (.ref p) _ _ (Ex.new (R.fresh hp).2) (R.pub hp) (Rp.tup upd_same (RpL.mono (Ex.new (R.fresh hp).2) _ r))
def szOk (n : Nat) : Bool := decide (n ≤ 1000000)
theorem sz_line {n : Nat} (h : szOk n = true) : n ≤ sizeLine := by
  have := of_decide_eq_true h
  rw [sizeLine_eq]; omega
theorem sz_lt {n : Nat} (h : szOk n = true) : n < sizeLine := by
  have := of_decide_eq_true h
  rw [sizeLine_eq]; omega
def dAdd : D → D → Option Rv
  | .int a, .int b => some (.sh (.int (a + b)))
  | .str a, .str b => if szOk (a.length + b.length) = true then some (.sh (.str (a ++ b))) else none
  | .list a, .list b => if szOk (a.length + b.length) = true then some (.fr (a ++ b)) else none
  | .tuple a, .tuple b => if szOk (a.length + b.length) = true then some (.sh (.tuple (a ++ b))) else none
  | _, _ => none
def rAddD (K : PySem.W.Frag) : R2 := fun x y H Q => (rI0 fun i j => .int (i + j)) x y H Q ∨ (∃ i j, x = .str i ∧ y = .str j ∧ i.length + j.length ≤ sizeLine ∧ Q (.str (i ++ j)) H) ∨ rCat x y H Q ∨ rCatA K x y H Q
theorem op_addD {X : Cx} : OpR X (binaryOp .Add) (rAddD X.K) := op_add.or (op_add_str.or (op_cat.or op_catA))
theorem g_add {K : PySem.W.Frag} : OpG (rAddD K) dAdd := fun B S0 M σ H S ρ x y d e rv Q R rx ry h a => by
  unfold dAdd at h
  split at h
  · cases h
    exact .inl ⟨_, _, rx, ry, ag_sh R a rfl⟩
  · split at h
    · rename_i hz
      cases h
      exact .inr (.inl ⟨_, _, rx, ry, sz_line hz, ag_sh R a rfl⟩)
    · cases h
  · split at h
    · rename_i hz
      cases h
      obtain ⟨l, xs, rfl, h1, r1⟩ := rx
      obtain ⟨m, ys, rfl, h2, r2⟩ := ry
      exact .inr (.inr (.inl ⟨l, m, xs, ys, rfl, rfl, R.sub _ _ h1, R.sub _ _ h2, by rw [r1.length, r2.length]; exact sz_line hz, fun p hp => ag_fr R a (r1.append r2) hp⟩))
    · cases h
  · rename_i u w
    split at h
    · rename_i hz
      cases h
      obtain ⟨l, xs, rfl, h1, r1⟩ := rx
      obtain ⟨m, ys, rfl, h2, r2⟩ := ry
      refine .inr (.inr (.inr ⟨l, m, xs, ys, rfl, rfl, SqT.of (R.sub _ _ h1), SqT.of (R.sub _ _ h2), by rw [r1.length, r2.length]; exact sz_line hz, fun e => ?_, fun _ e => ?_, fun _ _ p hp => ?_⟩))
      · subst e
        have e0 : u = [] := List.eq_nil_of_length_eq_zero r1.length.symm
        subst e0
        exact ag_sh R a (Rp.tup h2 r2)
      · subst e
        have e0 : w = [] := List.eq_nil_of_length_eq_zero r2.length.symm
        subst e0
        exact ag_sh R a (by rw [List.append_nil]; exact Rp.tup h1 r1)
      · exact ag_tup R a (r1.append r2) hp
    · cases h
  · cases h
end
end DL

set_option Elab.async false
set_option linter.all false
set_option maxRecDepth 100000
set_option maxHeartbeats 4000000
namespace DL
open PySem PySem.Spec PyProof.Rows L2
variable [Wr]
/-! ### lists of one kind -/
def intsOf : List D → Option (List Int)
  | [] => some []
  | .int i :: ds => (intsOf ds).map (i :: ·)
  | _ :: _ => none
def boolsOf : List D → Option (List Bool)
  | [] => some []
  | .bool i :: ds => (boolsOf ds).map (i :: ·)
  | _ :: _ => none
def strsOf : List D → Option (List Str)
  | [] => some []
  | .str i :: ds => (strsOf ds).map (i :: ·)
  | _ :: _ => none
theorem intsOf_eq : ∀ {ds : List D} {ns : List Int}, intsOf ds = some ns → ds = ns.map .int
  | [], _, h => by cases h; rfl
  | .int i :: ds, ns, h => by
    simp only [intsOf, Option.map_eq_some_iff] at h
    obtain ⟨l, h1, rfl⟩ := h
    rw [intsOf_eq h1]; rfl
theorem boolsOf_eq : ∀ {ds : List D} {ns : List Bool}, boolsOf ds = some ns → ds = ns.map .bool
  | [], _, h => by cases h; rfl
  | .bool i :: ds, ns, h => by
    simp only [boolsOf, Option.map_eq_some_iff] at h
    obtain ⟨l, h1, rfl⟩ := h
    rw [boolsOf_eq h1]; rfl
theorem strsOf_eq : ∀ {ds : List D} {ns : List Str}, strsOf ds = some ns → ds = ns.map .str
  | [], _, h => by cases h; rfl
  | .str i :: ds, ns, h => by
    simp only [strsOf, Option.map_eq_some_iff] at h
    obtain ⟨l, h1, rfl⟩ := h
    rw [strsOf_eq h1]; rfl
@[simp] theorem intsOf_map (ns : List Int) : intsOf (ns.map .int) = some ns := by
  induction ns with
  | nil => rfl
  | cons n ns ih => simp [intsOf, ih]
@[simp] theorem boolsOf_map (ns : List Bool) : boolsOf (ns.map .bool) = some ns := by
  induction ns with
  | nil => rfl
  | cons n ns ih => simp [boolsOf, ih]
@[simp] theorem strsOf_map (ns : List Str) : strsOf (ns.map .str) = some ns := by
  induction ns with
  | nil => rfl
  | cons n ns ih => simp [strsOf, ih]
section
variable {ER : Er} {ta tb tc te : TE} {fa fb fc : Fd} {fe : Fe}
/-! ### arithmetic -/
def dSub : D → D → Option Rv
  | .int a, .int b => some (.sh (.int (a - b)))
  | _, _ => none
theorem g_sub : OpG (rI0 fun i j => .int (i - j)) dSub := fun B S0 M σ H S ρ x y d e rv Q R rx ry h a => by
  unfold dSub at h
  split at h
  · cases h; exact ⟨_, _, rx, ry, ag_sh R a rfl⟩
  · cases h
def smI (i : Int) : Bool := Nat.ble i.natAbs 18446744073709551615
theorem smI_ok {i : Int} (h : smI i = true) : -(2 ^ 64) < i ∧ i < 2 ^ 64 := by
  have := Nat.le_of_ble_eq_true h
  have e : (2 : Int) ^ 64 = 18446744073709551616 := by decide
  rw [e]; omega
def s62 (i : Int) : Bool := Nat.ble i.natAbs 4611686018427387903
theorem s62_ok {i : Int} (h : s62 i = true) : -(2 ^ 62) ≤ i ∧ i < 2 ^ 62 := by
  have := Nat.le_of_ble_eq_true h
  have e : (2 : Int) ^ 62 = 4611686018427387904 := by decide
  rw [e]; omega
def s30 (i : Int) : Bool := Nat.ble i.natAbs 1073741823
theorem s30_ok {i : Int} (h : s30 i = true) : i < 1073741824 := by
  have := Nat.le_of_ble_eq_true h
  omega
def dMul : D → D → Option Rv
  | .int a, .int b => if (smI a || smI b) = true then some (.sh (.int (a * b))) else none
  | .list xs, .int k => if (s62 k && szOk (xs.length * k.toNat)) = true then some (.fr (List.replicate k.toNat xs).flatten) else none
  | _, _ => none
def rMulD : R2 := fun x y H Q => (rI CMul fun i j => .int (i * j)) x y H Q ∨ rRep x y H Q
theorem op_mulD {X : Cx} : OpR X (binaryOp .Mult) rMulD := op_mul.or op_rep
theorem g_mul : OpG rMulD dMul := fun B S0 M σ H S ρ x y d e rv Q R rx ry h a => by
  unfold dMul at h
  split at h
  · split at h
    · rename_i hz
      cases h
      refine .inl ⟨_, _, rx, ry, ?_, ag_sh R a rfl⟩
      rcases Bool.or_eq_true_iff.mp hz with z | z
      · exact .inl (smI_ok z)
      · exact .inr (smI_ok z)
    · cases h
  · split at h
    · rename_i hz
      cases h
      simp only [Bool.and_eq_true, decide_eq_true_eq] at hz
      have hk := s62_ok hz.1
      have e2 : (2 : Int) ^ 62 = 4611686018427387904 := by decide
      rw [e2] at hk
      obtain ⟨l, xs, rfl, h1, r1⟩ := rx
      refine .inr ⟨l, _, xs, rfl, ry, R.sub _ _ h1, ?_, ?_, ?_, fun p hp => ag_fr R a (r1.rep _) hp⟩
      · have e : (2 : Int) ^ 63 = 9223372036854775808 := by decide
        rw [e]; omega
      · have e : (2 : Int) ^ 63 = 9223372036854775808 := by decide
        rw [e]; omega
      · rw [r1.length]; exact sz_line hz.2
    · cases h
  · cases h
def dDiv : D → D → Option Rv
  | .int a, .int b => if (decide (0 < b) && s30 b) = true then some (.sh (.int (a / b))) else none
  | _, _ => none
theorem g_div : OpG (rI CDiv fun i j => .int (i / j)) dDiv := fun B S0 M σ H S ρ x y d e rv Q R rx ry h a => by
  unfold dDiv at h
  split at h
  · split at h
    · rename_i hz
      cases h
      simp only [Bool.and_eq_true, decide_eq_true_eq] at hz
      exact ⟨_, _, rx, ry, ⟨hz.1, s30_ok hz.2⟩, ag_sh R a rfl⟩
    · cases h
  · cases h
def dMod : D → D → Option Rv
  | .int a, .int b => if decide (0 < b) = true then some (.sh (.int (a % b))) else none
  | _, _ => none
theorem g_mod : OpG (rI (fun _ j => 0 < j) fun i j => .int (i % j)) dMod := fun B S0 M σ H S ρ x y d e rv Q R rx ry h a => by
  unfold dMod at h
  split at h
  · split at h
    · rename_i hz
      cases h
      exact ⟨_, _, rx, ry, of_decide_eq_true hz, ag_sh R a rfl⟩
    · cases h
  · cases h
def dPow : D → D → Option Rv
  | .int a, .int b => if (decide (0 ≤ b) && decide (b ≤ 1000) && smI a && smI (-a)) = true then some (.sh (.int (a ^ b.toNat))) else none
  | _, _ => none
theorem g_pow : OpG (rI CPow fun i j => .int (i ^ j.toNat)) dPow := fun B S0 M σ H S ρ x y d e rv Q R rx ry h a => by
  unfold dPow at h
  split at h
  · split at h
    · rename_i hz
      cases h
      simp only [Bool.and_eq_true, decide_eq_true_eq] at hz
      refine ⟨_, _, rx, ry, ⟨hz.1.1.1, by omega, ?_⟩, ag_sh R a rfl⟩
      have h1 := smI_ok hz.1.2
      have h2 := smI_ok hz.2
      have e : (2 : Int) ^ 64 = 18446744073709551616 := by decide
      have e' : (2 : Nat) ^ 64 = 18446744073709551616 := by decide
      rw [e] at h1 h2
      rw [e']; omega
    · cases h
  · cases h
def dNegF (fa : Fd) : Fe := fun ρ => (fa ρ).bind fun p => match p.1 with
  | .int i => .ok (.sh (.int (-i)), p.2)
  | _ => .no
theorem re_neg (ha : RD ER ta fa) : RE ER (tUn (rU fun i => .int (-i)) ta) (dNegF fa) := ⟨fun B S0 M σ H S ρ Q R a => by
  refine ha.go B S0 M σ H S ρ _ R (AD.bindE a fun d ρ1 x H1 S1 e1 R1 r1 a1 => ?_)
  cases d with
  | int i => exact ⟨i, r1, a1 (.int (-i)) H1 S1 (Ex.refl S1) R1 rfl⟩
  | _ => exact (show False from a1).elim⟩
/-! ### order -/
def ltD : D → D → Option Bool
  | .int a, .int b => some (decide (a < b))
  | .str a, .str b => some (decide (a.cps.toList < b.cps.toList))
  | _, _ => none
def leD : D → D → Option Bool
  | .int a, .int b => some (decide (a ≤ b))
  | .str a, .str b => some (!decide (b.cps.toList < a.cps.toList))
  | _, _ => none
def bRv (o : Option Bool) : Option Rv := o.map fun b => .sh (.bool b)
def dLt (d e : D) : Option Rv := bRv (ltD d e)
def dLe (d e : D) : Option Rv := bRv (leD d e)
def dGt (d e : D) : Option Rv := bRv (ltD e d)
def dGe (d e : D) : Option Rv := bRv (leD e d)
def rLtD : R2 := fun x y H Q => (rI0 fun i j => .bl (decide (i < j))) x y H Q ∨ (∃ i j, x = .str i ∧ y = .str j ∧ Q (.bl (decide (i.cps.toList < j.cps.toList))) H)
def rLeD : R2 := fun x y H Q => (rI0 fun i j => .bl (decide (i ≤ j))) x y H Q ∨ (∃ i j, x = .str i ∧ y = .str j ∧ Q (.bl (!decide (j.cps.toList < i.cps.toList))) H)
def rGtD : R2 := fun x y H Q => (rI0 fun i j => .bl (decide (j < i))) x y H Q ∨ (∃ i j, x = .str i ∧ y = .str j ∧ Q (.bl (decide (j.cps.toList < i.cps.toList))) H)
def rGeD : R2 := fun x y H Q => (rI0 fun i j => .bl (decide (j ≤ i))) x y H Q ∨ (∃ i j, x = .str i ∧ y = .str j ∧ Q (.bl (!decide (i.cps.toList < j.cps.toList))) H)
theorem op_ltD {X : Cx} : OpR X (compareOp .Lt) rLtD := op_lt.or op_lt_str
theorem op_leD {X : Cx} : OpR X (compareOp .LtE) rLeD := op_le.or op_le_str
theorem op_gtD {X : Cx} : OpR X (compareOp .Gt) rGtD := op_gt.or op_gt_str
theorem op_geD {X : Cx} : OpR X (compareOp .GtE) rGeD := op_ge.or op_ge_str
theorem bRv_some {o : Option Bool} {rv : Rv} (h : bRv o = some rv) : ∃ b, o = some b ∧ rv = .sh (.bool b) := by
  cases o with
  | none => cases h
  | some b => cases h; exact ⟨b, rfl, rfl⟩
theorem g_lt : OpG rLtD dLt := fun B S0 M σ H S ρ x y d e rv Q R rx ry h a => by
  obtain ⟨b, h', rfl⟩ := bRv_some h
  clear h
  unfold ltD at h'
  split at h'
  · cases h'; exact .inl ⟨_, _, rx, ry, ag_sh R a rfl⟩
  · cases h'; exact .inr ⟨_, _, rx, ry, ag_sh R a rfl⟩
  · cases h'
theorem g_le : OpG rLeD dLe := fun B S0 M σ H S ρ x y d e rv Q R rx ry h a => by
  obtain ⟨b, h', rfl⟩ := bRv_some h
  clear h
  unfold leD at h'
  split at h'
  · cases h'; exact .inl ⟨_, _, rx, ry, ag_sh R a rfl⟩
  · cases h'; exact .inr ⟨_, _, rx, ry, ag_sh R a rfl⟩
  · cases h'
theorem g_gt : OpG rGtD dGt := fun B S0 M σ H S ρ x y d e rv Q R rx ry h a => by
  obtain ⟨b, h', rfl⟩ := bRv_some h
  clear h
  unfold ltD at h'
  split at h'
  · cases h'; exact .inl ⟨_, _, rx, ry, ag_sh R a rfl⟩
  · cases h'; exact .inr ⟨_, _, rx, ry, ag_sh R a rfl⟩
  · cases h'
theorem g_ge : OpG rGeD dGe := fun B S0 M σ H S ρ x y d e rv Q R rx ry h a => by
  obtain ⟨b, h', rfl⟩ := bRv_some h
  clear h
  unfold leD at h'
  split at h'
  · cases h'; exact .inl ⟨_, _, rx, ry, ag_sh R a rfl⟩
  · cases h'; exact .inr ⟨_, _, rx, ry, ag_sh R a rfl⟩
  · cases h'
/-! ### equality, in, is -/
def okD (d : D) : Bool := plainD d && SeqAt.shaped d
def dEq (d e : D) : Option Rv := if (okD d && okD e) = true then some (.sh (.bool (PyData.eqv d e))) else none
def dNe (d e : D) : Option Rv := if (okD d && okD e) = true then some (.sh (.bool (!PyData.eqv d e))) else none
theorem okD2 {d e : D} (h : (okD d && okD e) = true) : (plainD d = true ∧ SeqAt.shaped d = true) ∧ (plainD e = true ∧ SeqAt.shaped e = true) := by
  have := Bool.and_eq_true_iff.mp h
  exact ⟨Bool.and_eq_true_iff.mp this.1, Bool.and_eq_true_iff.mp this.2⟩
theorem g_eq {K : PySem.W.Frag} : OpG (rEqD K) dEq := fun B S0 M σ H S ρ x y d e rv Q R rx ry h a => by
  unfold dEq at h
  split at h
  · rename_i hz
    cases h
    obtain ⟨⟨h1, h2⟩, h3, h4⟩ := okD2 hz
    exact ⟨d, e, Rp.dp R.sub _ rx h1, Rp.dp R.sub _ ry h3, h2, h4, ag_sh R a rfl⟩
  · cases h
theorem g_ne {K : PySem.W.Frag} : OpG (rNeD K) dNe := fun B S0 M σ H S ρ x y d e rv Q R rx ry h a => by
  unfold dNe at h
  split at h
  · rename_i hz
    cases h
    obtain ⟨⟨h1, h2⟩, h3, h4⟩ := okD2 hz
    exact ⟨d, e, Rp.dp R.sub _ rx h1, Rp.dp R.sub _ ry h3, h2, h4, ag_sh R a rfl⟩
  · cases h
def flatD : D → Bool
  | .none => true
  | .bool _ => true
  | .int _ => true
  | .str _ => true
  | _ => false
theorem flat_of {S : Hp} {v : V} {d : D} (r : Rp S v d) (f : flatD d = true) : flatV v = true := by
  cases d with
  | none => rw [show v = .non from r]; rfl
  | bool b => rw [show v = .bl b from r]; rfl
  | int b => rw [show v = .int b from r]; rfl
  | str b => rw [show v = .str b from r]; rfl
  | _ => cases f
theorem eqV_of {S : Hp} {v w : V} {d e : D} (r : Rp S v d) (q : Rp S w e) (f : flatD d = true) (g : flatD e = true) : eqV v w = PyData.eqv d e := by
  cases d with
  | none =>
    rw [show v = .non from r]
    cases e with
    | none => rw [show w = .non from q]; simp [eqV, PyData.eqv]
    | bool b => rw [show w = .bl b from q]; simp [eqV, PyData.eqv]
    | int b => rw [show w = .int b from q]; simp [eqV, PyData.eqv]
    | str b => rw [show w = .str b from q]; simp [eqV, PyData.eqv]
    | _ => cases g
  | bool c =>
    rw [show v = .bl c from r]
    cases e with
    | none => rw [show w = .non from q]; simp [eqV, PyData.eqv]
    | bool b => rw [show w = .bl b from q]; simp [eqV, PyData.eqv]
    | int b => rw [show w = .int b from q]; simp [eqV, PyData.eqv]
    | str b => rw [show w = .str b from q]; simp [eqV, PyData.eqv]
    | _ => cases g
  | int c =>
    rw [show v = .int c from r]
    cases e with
    | none => rw [show w = .non from q]; simp [eqV, PyData.eqv]
    | bool b => rw [show w = .bl b from q]; simp [eqV, PyData.eqv]
    | int b => rw [show w = .int b from q]; simp [eqV, PyData.eqv]
    | str b => rw [show w = .str b from q]; simp [eqV, PyData.eqv]
    | _ => cases g
  | str c =>
    rw [show v = .str c from r]
    cases e with
    | none => rw [show w = .non from q]; simp [eqV, PyData.eqv]
    | bool b => rw [show w = .bl b from q]; simp [eqV, PyData.eqv]
    | int b => rw [show w = .int b from q]; simp [eqV, PyData.eqv]
    | str b => rw [show w = .str b from q]; simp [eqV, PyData.eqv]
    | _ => cases g
  | _ => cases f
theorem flats_of {S : Hp} : ∀ {ds : List D} {vs : List V}, RpL S vs ds → ds.all flatD = true → vs.all flatV = true
  | [], _, h, _ => by rw [show _ = [] from h]; rfl
  | d :: ds, _, ⟨w, ws, e, h, r⟩, f => by
    simp only [List.all_cons, Bool.and_eq_true] at f
    rw [e, List.all_cons, flat_of h f.1, flats_of r f.2]; rfl
theorem inV_of {S : Hp} {v : V} {d : D} (r : Rp S v d) (f : flatD d = true) : ∀ {ds : List D} {vs : List V}, RpL S vs ds → ds.all flatD = true → inV v vs = ds.any fun z => PyData.eqv z d
  | [], _, h, _ => by rw [show _ = [] from h]; rfl
  | z :: ds, _, ⟨w, ws, e, h, q⟩, g => by
    simp only [List.all_cons, Bool.and_eq_true] at g
    have ih := inV_of r f q g.2
    unfold inV at ih ⊢
    rw [e, List.any_cons, List.any_cons, eqV_of h r g.1 f, ih]
def inD (d e : D) : Option Bool := match e with
  | .list ds => if (flatD d && ds.all flatD) = true then some (ds.any fun z => PyData.eqv z d) else if (okD d && okD (.list ds)) = true then some (ds.any fun z => PyData.eqv z d) else none
  | .tuple ds => if (flatD d && ds.all flatD) = true then some (ds.any fun z => PyData.eqv z d) else none
  | .str z => match d with
    | .str c => match c.cps.toList with
      | [k] => some (decide (k ∈ z.cps.toList))
      | _ => none
    | _ => none
  | _ => none
def dIn (d e : D) : Option Rv := bRv (inD d e)
def dNotIn (d e : D) : Option Rv := bRv ((inD d e).map (!·))
def rInAll (K : PySem.W.Frag) : R2 := fun x y H Q => rIn K false x y H Q ∨ rInD K x y H Q ∨ (∃ (c : Nat) (z : Str), x = .str ⟨#[c]⟩ ∧ y = .str z ∧ Q (.bl (decide (c ∈ z.cps.toList))) H)
def rNotInAll (K : PySem.W.Frag) : R2 := fun x y H Q => rIn K true x y H Q ∨ rNotInD K x y H Q ∨ (∃ (c : Nat) (z : Str), x = .str ⟨#[c]⟩ ∧ y = .str z ∧ Q (.bl (!decide (c ∈ z.cps.toList))) H)
theorem op_inAll {X : Cx} (hu : X.A.units + 65 < cLine) : OpR X (compareOp .In) (rInAll X.K) := op_in_seq.or ((op_inD hu).or op_in_sign)
theorem op_notInAll {X : Cx} (hu : X.A.units + 65 < cLine) : OpR X (compareOp .NotIn) (rNotInAll X.K) := op_notIn_seq.or ((op_notInD hu).or op_notIn_sign)
theorem str_one {c : Str} {k : Nat} (h : c.cps.toList = [k]) : c = ⟨#[k]⟩ := by
  obtain ⟨a⟩ := c
  have : a = #[k] := by
    apply Array.ext'
    simpa using h
  rw [this]
/-- one of the three ways -/
theorem in_ways {K : PySem.W.Frag} {S H : Hp} {x y : V} {d e : D} {b : Bool} (sub : Ex S H) (rx : Rp S x d) (ry : Rp S y e) (h : inD d e = some b) :
    (∃ p xs, y = .ref p ∧ (SqL K H p xs ∨ SqT K H p xs) ∧ flatV x = true ∧ xs.all flatV = true ∧ inV x xs = b) ∨ (∃ ds, Dp K H x d ∧ Dp K H y (.list ds) ∧ SeqAt.shaped d = true ∧ SeqAt.shaped (.list ds) = true ∧ (ds.any fun z => PyData.eqv z d) = b) ∨
    ∃ (c : Nat) (z : Str), x = .str ⟨#[c]⟩ ∧ y = .str z ∧ decide (c ∈ z.cps.toList) = b := by
  unfold inD at h
  split at h
  · rename_i ds
    obtain ⟨p, xs, rfl, h1, r1⟩ := ry
    split at h
    · rename_i hz
      cases h
      have f := Bool.and_eq_true_iff.mp hz
      exact .inl ⟨p, xs, rfl, .inl (SqL.of (sub _ _ h1)), flat_of rx f.1, flats_of r1 f.2, inV_of rx f.1 r1 f.2⟩
    · split at h
      · rename_i hz
        cases h
        obtain ⟨⟨h1', h2⟩, h3, h4⟩ := okD2 hz
        exact .inr (.inl ⟨ds, Rp.dp sub _ rx h1', Rp.dp sub _ (Rp.lst h1 r1) h3, h2, h4, rfl⟩)
      · cases h
  · rename_i ds
    obtain ⟨p, xs, rfl, h1, r1⟩ := ry
    split at h
    · rename_i hz
      cases h
      have f := Bool.and_eq_true_iff.mp hz
      exact .inl ⟨p, xs, rfl, .inr (SqT.of (sub _ _ h1)), flat_of rx f.1, flats_of r1 f.2, inV_of rx f.1 r1 f.2⟩
    · cases h
  · split at h
    · split at h
      · rename_i k hk
        cases h
        exact .inr (.inr ⟨k, _, by rw [show x = .str _ from rx, str_one hk], ry, rfl⟩)
      · cases h
    · cases h
  · cases h
theorem g_in {K : PySem.W.Frag} : OpG (rInAll K) dIn := fun B S0 M σ H S ρ x y d e rv Q R rx ry h a => by
  obtain ⟨b, h', rfl⟩ := bRv_some h
  rcases in_ways (K := K) R.sub rx ry h' with ⟨p, xs, e1, h1, h2, h3, h4⟩ | ⟨ds, h1, h2, h3, h4, h5⟩ | ⟨c, z, h1, h2, h3⟩
  · exact .inl ⟨p, xs, e1, h1, h2, h3, ag_sh R a (by show V.bl (inV x xs) = _; rw [h4])⟩
  · exact .inr (.inl ⟨d, ds, h1, h2, h3, h4, ag_sh R a (by show V.bl _ = _; rw [h5])⟩)
  · exact .inr (.inr ⟨c, z, h1, h2, ag_sh R a (by show V.bl _ = _; rw [h3])⟩)
theorem g_notIn {K : PySem.W.Frag} : OpG (rNotInAll K) dNotIn := fun B S0 M σ H S ρ x y d e rv Q R rx ry h a => by
  obtain ⟨b', h', rfl⟩ := bRv_some h
  obtain ⟨b, h'', rfl⟩ := Option.map_eq_some_iff.mp h'
  rcases in_ways (K := K) R.sub rx ry h'' with ⟨p, xs, e1, h1, h2, h3, h4⟩ | ⟨ds, h1, h2, h3, h4, h5⟩ | ⟨c, z, h1, h2, h3⟩
  · exact .inl ⟨p, xs, e1, h1, h2, h3, ag_sh R a (by show V.bl (!inV x xs) = _; rw [h4])⟩
  · exact .inr (.inl ⟨d, ds, h1, h2, h3, h4, ag_sh R a (by show V.bl _ = _; rw [h5])⟩)
  · exact .inr (.inr ⟨c, z, h1, h2, ag_sh R a (by show V.bl _ = _; rw [h3])⟩)
def dIsB : D → D → Option Rv
  | .bool a, .bool b => some (.sh (.bool (decide (a = b))))
  | _, _ => none
def dNotB : D → D → Option Rv
  | .bool a, .bool b => some (.sh (.bool (!decide (a = b))))
  | _, _ => none
theorem g_isB : OpG rIsB dIsB := fun B S0 M σ H S ρ x y d e rv Q R rx ry h a => by
  unfold dIsB at h
  split at h
  · cases h; exact ⟨_, _, rx, ry, ag_sh R a rfl⟩
  · cases h
theorem g_notB : OpG rNotB dNotB := fun B S0 M σ H S ρ x y d e rv Q R rx ry h a => by
  unfold dNotB at h
  split at h
  · cases h; exact ⟨_, _, rx, ry, ag_sh R a rfl⟩
  · cases h
end
end DL

set_option Elab.async false
set_option linter.all false
set_option maxRecDepth 100000
set_option maxHeartbeats 4000000
namespace DL
open PySem PySem.Spec PyProof.Rows L2
variable [Wr]
section
variable {ER : Er} {ta tb tc te : TE} {fa fb fc : Fd} {fe fe' : Fe} {t u : TT} {ft fu : Ft}
theorem RE.ofD (h : RD ER te fa) : RE ER te (fun ρ => (fa ρ).bind fun p => .ok (.sh p.1, p.2)) := ⟨fun B S0 M σ H S ρ Q R a => by
  refine h.go B S0 M σ H S ρ Q R ?_
  cases e : fa ρ with
  | ok x => rw [e] at a; exact fun v H' S' e1 r g => a v H' S' e1 r g
  | err c fs => rw [e] at a; exact a
  | no => rw [e] at a; exact (show False from a).elim⟩
/-! ### tests -/
theorem AD.bindT {B S0 : Hp} {M : List Addr} {σ : L2.St} {S : Hp} {Q : Bool → Hp → Prop} {Q' : VK} {x : Res (D × En)} {k : D × En → Res (Bool × En)} (h : AT ER B S0 M σ S Q (x.bind k))
    (c : ∀ d ρ' v H' S', Ex S S' → Rel B S0 M σ H' S' ρ' → Rp S' v d → AT ER B S0 M σ S' Q (k (d, ρ')) → Q' v H') : AD ER B S0 M σ S Q' x := by
  cases x with
  | ok a => exact fun v H' S' e R r => c a.1 a.2 v H' S' e R r (AT.later e h)
  | err c fs => exact h
  | no => exact (show False from h).elim
theorem AT.bindT {B S0 : Hp} {M : List Addr} {σ : L2.St} {S : Hp} {Q Q' : Bool → Hp → Prop} {x : Res (Bool × En)} {k : Bool × En → Res (Bool × En)} (h : AT ER B S0 M σ S Q (x.bind k))
    (c : ∀ b ρ' H' S', Ex S S' → Rel B S0 M σ H' S' ρ' → AT ER B S0 M σ S' Q (k (b, ρ')) → Q' b H') : AT ER B S0 M σ S Q' x := by
  cases x with
  | ok a => exact fun H' S' e R => c a.1 a.2 H' S' e R (AT.later e h)
  | err c fs => exact h
  | no => exact (show False from h).elim
theorem AT.bindE {B S0 : Hp} {M : List Addr} {σ : L2.St} {S : Hp} {Q : VK} {Q' : Bool → Hp → Prop} {x : Res (Bool × En)} {k : Bool × En → Res (Rv × En)} (h : AE ER B S0 M σ S Q (x.bind k))
    (c : ∀ b ρ' H' S', Ex S S' → Rel B S0 M σ H' S' ρ' → AE ER B S0 M σ S' Q (k (b, ρ')) → Q' b H') : AT ER B S0 M σ S Q' x := by
  cases x with
  | ok a => exact fun H' S' e R => c a.1 a.2 H' S' e R (AE.later e h)
  | err c fs => exact h
  | no => exact (show False from h).elim
def bOf : D × En → Res (Bool × En)
  | (.bool b, ρ) => .ok (b, ρ)
  | _ => .no
def dB (f : Fd) : Ft := fun ρ => (f ρ).bind bOf
theorem rt_test (h : RD ER te fa) : RT ER (tTest te) (dB fa) := ⟨fun B S0 M σ H S ρ Q R a => by
  refine h.go B S0 M σ H S ρ _ R (AD.bindT a fun d ρ1 x H1 S1 e1 R1 r1 a1 => ?_)
  cases d with
  | bool b => exact ⟨b, r1, a1 H1 S1 (Ex.refl S1) R1⟩
  | _ => exact (show False from a1).elim⟩
theorem rt_B (h : RD ER te fa) : RT ER (tB te) (dB fa) := rt_test h
def dAnd (f g : Ft) : Ft := fun ρ => (f ρ).bind fun p => if p.1 = true then g p.2 else .ok (false, p.2)
def dOr (f g : Ft) : Ft := fun ρ => (f ρ).bind fun p => if p.1 = true then .ok (true, p.2) else g p.2
def dNot (f : Ft) : Ft := fun ρ => (f ρ).bind fun p => .ok (!p.1, p.2)
theorem rt_and (h : RT ER t ft) (h' : RT ER u fu) : RT ER (tAnd t u) (dAnd ft fu) := ⟨fun B S0 M σ H S ρ Q R a => by
  refine h.go B S0 M σ H S ρ _ R (AT.bindT a fun b ρ1 H1 S1 e1 R1 a1 => ?_)
  cases b with
  | true => exact h'.go B S0 M σ H1 S1 ρ1 Q R1 a1
  | false => exact a1 H1 S1 (Ex.refl S1) R1⟩
theorem rt_or (h : RT ER t ft) (h' : RT ER u fu) : RT ER (tOr t u) (dOr ft fu) := ⟨fun B S0 M σ H S ρ Q R a => by
  refine h.go B S0 M σ H S ρ _ R (AT.bindT a fun b ρ1 H1 S1 e1 R1 a1 => ?_)
  cases b with
  | false => exact h'.go B S0 M σ H1 S1 ρ1 Q R1 a1
  | true => exact a1 H1 S1 (Ex.refl S1) R1⟩
theorem rt_not (h : RT ER t ft) : RT ER (tNot t) (dNot ft) := ⟨fun B S0 M σ H S ρ Q R a => by
  refine h.go B S0 M σ H S ρ _ R (AT.bindT a fun b ρ1 H1 S1 e1 R1 a1 => ?_)
  exact a1 H1 S1 (Ex.refl S1) R1⟩
theorem rt_yes : RT ER tYes (fun ρ => .ok (true, ρ)) := ⟨fun B S0 M σ H S ρ Q R a => a H S (Ex.refl S) R⟩
/-! ### and, or, not as values; one of two -/
def dAndV (fa : Fd) (fb : Fe) : Fe := fun ρ => (dB fa ρ).bind fun p => if p.1 = true then fb p.2 else .ok (.sh (.bool false), p.2)
def dOrV (fa : Fd) (fb : Fe) : Fe := fun ρ => (dB fa ρ).bind fun p => if p.1 = true then .ok (.sh (.bool true), p.2) else fb p.2
def dNotV (fa : Fd) : Fe := fun ρ => (dB fa ρ).bind fun p => .ok (.sh (.bool (!p.1)), p.2)
theorem re_and (h : RD ER ta fa) (h' : RE ER tb fe) : RE ER (tAndV ta tb) (dAndV fa fe) := ⟨fun B S0 M σ H S ρ Q R a => by
  have g := (rt_test h).go B S0 M σ H S ρ _ R (AT.bindE (Q' := fun c H1 => if c = true then tb σ H1 Q else Q (.bl false) H1) a fun b ρ1 H1 S1 e1 R1 a1 => ?_)
  · exact g
  · cases b with
    | true => exact h'.go B S0 M σ H1 S1 ρ1 Q R1 a1
    | false => exact a1 (.bl false) H1 S1 (Ex.refl S1) R1 rfl⟩
theorem re_or (h : RD ER ta fa) (h' : RE ER tb fe) : RE ER (tOrV ta tb) (dOrV fa fe) := ⟨fun B S0 M σ H S ρ Q R a => by
  have g := (rt_test h).go B S0 M σ H S ρ _ R (AT.bindE (Q' := fun c H1 => if c = true then Q (.bl true) H1 else tb σ H1 Q) a fun b ρ1 H1 S1 e1 R1 a1 => ?_)
  · exact g
  · cases b with
    | false => exact h'.go B S0 M σ H1 S1 ρ1 Q R1 a1
    | true => exact a1 (.bl true) H1 S1 (Ex.refl S1) R1 rfl⟩
theorem re_not (h : RD ER ta fa) : RE ER (tNotV ta) (dNotV fa) := ⟨fun B S0 M σ H S ρ Q R a => by
  have g := (rt_test h).go B S0 M σ H S ρ _ R (AT.bindE (Q' := fun c H1 => Q (.bl (!c)) H1) a fun b ρ1 H1 S1 e1 R1 a1 => ?_)
  · exact g
  · exact a1 (.bl (!b)) H1 S1 (Ex.refl S1) R1 rfl⟩
def dIf (f : Ft) (fa fb : Fe) : Fe := fun ρ => (f ρ).bind fun p => if p.1 = true then fa p.2 else fb p.2
theorem re_if (h : RT ER t ft) (ha : RE ER ta fe) (hb : RE ER tb fe') : RE ER (tIf t ta tb) (dIf ft fe fe') := ⟨fun B S0 M σ H S ρ Q R a => by
  refine h.go B S0 M σ H S ρ _ R (AT.bindE a fun b ρ1 H1 S1 e1 R1 a1 => ?_)
  cases b with
  | true => exact ha.go B S0 M σ H1 S1 ρ1 Q R1 a1
  | false => exact hb.go B S0 M σ H1 S1 ρ1 Q R1 a1⟩
/-! ### a < b < c -/
def dChain (g g' : D → D → Option Rv) (fa fb fc : Fd) : Fe := fun ρ => (fa ρ).bind fun p => (fb p.2).bind fun q => match g p.1 q.1 with
  | some (.sh (.bool true)) => (fc q.2).bind fun z => optR (g' q.1 z.1) z.2
  | some (.sh (.bool false)) => .ok (.sh (.bool false), q.2)
  | _ => .no
theorem re_chain {r r' : R2} {g g' : D → D → Option Rv} (ho : OpG r g) (ho' : OpG r' g') (ha : RD ER ta fa) (hb : RD ER tb fb) (hc : RD ER tc fc) : RE ER (tChain r r' ta tb tc) (dChain g g' fa fb fc) := ⟨fun B S0 M σ H S ρ Q R a => by
  refine ha.go B S0 M σ H S ρ _ R (AD.bindE a fun d ρ1 x H1 S1 e1 R1 r1 a1 => ?_)
  refine hb.go B S0 M σ H1 S1 ρ1 _ R1 (AD.bindE a1 fun e ρ2 y H2 S2 e2 R2 r2 a2 => ?_)
  cases eg : g d e with
  | none =>
    simp only [eg] at a2
    exact (show False from a2).elim
  | some rv =>
    refine ho B S0 M σ H2 S2 ρ2 x y d e rv _ R2 (Rp.mono e2 _ r1) r2 eg fun v H3 S3 e3 R3 g3 => ?_
    simp only [eg] at a2
    cases rv with
    | fr ds => exact (show False from a2).elim
    | fk ds => exact (show False from a2).elim
    | sh dv =>
      cases dv with
      | bool b =>
        refine ⟨b, g3, ?_⟩
        cases b with
        | false => exact a2 (.bl false) H3 S3 e3 R3 rfl
        | true =>
          refine hc.go B S0 M σ H3 S3 ρ2 _ R3 (AD.bindE (AE.later e3 a2) fun w ρ3 z H4 S4 e4 R4 r4 a4 => ?_)
          replace a4 : AE ER B S0 M σ S4 Q (optR (g' e w) ρ3) := a4
          cases eg' : g' e w with
          | none => rw [eg'] at a4; exact (show False from a4).elim
          | some rv =>
            rw [eg'] at a4
            exact ho' B S0 M σ H4 S4 ρ3 y z e w rv Q R4 (Rp.mono (e3.trans e4) _ r2) r4 eg' fun v H' S' e5 R5 g5 => a4 v H' S' e5 R5 g5
      | _ => exact (show False from a2).elim⟩
/-! ### argument lists, displays -/
def dNil : Fa := fun ρ => .ok ([], ρ)
def dCons (fa : Fd) (fr : Fa) : Fa := fun ρ => (fa ρ).bind fun p => (fr p.2).bind fun q => .ok (p.1 :: q.1, q.2)
theorem AD.bindA {B S0 : Hp} {M : List Addr} {σ : L2.St} {S : Hp} {Q : List V → Hp → Prop} {Q' : VK} {x : Res (D × En)} {k : D × En → Res (List D × En)} (h : AA ER B S0 M σ S Q (x.bind k))
    (c : ∀ d ρ' v H' S', Ex S S' → Rel B S0 M σ H' S' ρ' → Rp S' v d → AA ER B S0 M σ S' Q (k (d, ρ')) → Q' v H') : AD ER B S0 M σ S Q' x := by
  cases x with
  | ok a => exact fun v H' S' e R r => c a.1 a.2 v H' S' e R r (AA.later e h)
  | err c fs => exact h
  | no => exact (show False from h).elim
theorem AA.bindA {B S0 : Hp} {M : List Addr} {σ : L2.St} {S : Hp} {Q Q' : List V → Hp → Prop} {x : Res (List D × En)} {k : List D × En → Res (List D × En)} (h : AA ER B S0 M σ S Q (x.bind k))
    (c : ∀ d ρ' v H' S', Ex S S' → Rel B S0 M σ H' S' ρ' → RpL S' v d → AA ER B S0 M σ S' Q (k (d, ρ')) → Q' v H') : AA ER B S0 M σ S Q' x := by
  cases x with
  | ok a => exact fun v H' S' e R r => c a.1 a.2 v H' S' e R r (AA.later e h)
  | err c fs => exact h
  | no => exact (show False from h).elim
theorem AA.bindE {B S0 : Hp} {M : List Addr} {σ : L2.St} {S : Hp} {Q : VK} {Q' : List V → Hp → Prop} {x : Res (List D × En)} {k : List D × En → Res (Rv × En)} (h : AE ER B S0 M σ S Q (x.bind k))
    (c : ∀ d ρ' v H' S', Ex S S' → Rel B S0 M σ H' S' ρ' → RpL S' v d → AE ER B S0 M σ S' Q (k (d, ρ')) → Q' v H') : AA ER B S0 M σ S Q' x := by
  cases x with
  | ok a => exact fun v H' S' e R r => c a.1 a.2 v H' S' e R r (AE.later e h)
  | err c fs => exact h
  | no => exact (show False from h).elim
variable {tr : TA} {fr : Fa}
theorem ra_nil : RA ER tNil dNil := ⟨fun B S0 M σ H S ρ Q R a => a [] H S (Ex.refl S) R RpL.nil⟩
theorem ra_cons (ha : RD ER ta fa) (hr : RA ER tr fr) : RA ER (tCons ta tr) (dCons fa fr) := ⟨fun B S0 M σ H S ρ Q R a => by
  refine ha.go B S0 M σ H S ρ _ R (AD.bindA a fun d ρ1 x H1 S1 e1 R1 r1 a1 => ?_)
  refine hr.go B S0 M σ H1 S1 ρ1 _ R1 (AA.bindA a1 fun ds ρ2 xs H2 S2 e2 R2 r2 a2 => ?_)
  exact a2 (x :: xs) H2 S2 (Ex.refl S2) R2 (.cons (Rp.mono e2 _ r1) r2)⟩
def dTup (f : Fa) : Fe := fun ρ => (f ρ).bind fun p => if szOk p.1.length = true then .ok (.sh (.tuple p.1), p.2) else .no
def dLst (f : Fa) : Fe := fun ρ => (f ρ).bind fun p => if szOk p.1.length = true then .ok (.fr p.1, p.2) else .no
theorem re_tup (h : RA ER tr fr) : RE ER (tTup tr) (dTup fr) := ⟨fun B S0 M σ H S ρ Q R a => by
  refine h.go B S0 M σ H S ρ _ R (AA.bindE a fun ds ρ1 xs H1 S1 e1 R1 r1 a1 => ?_)
  by_cases hz : szOk ds.length = true
  · simp only [if_pos hz] at a1
    exact ⟨by rw [r1.length]; exact sz_line hz, fun p hp => ag_tup R1 (fun v H' S' e R2 g => a1 v H' S' e R2 g) r1 hp⟩
  · simp only [if_neg hz] at a1
    exact (show False from a1).elim⟩
theorem re_lst (h : RA ER tr fr) : RE ER (tLst tr) (dLst fr) := ⟨fun B S0 M σ H S ρ Q R a => by
  refine h.go B S0 M σ H S ρ _ R (AA.bindE a fun ds ρ1 xs H1 S1 e1 R1 r1 a1 => ?_)
  by_cases hz : szOk ds.length = true
  · simp only [if_pos hz] at a1
    exact ⟨by rw [r1.length]; exact sz_line hz, fun p hp => ag_fr R1 (fun v H' S' e R2 g => a1 v H' S' e R2 g) r1 hp⟩
  · simp only [if_neg hz] at a1
    exact (show False from a1).elim⟩
/-! ### calls by data -/
def CallG (r : List V → Hp → VK → Prop) (g : List D → Option Rv) : Prop := ∀ B S0 M σ H S ρ xs ds rv Q, Rel B S0 M σ H S ρ → RpL S xs ds → g ds = some rv → AG B S0 M σ S ρ Q rv → r xs H Q
def dCall (g : List D → Option Rv) (f : Fa) : Fe := fun ρ => (f ρ).bind fun p => optR (g p.1) p.2
theorem re_call {r : List V → Hp → VK → Prop} {g : List D → Option Rv} (hg : CallG r g) (h : RA ER tr fr) : RE ER (tCB r tr) (dCall g fr) := ⟨fun B S0 M σ H S ρ Q R a => by
  refine h.go B S0 M σ H S ρ _ R (AA.bindE a fun ds ρ1 xs H1 S1 e1 R1 r1 a1 => ?_)
  replace a1 : AE ER B S0 M σ S1 Q (optR (g ds) ρ1) := a1
  cases eg : g ds with
  | none => rw [eg] at a1; exact (show False from a1).elim
  | some rv =>
    rw [eg] at a1
    exact hg B S0 M σ H1 S1 ρ1 xs ds rv Q R1 r1 eg fun v H' S' e R2 g => a1 v H' S' e R2 g⟩
theorem RpL.one_inv {S : Hp} {xs : List V} {d : D} (h : RpL S xs [d]) : ∃ v, xs = [v] ∧ Rp S v d := by
  obtain ⟨v, ws, e, h1, h2⟩ := h
  rw [show ws = [] from h2] at e
  exact ⟨v, e, h1⟩
theorem RpL.two_inv {S : Hp} {xs : List V} {d e : D} (h : RpL S xs [d, e]) : ∃ v w, xs = [v, w] ∧ Rp S v d ∧ Rp S w e := by
  obtain ⟨v, ws, e1, h1, h2⟩ := h
  obtain ⟨w, e2, h3⟩ := RpL.one_inv h2
  exact ⟨v, w, by rw [e1, e2], h1, h3⟩
/-- len -/
def lenD : D → Option Nat
  | .list ds => some ds.length
  | .tuple ds => some ds.length
  | .str z => if szOk z.length = true then some z.length else none
  | .dict [(.none, .list ds)] => some ds.length
  | _ => none
def dLen : List D → Option Rv
  | [d] => (lenD d).map fun n => .sh (.int (n : Nat))
  | _ => none
def rLenD (K : PySem.W.Frag) : List V → Hp → VK → Prop := fun xs H Q => ∃ x n, xs = [x] ∧ LenV K x H n ∧ Q (.int n) H
theorem lenV_of {S H : Hp} {v : V} {d : D} {n : Nat} (sub : Ex S H) (r : Rp S v d) (h : lenD d = some n) : LenV Wr.K v H n := by
  unfold lenD at h
  split at h
  · obtain ⟨a, xs, rfl, h1, h2⟩ := r
    cases h
    exact .inl ⟨xs, SqL.of (sub _ _ h1), h2.length.symm⟩
  · obtain ⟨a, xs, rfl, h1, h2⟩ := r
    cases h
    exact .inr ⟨xs, SqT.of (sub _ _ h1), h2.length.symm⟩
  · split at h
    · rename_i hz
      cases h
      rw [show v = .str _ from r]
      exact ⟨sz_line hz, rfl⟩
    · cases h
  · cases h
    obtain ⟨a, rfl, ⟨ns, e, hs⟩ | e⟩ := r
    · injection e with e _
      injection e with _ e
      injection e with e
      exact .inl ⟨ns.map V.int, sqL_mono sub hs, by rw [e, List.length_map, List.length_map]⟩
    · injection e with e _
      injection e with e _
      cases e
  · cases h
theorem g_len : CallG (rLenD Wr.K) dLen := fun B S0 M σ H S ρ xs ds rv Q R r h a => by
  unfold dLen at h
  split at h
  · obtain ⟨n, h1, rfl⟩ := Option.map_eq_some_iff.mp h
    obtain ⟨v, rfl, r1⟩ := RpL.one_inv r
    exact ⟨v, n, rfl, lenV_of R.sub r1 h1, ag_sh R a rfl⟩
  · cases h
def dAllF : List D → Option Rv
  | [.list ds] => (boolsOf ds).map fun bs => .sh (.bool (bs.all id))
  | _ => none
def dAnyF : List D → Option Rv
  | [.list ds] => (boolsOf ds).map fun bs => .sh (.bool (bs.any id))
  | _ => none
def dSumF : List D → Option Rv
  | [.list ds] => (intsOf ds).map fun ns => .sh (.int ns.sum)
  | _ => none
theorem g_all {K : PySem.W.Frag} : CallG (rAll K) dAllF := fun B S0 M σ H S ρ xs ds rv Q R r h a => by
  unfold dAllF at h
  split at h
  · obtain ⟨bs, h1, rfl⟩ := Option.map_eq_some_iff.mp h
    obtain ⟨v, rfl, p, ys, rfl, h2, r1⟩ := RpL.one_inv r
    rw [boolsOf_eq h1] at r1
    exact ⟨p, bs, rfl, by rw [← r1.bools]; exact SqL.of (R.sub _ _ h2), ag_sh R a rfl⟩
  · cases h
theorem g_any {K : PySem.W.Frag} : CallG (rAny K) dAnyF := fun B S0 M σ H S ρ xs ds rv Q R r h a => by
  unfold dAnyF at h
  split at h
  · obtain ⟨bs, h1, rfl⟩ := Option.map_eq_some_iff.mp h
    obtain ⟨v, rfl, p, ys, rfl, h2, r1⟩ := RpL.one_inv r
    rw [boolsOf_eq h1] at r1
    exact ⟨p, bs, rfl, by rw [← r1.bools]; exact SqL.of (R.sub _ _ h2), ag_sh R a rfl⟩
  · cases h
theorem g_sum {K : PySem.W.Frag} : CallG (rSum K) dSumF := fun B S0 M σ H S ρ xs ds rv Q R r h a => by
  unfold dSumF at h
  split at h
  · obtain ⟨bs, h1, rfl⟩ := Option.map_eq_some_iff.mp h
    obtain ⟨v, rfl, p, ys, rfl, h2, r1⟩ := RpL.one_inv r
    rw [intsOf_eq h1] at r1
    exact ⟨p, bs, rfl, by rw [← r1.ints]; exact SqL.of (R.sub _ _ h2), ag_sh R a rfl⟩
  · cases h
/-- tuple(..), list(..) of lists and tuples -/
def dTupleF : List D → Option Rv
  | [.list ds] => some (.sh (.tuple ds))
  | [.tuple ds] => some (.sh (.tuple ds))
  | _ => none
def dListF : List D → Option Rv
  | [.list ds] => some (.fr ds)
  | [.tuple ds] => some (.fr ds)
  | _ => none
def rTupleF (K : PySem.W.Frag) : List V → Hp → VK → Prop := fun xs H Q => ∃ p ys, xs = [.ref p] ∧ ((SqL K H p ys ∧ ∀ l, H l = none → Q (.ref l) (upd H l (.tup ys))) ∨ (SqT K H p ys ∧ Q (.ref p) H))
def rListF (K : PySem.W.Frag) : List V → Hp → VK → Prop := fun xs H Q => ∃ p ys, xs = [.ref p] ∧ (SqL K H p ys ∨ SqT K H p ys) ∧ ∀ l, H l = none → Q (.ref l) (upd H l (.lst ys))
theorem g_tuple {K : PySem.W.Frag} : CallG (rTupleF K) dTupleF := fun B S0 M σ H S ρ xs ds rv Q R r h a => by
  unfold dTupleF at h
  split at h
  · cases h
    obtain ⟨v, rfl, p, ys, rfl, h2, r1⟩ := RpL.one_inv r
    exact ⟨p, ys, rfl, .inl ⟨SqL.of (R.sub _ _ h2), fun l hl => ag_tup R a r1 hl⟩⟩
  · cases h
    obtain ⟨v, rfl, p, ys, rfl, h2, r1⟩ := RpL.one_inv r
    exact ⟨p, ys, rfl, .inr ⟨SqT.of (R.sub _ _ h2), ag_sh R a (Rp.tup h2 r1)⟩⟩
  · cases h
theorem g_list {K : PySem.W.Frag} : CallG (rListF K) dListF := fun B S0 M σ H S ρ xs ds rv Q R r h a => by
  unfold dListF at h
  split at h
  · cases h
    obtain ⟨v, rfl, p, ys, rfl, h2, r1⟩ := RpL.one_inv r
    exact ⟨p, ys, rfl, .inl (SqL.of (R.sub _ _ h2)), fun l hl => ag_fr R a r1 hl⟩
  · cases h
    obtain ⟨v, rfl, p, ys, rfl, h2, r1⟩ := RpL.one_inv r
    exact ⟨p, ys, rfl, .inr (SqT.of (R.sub _ _ h2)), fun l hl => ag_fr R a r1 hl⟩
  · cases h
def dIntF : List D → Option Rv
  | [.int i] => some (.sh (.int i))
  | [.bool b] => some (.sh (.int (if b then 1 else 0)))
  | _ => none
def rIntF : List V → Hp → VK → Prop := fun xs H Q => (∃ i, xs = [.int i] ∧ Q (.int i) H) ∨ ∃ k, xs = [.bl k] ∧ Q (.int (if k then 1 else 0)) H
theorem g_int : CallG rIntF dIntF := fun B S0 M σ H S ρ xs ds rv Q R r h a => by
  unfold dIntF at h
  split at h
  · cases h
    obtain ⟨v, rfl, r1⟩ := RpL.one_inv r
    rw [show v = .int _ from r1]
    exact .inl ⟨_, rfl, ag_sh R a rfl⟩
  · cases h
    obtain ⟨v, rfl, r1⟩ := RpL.one_inv r
    rw [show v = .bl _ from r1]
    exact .inr ⟨_, rfl, ag_sh R a rfl⟩
  · cases h
def dMax2 : List D → Option Rv
  | [.int i, .int j] => some (.sh (.int (if j > i then j else i)))
  | _ => none
def dMin2 : List D → Option Rv
  | [.int i, .int j] => some (.sh (.int (if j < i then j else i)))
  | _ => none
def rMax2 : List V → Hp → VK → Prop := fun xs H Q => ∃ i j, xs = [.int i, .int j] ∧ Q (.int (if j > i then j else i)) H
def rMin2 : List V → Hp → VK → Prop := fun xs H Q => ∃ i j, xs = [.int i, .int j] ∧ Q (.int (if j < i then j else i)) H
theorem g_max2 : CallG rMax2 dMax2 := fun B S0 M σ H S ρ xs ds rv Q R r h a => by
  unfold dMax2 at h
  split at h
  · cases h
    obtain ⟨v, w, rfl, r1, r2⟩ := RpL.two_inv r
    rw [show v = .int _ from r1, show w = .int _ from r2]
    exact ⟨_, _, rfl, ag_sh R a rfl⟩
  · cases h
theorem g_min2 : CallG rMin2 dMin2 := fun B S0 M σ H S ρ xs ds rv Q R r h a => by
  unfold dMin2 at h
  split at h
  · cases h
    obtain ⟨v, w, rfl, r1, r2⟩ := RpL.two_inv r
    rw [show v = .int _ from r1, show w = .int _ from r2]
    exact ⟨_, _, rfl, ag_sh R a rfl⟩
  · cases h
def dAbsF : List D → Option Rv
  | [.int i] => some (.sh (.int (if i < 0 then -i else i)))
  | _ => none
def rAbsF : List V → Hp → VK → Prop := fun xs H Q => ∃ i, xs = [.int i] ∧ Q (.int (if i < 0 then -i else i)) H
theorem g_abs : CallG rAbsF dAbsF := fun B S0 M σ H S ρ xs ds rv Q R r h a => by
  unfold dAbsF at h
  split at h
  · cases h
    obtain ⟨v, rfl, r1⟩ := RpL.one_inv r
    rw [show v = .int _ from r1]
    exact ⟨_, rfl, ag_sh R a rfl⟩
  · cases h
end
end DL

set_option Elab.async false
set_option linter.all false
set_option maxRecDepth 100000
set_option maxHeartbeats 4000000
namespace DL
open PySem PySem.Spec PyProof.Rows L2
variable [Wr]
section
variable {ER : Er} {ta tb tc te : TE} {fa fb fc : Fd} {fe fe' : Fe} {t u : TT} {ft fu : Ft} {K : PySem.W.Frag}
/-! ### isinstance -/
def tyName : D → Option String
  | .none => some "NoneType"
  | .bool _ => some "bool"
  | .int _ => some "int"
  | .str _ => some "str"
  | .list _ => some "list"
  | .tuple _ => some "tuple"
  | .dict _ => none
def isiD (T : String) (d : D) : Option Bool := (tyName d).bind (kitB · T)
def dIsi (T : String) (fa : Fd) : Fe := fun ρ => (fa ρ).bind fun p => optR (bRv (isiD T p.1)) p.2
theorem tyX_of {S H : Hp} {v : V} {d : D} {n : String} (sub : Ex S H) (r : Rp S v d) (h : tyName d = some n) : TyX K H v (.type n) := by
  refine .base ?_
  unfold tyName at h
  split at h
  · cases h; rw [show v = .non from r]; exact .non
  · cases h; rw [show v = .bl _ from r]; exact .bl _
  · cases h; rw [show v = .int _ from r]; exact .int _
  · cases h; rw [show v = .str _ from r]; exact .str _
  · cases h; obtain ⟨a, xs, rfl, h1, _⟩ := r; exact .lst (sub _ _ h1)
  · cases h; obtain ⟨a, xs, rfl, h1, _⟩ := r; exact .tup (sub _ _ h1)
  · cases h
theorem re_isi (T : String) (h : RD ER ta fa) : RE ER (tCB (rIsi K) (tCons ta (tCons (tC (.ty T)) tNil))) (dIsi T fa) := ⟨fun B S0 M σ H S ρ Q R a => by
  refine h.go B S0 M σ H S ρ _ R (AD.bindE a fun d ρ1 x H1 S1 e1 R1 r1 a1 => ?_)
  show rIsi K [x, .ty T] H1 Q
  replace a1 : AE ER B S0 M σ S1 Q (optR (bRv (isiD T d)) ρ1) := a1
  unfold isiD at a1
  cases hn : tyName d with
  | none => rw [hn] at a1; exact (show False from a1).elim
  | some n =>
    rw [hn] at a1
    replace a1 : AE ER B S0 M σ S1 Q (optR (bRv (kitB n T)) ρ1) := a1
    cases hk : kitB n T with
    | none => rw [hk] at a1; exact (show False from a1).elim
    | some b =>
      rw [hk] at a1
      exact ⟨x, .ty T, .type n, .type T, b, rfl, .ty T, tyX_of R1.sub r1 hn, kit_ty hk, a1 (.bl b) H1 S1 (Ex.refl S1) R1 rfl⟩⟩
/-- isinstance(x, (T, U)) -/
def isi2D (T U : String) (d : D) : Option Bool := (isiD T d).bind fun b => if b = true then some true else isiD U d
def dIsi2 (T U : String) (fa : Fd) : Fe := fun ρ => (fa ρ).bind fun p => optR (bRv (isi2D T U p.1)) p.2
theorem re_isi2 (T U : String) (h : RD ER ta fa) : RE ER (tCB (rIsiT K) (tCons ta (tCons (tTup (tCons (tC (.ty T)) (tCons (tC (.ty U)) tNil))) tNil))) (dIsi2 T U fa) := ⟨fun B S0 M σ H S ρ Q R a => by
  refine h.go B S0 M σ H S ρ _ R (AD.bindE a fun d ρ1 x H1 S1 e1 R1 r1 a1 => ?_)
  refine ⟨by show 2 ≤ sizeLine; decide, fun p hp => ?_⟩
  show rIsiT K [x, .ref p] (upd H1 p (.tup [.ty T, .ty U])) Q
  replace a1 : AE ER B S0 M σ S1 Q (optR (bRv (isi2D T U d)) ρ1) := a1
  have R2 := R1.lay (o := .tup [.ty T, .ty U]) hp
  unfold isi2D isiD at a1
  cases hn : tyName d with
  | none => rw [hn] at a1; exact (show False from a1).elim
  | some n =>
    rw [hn] at a1
    replace a1 : AE ER B S0 M σ S1 Q (optR (bRv ((kitB n T).bind fun b => if b = true then some true else kitB n U)) ρ1) := a1
    have ty := tyX_of (K := K) R2.sub r1 hn
    cases hk : kitB n T with
    | none => rw [hk] at a1; exact (show False from a1).elim
    | some b =>
      rw [hk] at a1
      cases b with
      | true => exact ⟨x, p, _, .type n, [.type T, .type U], true, rfl, upd_same, .cons (.ty T) (.cons (.ty U) .nil), ty, kitAny_cons (kit_ty hk) (fun z => by cases z) (fun _ => rfl), a1 (.bl true) _ S1 (Ex.refl S1) R2 rfl⟩
      | false =>
        replace a1 : AE ER B S0 M σ S1 Q (optR (bRv (kitB n U)) ρ1) := a1
        cases hk2 : kitB n U with
        | none => rw [hk2] at a1; exact (show False from a1).elim
        | some c =>
          rw [hk2] at a1
          refine ⟨x, p, _, .type n, [.type T, .type U], c, rfl, upd_same, .cons (.ty T) (.cons (.ty U) .nil), ty, kitAny_cons (kit_ty hk) (fun _ => ?_) (fun z => by cases z), a1 (.bl c) _ S1 (Ex.refl S1) R2 rfl⟩
          cases c with
          | true => exact kitAny_cons (kit_ty hk2) (fun z => by cases z) (fun _ => rfl)
          | false => exact kitAny_cons (kit_ty hk2) (fun _ => kitAny_nil) (fun z => by cases z)⟩
/-! ### what a name holds, looked at where it stands -/
def Pk (H S : Hp) (v : V) (d : D) : Prop := Rp S v d ∨ ∃ l vs ds, v = .ref l ∧ d = .list ds ∧ H l = some (.lst vs) ∧ RpL S vs ds
theorem Pk.dp {S H : Hp} {v : V} {d : D} (e : Ex S H) (h : Pk H S v d) (p : plainD d = true) : Dp K H v d := by
  rcases h with h | ⟨l, vs, ds, rfl, rfl, h1, h2⟩
  · exact Rp.dp e d h p
  · exact .lst (SqL.of h1) (RpL.dp e ds h2 p)
def slD : Sl → Option D
  | .sh d => some d
  | .ow ds => some (.list ds)
  | .io ds => some (.list ds)
  | _ => none
theorem Rel.peek {B S0 : Hp} {M : List Addr} {σ : L2.St} {H S : Hp} {ρ : En} (R : Rel B S0 M σ H S ρ) {i : Nat} {d : D} (h : ρ[i]?.bind slD = some d) : ∃ v, σ[i]? = some (some v) ∧ Pk H S v d := by
  cases e : ρ[i]? with
  | none => rw [e] at h; cases h
  | some s =>
    rw [e] at h
    have q := R.ats i s e
    cases s with
    | no => cases h
    | od kvs => cases h
    | sh d' => cases h; obtain ⟨v, ev, r⟩ := q; exact ⟨v, ev, .inl r⟩
    | ow ds => cases h; obtain ⟨l, vs, ev, h1, _, h3, _⟩ := q; exact ⟨.ref l, ev, .inr ⟨l, vs, ds, rfl, rfl, h1, h3⟩⟩
    | io ds => cases h; obtain ⟨l, vs, ev, h1, _, h3, _⟩ := q; exact ⟨.ref l, ev, .inr ⟨l, vs, ds, rfl, rfl, h1, h3⟩⟩
/-- operators that only look -/
def OpK (r : R2) (g : D → D → Option Rv) : Prop := ∀ B S0 M σ H S ρ x y d e rv Q, Rel B S0 M σ H S ρ → Pk H S x d → Pk H S y e → g d e = some rv → AG B S0 M σ S ρ Q rv → r x y H Q
theorem OpK.g {r : R2} {g : D → D → Option Rv} (h : OpK r g) : OpG r g := fun B S0 M σ H S ρ x y d e rv Q R rx ry => h B S0 M σ H S ρ x y d e rv Q R (.inl rx) (.inl ry)
def dOpO (g : D → D → Option Rv) (i : Nat) (fb : Fd) : Fe := fun ρ => if (ρ[i]?.bind slD).isSome = true then (fb ρ).bind fun q => match q.2[i]?.bind slD with
  | some d => optR (g d q.1) q.2
  | none => .no
  else .no
def dOpR (g : D → D → Option Rv) (fa : Fd) (i : Nat) : Fe := fun ρ => (fa ρ).bind fun q => match q.2[i]?.bind slD with
  | some d => optR (g q.1 d) q.2
  | none => .no
theorem re_opO {r : R2} {g : D → D → Option Rv} (ho : OpK r g) (i : Nat) (hb : RD ER tb fb) : RE ER (tOp r (tVar i) tb) (dOpO g i fb) := ⟨fun B S0 M σ H S ρ Q R a => by
  unfold dOpO at a
  split at a
  · rename_i hs
    obtain ⟨d0, h0⟩ := Option.isSome_iff_exists.mp hs
    obtain ⟨v, ev, _⟩ := R.peek h0
    refine ⟨v, ev, ?_⟩
    refine hb.go B S0 M σ H S ρ _ R (AD.bindE a fun e ρ1 y H1 S1 e1 R1 r1 a1 => ?_)
    simp only at a1
    split at a1
    · rename_i d hd
      obtain ⟨v', ev', pk⟩ := R1.peek hd
      rw [ev] at ev'
      injection ev' with ev'; injection ev' with ev'; subst ev'
      cases eg : g d e with
      | none => rw [eg] at a1; exact (show False from a1).elim
      | some rv =>
        rw [eg] at a1
        exact ho B S0 M σ H1 S1 ρ1 v y d e rv Q R1 pk (.inl r1) eg fun v H' S' e R2 g => a1 v H' S' e R2 g
    · exact (show False from a1).elim
  · exact (show False from a).elim⟩
theorem re_opR {r : R2} {g : D → D → Option Rv} (ho : OpK r g) (ha : RD ER ta fa) (i : Nat) : RE ER (tOp r ta (tVar i)) (dOpR g fa i) := ⟨fun B S0 M σ H S ρ Q R a => by
  refine ha.go B S0 M σ H S ρ _ R (AD.bindE a fun e ρ1 y H1 S1 e1 R1 r1 a1 => ?_)
  simp only at a1
  split at a1
  · rename_i d hd
    obtain ⟨v, ev, pk⟩ := R1.peek hd
    refine ⟨v, ev, ?_⟩
    cases eg : g e d with
    | none => rw [eg] at a1; exact (show False from a1).elim
    | some rv =>
      rw [eg] at a1
      exact ho B S0 M σ H1 S1 ρ1 y v e d rv Q R1 (.inl r1) pk eg fun v H' S' e R2 g => a1 v H' S' e R2 g
  · exact (show False from a1).elim⟩
theorem k_eq : OpK (rEqD K) dEq := fun B S0 M σ H S ρ x y d e rv Q R rx ry h a => by
  unfold dEq at h
  split at h
  · rename_i hz
    cases h
    obtain ⟨⟨h1, h2⟩, h3, h4⟩ := okD2 hz
    exact ⟨d, e, Pk.dp R.sub rx h1, Pk.dp R.sub ry h3, h2, h4, ag_sh R a rfl⟩
  · cases h
theorem k_ne : OpK (rNeD K) dNe := fun B S0 M σ H S ρ x y d e rv Q R rx ry h a => by
  unfold dNe at h
  split at h
  · rename_i hz
    cases h
    obtain ⟨⟨h1, h2⟩, h3, h4⟩ := okD2 hz
    exact ⟨d, e, Pk.dp R.sub rx h1, Pk.dp R.sub ry h3, h2, h4, ag_sh R a rfl⟩
  · cases h
theorem Pk.flat {S H : Hp} {v : V} {d : D} (h : Pk H S v d) (f : flatD d = true) : Rp S v d := by
  rcases h with h | ⟨l, vs, ds, rfl, rfl, h1, h2⟩
  · exact h
  · cases f
theorem in_waysK {S H : Hp} {x y : V} {d e : D} {b : Bool} (sub : Ex S H) (rx : Pk H S x d) (ry : Pk H S y e) (h : inD d e = some b) :
    (∃ p xs, y = .ref p ∧ (SqL K H p xs ∨ SqT K H p xs) ∧ flatV x = true ∧ xs.all flatV = true ∧ inV x xs = b) ∨ (∃ ds, Dp K H x d ∧ Dp K H y (.list ds) ∧ SeqAt.shaped d = true ∧ SeqAt.shaped (.list ds) = true ∧ (ds.any fun z => PyData.eqv z d) = b) ∨
    ∃ (c : Nat) (z : Str), x = .str ⟨#[c]⟩ ∧ y = .str z ∧ decide (c ∈ z.cps.toList) = b := by
  rcases ry with ry | ⟨l, vs, ds, rfl, rfl, h1, h2⟩
  · rcases rx with rx | ⟨l, vs, ds, rfl, rfl, h1, h2⟩
    · exact in_ways sub rx ry h
    · unfold inD at h
      split at h
      · rename_i es
        split at h
        · rename_i hz; cases hz
        · split at h
          · rename_i hz
            cases h
            obtain ⟨⟨h1', h2'⟩, h3, h4⟩ := okD2 hz
            exact .inr (.inl ⟨es, Pk.dp sub (.inr ⟨l, vs, ds, rfl, rfl, h1, h2⟩) h1', Rp.dp sub _ ry h3, h2', h4, rfl⟩)
          · cases h
      · split at h
        · rename_i hz; cases hz
        · cases h
      · cases h
      · cases h
  · unfold inD at h
    simp only at h
    split at h
    · rename_i hz
      cases h
      have f := Bool.and_eq_true_iff.mp hz
      exact .inl ⟨l, vs, rfl, .inl (SqL.of h1), flat_of (rx.flat f.1) f.1, flats_of h2 f.2, inV_of (rx.flat f.1) f.1 h2 f.2⟩
    · split at h
      · rename_i hz
        cases h
        obtain ⟨⟨h1', h2'⟩, h3, h4⟩ := okD2 hz
        exact .inr (.inl ⟨ds, Pk.dp sub rx h1', Pk.dp sub (.inr ⟨l, vs, ds, rfl, rfl, h1, h2⟩) h3, h2', h4, rfl⟩)
      · cases h
theorem k_in : OpK (rInAll K) dIn := fun B S0 M σ H S ρ x y d e rv Q R rx ry h a => by
  obtain ⟨b, h', rfl⟩ := bRv_some h
  rcases in_waysK (K := K) R.sub rx ry h' with ⟨p, xs, e1, h1, h2, h3, h4⟩ | ⟨ds, h1, h2, h3, h4, h5⟩ | ⟨c, z, h1, h2, h3⟩
  · exact .inl ⟨p, xs, e1, h1, h2, h3, ag_sh R a (by show V.bl (inV x xs) = _; rw [h4])⟩
  · exact .inr (.inl ⟨d, ds, h1, h2, h3, h4, ag_sh R a (by show V.bl _ = _; rw [h5])⟩)
  · exact .inr (.inr ⟨c, z, h1, h2, ag_sh R a (by show V.bl _ = _; rw [h3])⟩)
theorem k_notIn : OpK (rNotInAll K) dNotIn := fun B S0 M σ H S ρ x y d e rv Q R rx ry h a => by
  obtain ⟨b', h', rfl⟩ := bRv_some h
  obtain ⟨b, h'', rfl⟩ := Option.map_eq_some_iff.mp h'
  rcases in_waysK (K := K) R.sub rx ry h'' with ⟨p, xs, e1, h1, h2, h3, h4⟩ | ⟨ds, h1, h2, h3, h4, h5⟩ | ⟨c, z, h1, h2, h3⟩
  · exact .inl ⟨p, xs, e1, h1, h2, h3, ag_sh R a (by show V.bl (!inV x xs) = _; rw [h4])⟩
  · exact .inr (.inl ⟨d, ds, h1, h2, h3, h4, ag_sh R a (by show V.bl _ = _; rw [h5])⟩)
  · exact .inr (.inr ⟨c, z, h1, h2, ag_sh R a (by show V.bl _ = _; rw [h3])⟩)
/-! ### subscripts -/
theorem RpL.atI {S : Hp} {vs : List V} {ds : List D} {i : Int} {d : D} (r : RpL S vs ds) (h : L2.atI ds i = some d) : ∃ v, L2.atI vs i = some v ∧ Rp S v d := by
  unfold L2.atI at h ⊢
  rw [r.length]
  cases e : ixN ds.length i with
  | none => rw [e] at h; cases h
  | some j =>
    rw [e] at h
    obtain ⟨v, h1, h2⟩ := r.get (i := j) (d := d) h
    exact ⟨v, h1, h2⟩
def ixD (d e : D) : Option D := match e with
  | .int i => match d with
    | .list ds => atI ds i
    | .tuple ds => atI ds i
    | .str z => if szOk z.length = true then (atI z.cps.toList i).map fun c => .str ⟨#[c]⟩ else none
    | .dict [(.none, .list ds)] => atI ds i
    | _ => none
  | _ => none
def dIx (d e : D) : Option Rv := (ixD d e).map .sh
theorem k_ix : OpK (rIx Wr.K) dIx := fun B S0 M σ H S ρ x y d e rv Q R rx ry h a => by
  obtain ⟨z, h', rfl⟩ := Option.map_eq_some_iff.mp h
  clear h
  unfold ixD at h'
  split at h'
  · have ry' := ry.flat rfl
    rw [show y = .int _ from ry']
    split at h'
    · rcases rx with ⟨p, xs, rfl, h1, r1⟩ | ⟨l, vs, ds, rfl, e1, h1, r1⟩
      · obtain ⟨v, h2, r2⟩ := r1.atI h'
        exact .inl ⟨p, xs, _, v, rfl, rfl, SqL.of (R.sub _ _ h1), h2, ag_sh R a r2⟩
      · cases e1
        obtain ⟨v, h2, r2⟩ := r1.atI h'
        exact .inl ⟨l, vs, _, v, rfl, rfl, SqL.of h1, h2, ag_sh R a r2⟩
    · rcases rx with ⟨p, xs, rfl, h1, r1⟩ | ⟨l, vs, ds, rfl, e1, h1, r1⟩
      · obtain ⟨v, h2, r2⟩ := r1.atI h'
        exact .inr (.inl ⟨p, xs, _, v, rfl, rfl, SqT.of (R.sub _ _ h1), h2, ag_sh R a r2⟩)
      · cases e1
    · split at h'
      · rename_i hz
        obtain ⟨c, h2, rfl⟩ := Option.map_eq_some_iff.mp h'
        rcases rx with rx | ⟨l, vs, ds, rfl, e1, h1, r1⟩
        · rw [show x = .str _ from rx]
          exact .inr (.inr ⟨_, _, c, rfl, rfl, sz_line hz, h2, ag_sh R a rfl⟩)
        · cases e1
      · cases h'
    · rename_i ds
      rcases rx with ⟨b, rfl, ⟨ns, e, hs⟩ | e⟩ | ⟨l, vs, es, rfl, e1, h1, r1⟩
      · injection e with e _
        injection e with _ e
        injection e with e
        subst e
        obtain ⟨v, h2, r2⟩ := (RpL.ofInts (S := S) ns).atI h'
        exact .inl ⟨b, _, _, v, rfl, rfl, sqL_mono R.sub hs, h2, ag_sh R a r2⟩
      · injection e with e _
        injection e with e _
        cases e
      · cases e1
    · cases h'
  · cases h'
/-- len(x) of a name -/
def dLenO (i : Nat) : Fe := fun ρ => match ρ[i]?.bind slD with
  | some d => optR (dLen [d]) ρ
  | none => .no
theorem re_lenO (i : Nat) : RE ER (tCB (rLenD Wr.K) (tCons (tVar i) tNil)) (dLenO i) := ⟨fun B S0 M σ H S ρ Q R a => by
  unfold dLenO at a
  split at a
  · rename_i d hd
    obtain ⟨v, ev, pk⟩ := R.peek hd
    refine ⟨v, ev, ?_⟩
    show rLenD Wr.K [v] H Q
    cases eg : lenD d with
    | none => rw [show dLen [d] = none by show Option.map _ (lenD d) = _; rw [eg]; rfl] at a; exact (show False from a).elim
    | some n =>
      rw [show dLen [d] = some (.sh (.int (n : Nat))) by show Option.map _ (lenD d) = _; rw [eg]; rfl] at a
      refine ⟨v, n, rfl, ?_, a (.int n) H S (Ex.refl S) R rfl⟩
      rcases pk with pk | ⟨l, vs, ds, rfl, rfl, h1, r1⟩
      · exact lenV_of R.sub pk eg
      · cases eg
        exact .inl ⟨vs, SqL.of h1, r1.length.symm⟩
  · exact (show False from a).elim⟩
/-! ### slices -/
abbrev Fo := En → Res (Option Int × En)
def AO (ER : Er) (B S0 : Hp) (M : List Addr) (σ : L2.St) (S : Hp) (Q : Option Int → Hp → Prop) : Res (Option Int × En) → Prop
  | .ok (o, ρ') => ∀ H' S', Ex S S' → Rel B S0 M σ H' S' ρ' → Q o H'
  | .err c fs => ∀ H', Kp B M H' → ER c fs H'
  | .no => False
structure RO (ER : Er) (t : TO) (f : Fo) : Prop where
  go : ∀ B S0 M σ H S ρ Q, Rel B S0 M σ H S ρ → AO ER B S0 M σ S Q (f ρ) → t σ H Q
def dNoPart : Fo := fun ρ => .ok (none, ρ)
def iOf : D × En → Res (Option Int × En)
  | (.int i, ρ) => .ok (some i, ρ)
  | _ => .no
def dPart (f : Fd) : Fo := fun ρ => (f ρ).bind iOf
theorem ro_none : RO ER tNoPart dNoPart := ⟨fun B S0 M σ H S ρ Q R a => a H S (Ex.refl S) R⟩
theorem ro_some (h : RD ER ta fa) : RO ER (tPart ta) (dPart fa) := ⟨fun B S0 M σ H S ρ Q R a => by
  refine h.go B S0 M σ H S ρ _ R ?_
  unfold dPart at a
  cases e : fa ρ with
  | ok p =>
    obtain ⟨d, ρ'⟩ := p
    rw [e] at a
    intro v H' S' e1 R1 r1
    cases d with
    | int i => exact ⟨i, r1, a H' S' e1 R1⟩
    | _ => exact (show False from a).elim
  | err c fs => rw [e] at a; exact a
  | no => rw [e] at a; exact (show False from a).elim⟩
def cutD {α : Type} (xs : List α) (lo hi : Option Int) : List α := (xs.drop (HT.sIx xs.length 0 lo)).take (HT.sIx xs.length xs.length hi - HT.sIx xs.length 0 lo)
theorem RpL.cut {S : Hp} {vs : List V} {ds : List D} (r : RpL S vs ds) (lo hi : Option Int) : RpL S (cutV vs lo hi) (cutD ds lo hi) := by
  unfold cutV cutD
  rw [r.length]
  exact (r.drop _).take _
def slcD : D → Option Int → Option Int → Option Rv
  | .list ds, lo, hi => some (.fr (cutD ds lo hi))
  | .tuple ds, lo, hi => some (.sh (.tuple (cutD ds lo hi)))
  | _, _, _ => none
def rSlD (K : PySem.W.Frag) : V → Option Int → Option Int → Hp → VK → Prop := fun x lo hi H Q => rSlL K x lo hi H Q ∨ rSlA K x lo hi H Q
theorem sl_D {X : Cx} : SlR X (rSlD X.K) := sl_list.or sl_tupA
def dSl (fa : Fd) (fl fh : Fo) : Fe := fun ρ => (fa ρ).bind fun p => (fl p.2).bind fun l => (fh l.2).bind fun h => optR (slcD p.1 l.1 h.1) h.2
theorem AO.bindE {B S0 : Hp} {M : List Addr} {σ : L2.St} {S : Hp} {Q : VK} {Q' : Option Int → Hp → Prop} {x : Res (Option Int × En)} {k : Option Int × En → Res (Rv × En)} (h : AE ER B S0 M σ S Q (x.bind k))
    (c : ∀ b ρ' H' S', Ex S S' → Rel B S0 M σ H' S' ρ' → AE ER B S0 M σ S' Q (k (b, ρ')) → Q' b H') : AO ER B S0 M σ S Q' x := by
  cases x with
  | ok a => exact fun H' S' e R => c a.1 a.2 H' S' e R (AE.later e h)
  | err c fs => exact h
  | no => exact (show False from h).elim
variable {tl th : TO} {fl fh : Fo}
theorem cut_whole {α : Type} (ds : List α) (lo hi : Option Int) (h : HT.sIx ds.length 0 lo = 0 ∧ HT.sIx ds.length ds.length hi = ds.length) : cutD ds lo hi = ds := by
  unfold cutD
  rw [h.1, h.2, List.drop_zero, Nat.sub_zero, List.take_length]
theorem re_slice (ha : RD ER ta fa) (hl : RO ER tl fl) (hh : RO ER th fh) : RE ER (tSl (rSlD K) ta tl th) (dSl fa fl fh) := ⟨fun B S0 M σ H S ρ Q R a => by
  refine ha.go B S0 M σ H S ρ _ R (AD.bindE a fun d ρ1 x H1 S1 e1 R1 r1 a1 => ?_)
  refine hl.go B S0 M σ H1 S1 ρ1 _ R1 (AO.bindE a1 fun lo ρ2 H2 S2 e2 R2 a2 => ?_)
  refine hh.go B S0 M σ H2 S2 ρ2 _ R2 (AO.bindE a2 fun hi ρ3 H3 S3 e3 R3 a3 => ?_)
  replace a3 : AE ER B S0 M σ S3 Q (optR (slcD d lo hi) ρ3) := a3
  have r3 := Rp.mono (e2.trans e3) _ r1
  unfold slcD at a3
  cases d with
  | list ds =>
    obtain ⟨p, xs, rfl, h1, r⟩ := r3
    exact .inl ⟨p, xs, rfl, SqL.of (R3.sub _ _ h1), fun q hq => ag_fr R3 (fun v H' S' e R4 g => a3 v H' S' e R4 g) (r.cut lo hi) hq⟩
  | tuple ds =>
    obtain ⟨p, xs, rfl, h1, r⟩ := r3
    refine .inr ⟨p, xs, rfl, SqT.of (R3.sub _ _ h1), fun hw => ?_, fun _ q hq => ag_tup R3 (fun v H' S' e R4 g => a3 v H' S' e R4 g) (r.cut lo hi) hq⟩
    rw [r.length] at hw
    refine a3 (.ref p) H3 S3 (Ex.refl S3) R3 ?_
    show Rp S3 (.ref p) (.tuple (cutD ds lo hi))
    rw [cut_whole ds lo hi hw]
    exact Rp.tup h1 r
  | _ => exact (show False from a3).elim⟩
end
end DL

set_option Elab.async false
set_option linter.all false
set_option maxRecDepth 100000
set_option maxHeartbeats 4000000
/-! enumerate of a tuple -/
namespace PySem
open Sem (wp)
open AutoSeq1 (wpAny_loadPart')
theorem dl_enumerate_newT (l : Addr) (items : Array Value) (n : Nat) (dct : Option Addr) (sl : Array (Option Value)) :
    Meets (Builtin.«enumerate.__new__» ⟨[.type "enumerate", .ref l], []⟩) (fun _ R s => s.heap.get? l = some { cls := .type "tuple", dict := dct, data := .seq items n, slots := sl } ∧
      R (.ok (.ret (.ref (s.heap.push { cls := .type "tuple_iterator", data := .fields #[.ref l, .int 0 0] }).objs.size)))
        { s with heap := (s.heap.push { cls := .type "tuple_iterator", data := .fields #[.ref l, .int 0 0] }).push { cls := .type "enumerate", data := .fields #[.none, .bool false, .ref s.heap.objs.size, rawInt 0, .none, .none] } }) :=
  .of_wp fun prog w A R s h => by
    obtain ⟨hp, g, d, tk, os⟩ := s; obtain ⟨hl, h⟩ := h
    have hsub := sub_enumerate
    have hL : Heap.IsTuple (Shared.heap ⟨hp, g, d, tk, os⟩) l items := ⟨_, hl, rfl, n, rfl⟩
    wp_walk using wpAny_loadPart' hl
    refine wpAny_stack_any fun st => wpAny_pure ?_
    split
    · rename_i c _ _ _ _ _
      cases (c == Value.type "enumerate")
      · wp_walk using wpAny_loadPart' hl, wpAny_pyIter_tuple hL
        exact ⟨_, rfl, h⟩
      · wp_walk using wpAny_loadPart' hl, wpAny_pyIter_tuple hL
        exact ⟨_, rfl, h⟩
    · wp_walk using wpAny_loadPart' hl, wpAny_pyIter_tuple hL
      exact ⟨_, rfl, h⟩
section
variable {prog : Program} {w : World} {A : Around} {E : Value → Shared → Prop} {s : Shared}
theorem dl_call_enumerate_tuple {l : Addr} {items : Array Value} {Q : Value → Shared → Prop} (hL : s.heap.IsTuple l items)
    (h : ∀ h', IsEnum h' (s.heap.objs.size + 1) s.heap.objs.size 0 .none → h'.IsTupleIter s.heap.objs.size l 0 → h'.objs.size = s.heap.objs.size + 2 →
      (∀ b o, s.heap.get? b = some o → h'.get? b = some o) → Q (.ref (s.heap.objs.size + 1)) { s with heap := h' }) :
    wpAny (model prog w) A (call (.type "enumerate") [.ref l]) Q E s := by
  obtain ⟨⟨c, dct, dt, sl⟩, hl, hc, n, hd⟩ := hL
  replace hc : c = .type "tuple" := hc
  replace hd : dt = .seq items n := hd
  subst hc hd
  refine callType_new F.called_enumerate (by decide) (F.typeCall_enumerate_1 _) (F.newCall_enumerate_1 _) (fun obj => F.args_object_init_2 obj _) F.entry_enumerate_new
    (dl_enumerate_newT l items n dct sl) ⟨hl, ?_⟩
  have hz : (s.heap.push { cls := .type "tuple_iterator", data := .fields #[.ref l, .int 0 0] }).objs.size = s.heap.objs.size + 1 := Heap.size_push ..
  show _ ∧ _
  rw [hz]
  have he : IsEnum ((s.heap.push { cls := .type "tuple_iterator", data := .fields #[.ref l, .int 0 0] }).push
      { cls := .type "enumerate", data := .fields #[.none, .bool false, .ref s.heap.objs.size, rawInt 0, .none, .none] }) (s.heap.objs.size + 1) s.heap.objs.size 0 .none := by
    have := Heap.get?_push_size (s.heap.push { cls := .type "tuple_iterator", data := .fields #[.ref l, .int 0 0] })
      (o := { cls := .type "enumerate", data := .fields #[.none, .bool false, .ref s.heap.objs.size, rawInt 0, .none, .none] }) rfl
    rw [hz] at this; exact this
  refine ⟨⟨_, he, rfl⟩, h _ he ⟨_, Heap.get?_push_of_some _ (Heap.get?_push_size _ rfl), rfl, rfl⟩ (by rw [Heap.size_push, hz]) fun b o x => Heap.get?_push_of_some _ (Heap.get?_push_of_some _ x)⟩
end
end PySem
namespace DL
open PySem PySem.Spec PyProof.Rows L2
variable [Wr]
def IteT (K : PySem.W.Frag) (a : Addr) : It :=
  ⟨fun i H => ∃ (xs : List V) (x : V), SqT K H a xs ∧ xs[i]? = some x, fun i H v H' => ∃ T x, v = .ref T ∧ H T = none ∧ H' = upd H T (.tup [.int (i : Nat), x]) ∧ ∀ xs, SqT K H a xs → xs[i]? = some x, fun i H => ∃ xs : List V, SqT K H a xs ∧ xs.length ≤ i⟩
theorem turn_enumT {P : Program} {w : World} {K : PySem.W.Frag} {elts : List Expr} {kk : Nat} {tpos : Pos} (a e it : Addr) :
    Turn P w K (.Tuple elts kk tpos) (IteT K a) [e, it] e (fun i h => (∃ old, IsEnum h e it ((i : Nat) : Int) old) ∧ h.IsTupleIter it a i ∧ e ≠ it ∧ a ≠ e ∧ a ≠ it) where
  mem := by simp
  obj := fun i h st b hb => by
    obtain ⟨⟨old, he⟩, ⟨o, ho, hc, hd⟩, _⟩ := st
    have e' : b = e ∨ b = it := by simpa using hb
    rcases e' with z | z
    · rw [z]; exact ⟨_, he, fun v q => nomatch q⟩
    · rw [z]; exact ⟨o, ho, fun v q => by rw [hd] at q; cases q⟩
  keep := fun i h h' st k => let ⟨⟨old, he⟩, hi, hne⟩ := st; ⟨⟨old, k e (by simp) _ he⟩, hi.at fun o q => k it (by simp) o q, hne⟩
  item := by
    intro X hP hw hK hc i pins s σ H E I hf st hg
    subst hP hw hK
    obtain ⟨⟨old, he⟩, hit, hne, hae, hai⟩ := st
    obtain ⟨xs, x, hq, hx⟩ := hg
    obtain ⟨its, rv, p, hz⟩ := I.tuple hq
    obtain ⟨u, hu, ru⟩ := rv.get hx
    have hel : e < s.heap.objs.size := Heap.lt_size he
    have hil : it < s.heap.objs.size := by obtain ⟨_, q, _⟩ := hit; exact Heap.lt_size q
    have hlt : i < its.toArray.size := by
      have := (List.getElem?_eq_some_iff.mp hu).1
      simpa using this
    have Dr := Draws.tuple (prog := X.prog) (w := X.w) (A := X.A.in1) (show X.A.in1.handled = none from I.ok.hd hc) it a hai its.toArray
    refine wpAny_pyNext_enum_itemD Dr he ⟨hit, show s.heap.IsTuple a its.toArray from p⟩ hlt hne (by simp [hne, Ne.symm hae]) fun y h' tk hy ho hst' hT hsz hk => ?_
    have ey : y = u := by
      have h1 : its.toArray[i]? = some y := hy
      have h2 : its.toArray[i]? = some u := by simpa using hu
      rw [h1] at h2; exact Option.some.inj h2
    subst ey
    refine ⟨_, rfl, wpAny_letOwnedTupleGo_enum (s := { s with heap := h', toks := tk + 1 }) ho fun h'' he' sb => ?_⟩
    have hT2 : h''.get? s.heap.objs.size = some { cls := .type "tuple", data := .seq #[.int i tk, y] } := (sb.2 _ (Nat.ne_of_gt hel)).trans hT
    have new : ObjOk X.prog X.w (upd H s.heap.objs.size (.tup [.int (i : Nat), x])) h'' s.heap.objs.size (.tup [.int (i : Nat), x]) :=
      ⟨by show 2 ≤ sizeLine; decide, [.int i tk, y], .cons ⟨_, rfl⟩ (.cons ru .nil), ⟨_, hT2, rfl, _, rfl⟩⟩
    have I1 : Inv X pins σ (upd H s.heap.objs.size (.tup [.int (i : Nat), x])) { s with heap := h'', toks := tk + 1 } :=
      I.turnedNew (ch := [e, it]) (fun b ob hb q => (sb.2 b (fun z => hb (by simp [z]))).trans (hk b ob (fun z => hb (by simp [z])) (fun z => hb (by simp [z])) q)) hf (Nat.le_refl _) new
    refine ⟨.ref s.heap.objs.size, _, I1, rfl, ⟨_, x, rfl, I.hok.fresh (Nat.le_refl _), rfl, fun ys hy => by rw [I.tuple_inj hy hq]; exact hx⟩, ⟨⟨y, ?_⟩, hst'.1.at fun o q => (sb.2 it (Ne.symm hne)).trans q, hne, hae, hai⟩, fun b hb => ?_⟩
    · have e1 : ((i + 1 : Nat) : Int) = (i : Int) + 1 := by omega
      rw [e1]; exact he'
    · have hb' : b < s.heap.objs.size := by
        have e' : b = e ∨ b = it := by simpa using hb
        rcases e' with z | z
        · rw [z]; exact hel
        · rw [z]; exact hil
      rw [upd_ne (Nat.ne_of_lt hb')]
      exact (hf b hb).1
  done := by
    intro X hP hw hK hc i pins s σ H E I hf st hg
    subst hP hw hK
    obtain ⟨⟨old, he⟩, hit, hne, hae, hai⟩ := st
    obtain ⟨xs, hq, hx⟩ := hg
    obtain ⟨its, rv, p, hz⟩ := I.tuple hq
    obtain ⟨f0, f1, f2, f3, f4, f5⟩ := hf it (by simp)
    have hl := rv.length
    unfold pyNext
    have hT : s.TypeIs (.ref e) "enumerate" := ⟨_, he, rfl⟩
    refine wpAny_bind (wpAny_attempt (wpAny_callSpecial?_slot (name := Str.ofString "__next__") hT F.slot_enumerate_next
      (wpAny_call_entry F.slot_enumerate_next hT F.entry_enumerate_next ?_ (F.args_enumerate_next_1 _))))
    show wpAny _ _ (field (.ref e) 2 >>= _) _ _ _
    refine wpAny_bind (wpAny_field he rfl (x := .ref it) rfl ?_)
    refine wpAny_bind (wpAny_nextOf_tuple_end (show X.A.in1.handled = none from I.ok.hd hc) hit (show s.heap.IsTuple a its.toArray from p) (by simp; omega) fun h' x he' hx' => ?_)
    obtain ⟨o, ho, hc'⟩ := hx'
    refine wpAny_bind (wpAny_isInstance (T := "StopIteration") (b := true) ⟨o, ho, hc'⟩ isSubtype_stop ?_)
    exact wpAny_pure ⟨rfl, I.turned (t' := s.toks) (fun b o hb q => he' b o hb q) f0 f1 f3 f4 f5⟩
  self := fun A i s Q E st h => let ⟨⟨_, he⟩, _⟩ := st; wpAny_pyIter_enum he h
/-- enumerate of a list or a tuple -/
def iEnumA (K : PySem.W.Frag) (ta : TA) : TI := fun σ H R => ta σ H fun vs H1 => ∃ a xs, vs = [.ref a] ∧ ((SqL K H1 a xs ∧ R (Ite K a) H1) ∨ (SqT K H1 a xs ∧ R (IteT K a) H1))
theorem pi_enumA {X : Cx} {e : Expr} {ta : TA} {p pos tpos : Pos} {elts : List Expr} {kk : Nat} (hg : Gl X "enumerate") (hm : X.mg "enumerate" = none) (ha : PA X [e] ta) (hs : starEach [e] X.env = [(false, eval e X.env)] := by rfl) :
    PI X (.Tuple elts kk tpos) (.Call (.Name "enumerate" p) [e] [] pos) (iEnumA X.K ta) := by
  refine ⟨fun pins s σ H R I h => ?_⟩
  refine Call_ (ld_blt I hg hm boot_enumerate (PyProof.Rows.callWith_type1 (thn (ha.run pos pins s σ H _ I h) fun us s1 ⟨vs, H1, I1, r1, q1⟩ => ?_) hs rfl))
  obtain ⟨a, xs, ex, q1⟩ := q1
  subst ex
  cases r1 with
  | cons r rr =>
    cases rr
    cases r
    have fpo : ∀ b, (b = s1.heap.objs.size + 1 ∨ b = s1.heap.objs.size) → FpOk X pins H1 b := fun b e' => by
      have hle : s1.heap.objs.size ≤ b := by
        rcases e' with z | z
        · rw [z]; exact Nat.le_add_right _ _
        · rw [z]; exact Nat.le_refl _
      exact I1.fpOk hle (I1.hok.fresh hle)
    rcases q1 with ⟨hq, q⟩ | ⟨hq, q⟩
    · obtain ⟨its, rv, p', hz⟩ := I1.list hq
      refine call_enumerate_list p'.isList fun h' he hit hsz hk => wpAny_pyIter_enum he ?_
      have I2 : Inv X pins σ H1 { s1 with heap := h' } := I1.kept (t' := s1.toks) hk
      exact ⟨s1.heap.objs.size + 1, [s1.heap.objs.size + 1, s1.heap.objs.size], _, _, H1, rfl, I2, turn_enum a (s1.heap.objs.size + 1) s1.heap.objs.size, ⟨⟨.none, he⟩, hit, Nat.succ_ne_self _⟩, fun b hb => fpo b (by simpa using hb), q⟩
    · obtain ⟨its, rv, p', hz⟩ := I1.tuple hq
      have hal : a < s1.heap.objs.size := p'.lt
      refine dl_call_enumerate_tuple (show s1.heap.IsTuple a its.toArray from p') fun h' he hit hsz hk => wpAny_pyIter_enum he ?_
      have I2 : Inv X pins σ H1 { s1 with heap := h' } := I1.kept (t' := s1.toks) hk
      exact ⟨s1.heap.objs.size + 1, [s1.heap.objs.size + 1, s1.heap.objs.size], _, _, H1, rfl, I2, turn_enumT a (s1.heap.objs.size + 1) s1.heap.objs.size, ⟨⟨.none, he⟩, hit, Nat.succ_ne_self _, Nat.ne_of_lt (Nat.lt_succ_of_lt hal), Nat.ne_of_lt hal⟩, fun b hb => fpo b (by simpa using hb), q⟩
theorem walk_enumT {K : PySem.W.Frag} {a : Addr} {xs : List V} : Walk (IteT K a) xs.length (fun H => SqT K H a xs) (YPair (fun i => some (.int (i : Nat))) (fun i => xs[i]?)) := by
  refine ⟨fun i _ hi q => ⟨xs, xs[i], q, by simp [hi]⟩, fun _ q => ⟨xs, q, Nat.le_refl _⟩, fun i H v H' _ q y => ?_⟩
  obtain ⟨T, x, h1, h2, h3, h4⟩ := y
  exact ⟨T, .int (i : Nat), x, h1, h2, h3, rfl, h4 xs q⟩
theorem walk_zipT {K : PySem.W.Frag} {a b : Addr} {xs ys : List V} {n : Nat} (hn : n = min xs.length ys.length) : Walk (RZ.ItzT K a b) n (fun H => SqT K H a xs ∧ SqT K H b ys) (YPair (fun i => xs[i]?) (fun i => ys[i]?)) := by
  subst hn
  refine ⟨fun i _ hi q => ?_, fun _ q => ⟨xs, ys, q.1, q.2, by omega⟩, fun i H v H' _ q y => ?_⟩
  · have h1 : i < xs.length := by omega
    have h2 : i < ys.length := by omega
    exact ⟨xs, ys, xs[i], ys[i], q.1, q.2, by simp [h1], by simp [h2]⟩
  · obtain ⟨T, x, z, h1, h2, h3, h4, h5⟩ := y
    exact ⟨T, x, z, h1, h2, h3, h4 xs q.1, h5 ys q.2⟩
end DL

set_option Elab.async false
set_option linter.all false
set_option maxRecDepth 100000
set_option maxHeartbeats 4000000
namespace DL
open PySem PySem.Spec PyProof.Rows L2
variable [Wr]
/-! ### targets -/
structure RG (g : TG) (fg : D → En → Option En) (js : List Nat) : Prop where
  go : ∀ (B S0 : Hp) (M : List Addr) (σ : L2.St) (H S : Hp) (ρ : En) (v : V) (d : D) (ρ' : En) (Q : L2.St → Hp → Prop), Rel B S0 M σ H S ρ → Rp S v d → fg d ρ = some ρ' →
    (∀ σ' : L2.St, (∀ i, i ∉ js → σ'[i]? = σ[i]?) → σ'.length = σ.length → Rel B S0 M σ' H S ρ' → Q σ' H) → g v σ H Q
structure RGs (g : TGs) (fg : List D → En → Option En) (js : List Nat) : Prop where
  go : ∀ (B S0 : Hp) (M : List Addr) (σ : L2.St) (H S : Hp) (ρ : En) (v : List V) (d : List D) (ρ' : En) (Q : L2.St → Hp → Prop), Rel B S0 M σ H S ρ → RpL S v d → fg d ρ = some ρ' →
    (∀ σ' : L2.St, (∀ i, i ∉ js → σ'[i]? = σ[i]?) → σ'.length = σ.length → Rel B S0 M σ' H S ρ' → Q σ' H) → g v σ H Q
def gN (j : Nat) : D → En → Option En := fun d ρ => some (ρ.set j (.sh d))
def gsNil : List D → En → Option En
  | [], ρ => some ρ
  | _, _ => none
def gsCons (g : D → En → Option En) (gs : List D → En → Option En) : List D → En → Option En
  | d :: ds, ρ => (g d ρ).bind (gs ds)
  | _, _ => none
def gT (n : Nat) (gs : List D → En → Option En) : D → En → Option En
  | .tuple ds, ρ => if ds.length = n then gs ds ρ else none
  | _, _ => none
theorem rg_name (j : Nat) : RG (gName j) (gN j) [j] := ⟨fun B S0 M σ H S ρ v d ρ' Q R r h k => by
  cases h
  refine k (σ.set j (some v)) (fun i hi => ?_) (by simp) (R.setSh r)
  rw [List.getElem?_set_ne (fun z => hi (by simp [z]))]⟩
theorem rgs_nil : RGs gNil gsNil [] := ⟨fun B S0 M σ H S ρ v d ρ' Q R r h k => by
  cases d with
  | nil => cases h; exact ⟨r, k σ (fun _ _ => rfl) rfl R⟩
  | cons => cases h⟩
theorem rgs_cons {t : TG} {g : D → En → Option En} {js : List Nat} {u : TGs} {gs : List D → En → Option En} {ks : List Nat} (h1 : RG t g js) (h2 : RGs u gs ks) : RGs (gCons t u) (gsCons g gs) (js ++ ks) := ⟨fun B S0 M σ H S ρ v d ρ' Q R r h k => by
  cases d with
  | nil => cases h
  | cons d ds =>
    obtain ⟨w, ws, rfl, r1, r2⟩ := r
    obtain ⟨ρ1, e1, e2⟩ := Option.bind_eq_some_iff.mp (show (g d ρ).bind (gs ds) = some ρ' from h)
    refine ⟨w, ws, rfl, h1.go B S0 M σ H S ρ w d ρ1 _ R r1 e1 fun σ1 c1 l1 R1 => ?_⟩
    refine h2.go B S0 M σ1 H S ρ1 ws ds ρ' Q R1 r2 e2 fun σ2 c2 l2 R2 => ?_
    exact k σ2 (fun i hi => (c2 i fun z => hi (List.mem_append_right _ z)).trans (c1 i fun z => hi (List.mem_append_left _ z))) (l2.trans l1) R2⟩
theorem rg_tup {K : PySem.W.Frag} {n : Nat} {t : TGs} {gs : List D → En → Option En} {js : List Nat} (h : RGs t gs js) : RG (gTup K n t) (gT n gs) js := ⟨fun B S0 M σ H S ρ v d ρ' Q R r e k => by
  unfold gT at e
  split at e
  · split at e
    · rename_i hl
      obtain ⟨a, xs, rfl, h1, r1⟩ := r
      exact ⟨a, xs, rfl, SqT.of (R.sub _ _ h1), by rw [r1.length]; exact hl, h.go B S0 M σ H S ρ xs _ ρ' Q R r1 e k⟩
    · cases e
  · cases e⟩
/-! ### what is walked -/
def DW (J : It) (S : Hp) (ds : List D) : Prop := Walk J ds.length (fun H => Ex S H) (fun i H x H' => ∃ d, ds[i]? = some d ∧ ((H' = H ∧ Rp S x d) ∨ ∃ T xs es, x = .ref T ∧ H T = none ∧ H' = upd H T (.tup xs) ∧ d = .tuple es ∧ RpL S xs es))
def AI (ER : Er) (B S0 : Hp) (M : List Addr) (σ : L2.St) (S : Hp) (Q : It → Hp → Prop) : Res (List D × En) → Prop
  | .ok (ds, ρ') => ∀ J H' S', Ex S S' → Rel B S0 M σ H' S' ρ' → DW J S' ds → Q J H'
  | .err c fs => ∀ H', Kp B M H' → ER c fs H'
  | .no => False
structure RI (ER : Er) (t : TI) (f : Fa) : Prop where
  go : ∀ B S0 M σ H S ρ Q, Rel B S0 M σ H S ρ → AI ER B S0 M σ S Q (f ρ) → t σ H Q
section
variable {ER : Er} {ta tb tc te : TE} {fa fb fc : Fd} {fe fe' : Fe} {t u : TT} {ft fu : Ft} {K : PySem.W.Frag} {tr : TA} {fr : Fa}
theorem AD.bindI {B S0 : Hp} {M : List Addr} {σ : L2.St} {S : Hp} {Q : It → Hp → Prop} {Q' : VK} {x : Res (D × En)} {k : D × En → Res (List D × En)} (h : AI ER B S0 M σ S Q (x.bind k))
    (c : ∀ d ρ' v H' S', Ex S S' → Rel B S0 M σ H' S' ρ' → Rp S' v d → AI ER B S0 M σ S' Q (k (d, ρ')) → Q' v H') : AD ER B S0 M σ S Q' x := by
  cases x with
  | ok a =>
    intro v H' S' e R r
    refine c a.1 a.2 v H' S' e R r ?_
    replace h : AI ER B S0 M σ S Q (k a) := h
    show AI ER B S0 M σ S' Q (k a)
    cases hk : k a with
    | ok b => rw [hk] at h; exact fun J H2 S2 e2 R2 w => h J H2 S2 (e.trans e2) R2 w
    | err c fs => rw [hk] at h; exact h
    | no => rw [hk] at h; exact h
  | err c fs => exact h
  | no => exact (show False from h).elim
theorem AA.bindI {B S0 : Hp} {M : List Addr} {σ : L2.St} {S : Hp} {Q : It → Hp → Prop} {Q' : List V → Hp → Prop} {x : Res (List D × En)} {k : List D × En → Res (List D × En)} (h : AI ER B S0 M σ S Q (x.bind k))
    (c : ∀ d ρ' v H' S', Ex S S' → Rel B S0 M σ H' S' ρ' → RpL S' v d → AI ER B S0 M σ S' Q (k (d, ρ')) → Q' v H') : AA ER B S0 M σ S Q' x := by
  cases x with
  | ok a =>
    intro v H' S' e R r
    refine c a.1 a.2 v H' S' e R r ?_
    replace h : AI ER B S0 M σ S Q (k a) := h
    show AI ER B S0 M σ S' Q (k a)
    cases hk : k a with
    | ok b => rw [hk] at h; exact fun J H2 S2 e2 R2 w => h J H2 S2 (e.trans e2) R2 w
    | err c fs => rw [hk] at h; exact h
    | no => rw [hk] at h; exact h
  | err c fs => exact h
  | no => exact (show False from h).elim
/-- a list, a tuple, a text -/
def iSeq (K : PySem.W.Frag) (tl : TE) : TI := fun σ H R => tl σ H fun x H1 => (∃ a, x = .ref a ∧ (∃ xs, SqL K H1 a xs) ∧ R (Itl K a) H1) ∨ (∃ a, x = .ref a ∧ (∃ xs, SqT K H1 a xs) ∧ R (Itt K a) H1) ∨ ∃ z, x = .str z ∧ R (Its z) H1
theorem pi_seq {X : Cx} {tg l : Expr} {tl : TE} (hl : PE X l tl) : PI X tg l (iSeq X.K tl) := by
  refine ⟨fun pins s σ H R I h => ?_⟩
  refine thn (hl.run pins s σ H _ I h) fun v s1 ⟨x, H1, I1, r1, q1⟩ => ?_
  rcases q1 with ⟨a, e, ⟨xs, hq⟩, q⟩ | ⟨a, e, ⟨xs, hq⟩, q⟩ | ⟨z, e, q⟩
  · subst e
    cases r1
    obtain ⟨its, rv, p, hz⟩ := I1.list hq
    refine wpAny_pyIter_list p.isList ?_
    refine ⟨s1.heap.objs.size, [s1.heap.objs.size], _, _, H1, rfl, I1.kept (t' := s1.toks) fun b o e => Heap.get?_push_of_some _ e, turn_list a _, ⟨_, Heap.get?_push_size _ rfl, rfl, rfl⟩, fun b hb => ?_, q⟩
    have e : b = s1.heap.objs.size := by simpa using hb
    subst e
    exact I1.fpOk (Nat.le_refl _) (I1.hok.fresh (Nat.le_refl _))
  · subst e
    cases r1
    obtain ⟨its, rv, p, hz⟩ := I1.tuple hq
    refine wpAny_pyIter_tuple (show s1.heap.IsTuple a its.toArray from p) ?_
    refine ⟨s1.heap.objs.size, [s1.heap.objs.size], _, _, H1, rfl, I1.kept (t' := s1.toks) fun b o e => Heap.get?_push_of_some _ e, turn_tuple a _, ⟨_, Heap.get?_push_size _ rfl, rfl, rfl⟩, fun b hb => ?_, q⟩
    have e : b = s1.heap.objs.size := by simpa using hb
    subst e
    exact I1.fpOk (Nat.le_refl _) (I1.hok.fresh (Nat.le_refl _))
  · subst e
    obtain ⟨t, rfl⟩ := r1
    cases ha : z.cps.all (· < 128)
    · exact wpAny_pyIter_wide ha (pi_one (tk := s1.toks) I1 _ (turn_str _ z t "str_iterator" (.inr rfl)) ⟨_, Heap.get?_push_size _ rfl, rfl, rfl⟩ q)
    · exact wpAny_pyIter_ascii ha (pi_one (tk := s1.toks) I1 _ (turn_str _ z t "str_ascii_iterator" (.inl rfl)) ⟨_, Heap.get?_push_size _ rfl, rfl, rfl⟩ q)
def seqOf : D → Option (List D)
  | .list ds => some ds
  | .tuple ds => some ds
  | .str z => some (z.cps.toList.map fun c => .str ⟨#[c]⟩)
  | _ => none
def optL (o : Option (List D)) (ρ : En) : Res (List D × En) := match o with
  | some ds => .ok (ds, ρ)
  | none => .no
def dSeq (fa : Fd) : Fa := fun ρ => (fa ρ).bind fun p => optL (seqOf p.1) p.2
theorem dw_items {J : It} {S : Hp} {xs : List V} {ds : List D} (r : RpL S xs ds) {G : Hp → Prop} (w : Walk J xs.length G (YAt xs)) (g : ∀ H, Ex S H → G H) : DW J S ds := by
  unfold DW
  rw [← r.length]
  refine w.mono g fun i H x H' _ _ y => ?_
  obtain ⟨e, hx⟩ := y
  obtain ⟨d, h1, h2⟩ := r.getV hx
  exact ⟨d, h1, .inl ⟨e, h2⟩⟩
theorem ri_seq (h : RD ER ta fa) : RI ER (iSeq K ta) (dSeq fa) := ⟨fun B S0 M σ H S ρ Q R a => by
  refine h.go B S0 M σ H S ρ _ R (AD.bindI a fun d ρ1 x H1 S1 e1 R1 r1 a1 => ?_)
  replace a1 : AI ER B S0 M σ S1 Q (optL (seqOf d) ρ1) := a1
  cases d with
  | list ds =>
    obtain ⟨p, xs, rfl, h1, r⟩ := r1
    exact .inl ⟨p, rfl, ⟨xs, SqL.of (R1.sub _ _ h1)⟩, a1 _ H1 S1 (Ex.refl S1) R1 (dw_items r (walk_list (K := K) (a := p)) fun H' e => SqL.of (e _ _ h1))⟩
  | tuple ds =>
    obtain ⟨p, xs, rfl, h1, r⟩ := r1
    exact .inr (.inl ⟨p, rfl, ⟨xs, SqT.of (R1.sub _ _ h1)⟩, a1 _ H1 S1 (Ex.refl S1) R1 (dw_items r (walk_tup (K := K) (a := p)) fun H' e => SqT.of (e _ _ h1))⟩)
  | str z =>
    refine .inr (.inr ⟨z, r1, a1 _ H1 S1 (Ex.refl S1) R1 ?_⟩)
    show Walk _ _ _ _
    have hl : (z.cps.toList.map fun c => (.str ⟨#[c]⟩ : D)).length = z.cps.size := by simp
    rw [hl]
    refine walk_str.mono (fun _ _ => trivial) fun i H' x H'' _ _ y => ?_
    obtain ⟨e, c, hc, hv⟩ := y
    exact ⟨.str ⟨#[c]⟩, by simp [hc], .inl ⟨e, hv⟩⟩
  | _ => exact (show False from a1).elim⟩
/-- range -/
def rngD (lo hi : Int) : List D := (List.range (hi - lo).toNat).map fun (i : Nat) => .int (lo + (i : Int))
def rng1 : List D → Option (List D)
  | [.int j] => if s62 j = true then some (rngD 0 j) else none
  | _ => none
def rng2 : List D → Option (List D)
  | [.int i, .int j] => if (s62 i && s62 j) = true then some (rngD i j) else none
  | _ => none
def dRng1 (f : Fa) : Fa := fun ρ => (f ρ).bind fun p => optL (rng1 p.1) p.2
def dRng2 (f : Fa) : Fa := fun ρ => (f ρ).bind fun p => optL (rng2 p.1) p.2
theorem dw_range {S : Hp} (lo hi : Int) : DW (Itr lo (hi - lo).toNat) S (rngD lo hi) := by
  unfold DW
  have hl : (rngD lo hi).length = (hi - lo).toNat := by simp [rngD]
  rw [hl]
  refine walk_range.mono (fun _ _ => trivial) fun i H' x H'' hi' _ y => ?_
  obtain ⟨e, hv⟩ := y
  exact ⟨.int (lo + i), by simp [rngD, hi'], .inl ⟨e, hv⟩⟩
theorem ri_rng1 (h : RA ER tr fr) : RI ER (iRng1 tr) (dRng1 fr) := ⟨fun B S0 M σ H S ρ Q R a => by
  refine h.go B S0 M σ H S ρ _ R (AA.bindI a fun ds ρ1 xs H1 S1 e1 R1 r1 a1 => ?_)
  replace a1 : AI ER B S0 M σ S1 Q (optL (rng1 ds) ρ1) := a1
  unfold rng1 at a1
  split at a1
  · rename_i j
    split at a1
    · rename_i hz
      obtain ⟨v, rfl, r2⟩ := RpL.one_inv r1
      rw [show v = .int j from r2]
      refine ⟨j, rfl, (s62_ok hz).1, (s62_ok hz).2, a1 _ H1 S1 (Ex.refl S1) R1 ?_⟩
      have := dw_range (S := S1) 0 j
      rw [Int.sub_zero] at this
      exact this
    · exact (show False from a1).elim
  · exact (show False from a1).elim⟩
theorem ri_rng2 (h : RA ER tr fr) : RI ER (iRng2 tr) (dRng2 fr) := ⟨fun B S0 M σ H S ρ Q R a => by
  refine h.go B S0 M σ H S ρ _ R (AA.bindI a fun ds ρ1 xs H1 S1 e1 R1 r1 a1 => ?_)
  replace a1 : AI ER B S0 M σ S1 Q (optL (rng2 ds) ρ1) := a1
  unfold rng2 at a1
  split at a1
  · rename_i i j
    split at a1
    · rename_i hz
      have hz' := Bool.and_eq_true_iff.mp hz
      obtain ⟨v, w, rfl, r2, r3⟩ := RpL.two_inv r1
      rw [show v = .int i from r2, show w = .int j from r3]
      exact ⟨i, j, rfl, ⟨(s62_ok hz'.1).1, (s62_ok hz'.1).2, (s62_ok hz'.2).1, (s62_ok hz'.2).2⟩, a1 _ H1 S1 (Ex.refl S1) R1 (dw_range i j)⟩
    · exact (show False from a1).elim
  · exact (show False from a1).elim⟩
/-- enumerate, zip -/
def enumD (ds : List D) : List D := (List.range ds.length).map fun i => .tuple [.int (i : Nat), ds.getD i .none]
def zipD (ds es : List D) : List D := (ds.zip es).map fun p => .tuple [p.1, p.2]
def enumOf : List D → Option (List D)
  | [.list ds] => some (enumD ds)
  | [.tuple ds] => some (enumD ds)
  | _ => none
def zipOf : List D → Option (List D)
  | [.list ds, .list es] => some (zipD ds es)
  | [.tuple ds, .tuple es] => some (zipD ds es)
  | _ => none
def dEnum (f : Fa) : Fa := fun ρ => (f ρ).bind fun p => optL (enumOf p.1) p.2
def dZip (f : Fa) : Fa := fun ρ => (f ρ).bind fun p => optL (zipOf p.1) p.2
theorem dw_enum {J : It} {S : Hp} {xs : List V} {ds : List D} (r : RpL S xs ds) {G : Hp → Prop} (w : Walk J xs.length G (YPair (fun i => some (.int (i : Nat))) (fun i => xs[i]?))) (g : ∀ H, Ex S H → G H) : DW J S (enumD ds) := by
  unfold DW
  have hl : (enumD ds).length = xs.length := by rw [r.length]; simp [enumD]
  rw [hl]
  refine w.mono g fun i H x H' hi _ y => ?_
  obtain ⟨T, a, b, h1, h2, h3, h4, h5⟩ := y
  obtain ⟨d, hd, rd⟩ := r.getV h5
  have hi' : i < ds.length := by rw [← r.length]; exact hi
  cases h4
  refine ⟨.tuple [.int (i : Nat), d], ?_, .inr ⟨T, _, _, h1, h2, h3, rfl, .cons rfl (.cons rd .nil)⟩⟩
  have hd' : ds[i] = d := by
    rw [List.getElem?_eq_getElem hi'] at hd; exact Option.some.inj hd
  simp [enumD, hi', hd']
theorem ri_enum (h : RA ER tr fr) : RI ER (iEnumA K tr) (dEnum fr) := ⟨fun B S0 M σ H S ρ Q R a => by
  refine h.go B S0 M σ H S ρ _ R (AA.bindI a fun ds ρ1 xs H1 S1 e1 R1 r1 a1 => ?_)
  replace a1 : AI ER B S0 M σ S1 Q (optL (enumOf ds) ρ1) := a1
  unfold enumOf at a1
  split at a1
  · obtain ⟨v, rfl, p, ys, rfl, h1, r⟩ := RpL.one_inv r1
    exact ⟨p, ys, rfl, .inl ⟨SqL.of (R1.sub _ _ h1), a1 _ H1 S1 (Ex.refl S1) R1 (dw_enum r (walk_enum (K := K) (a := p)) fun H' e => SqL.of (e _ _ h1))⟩⟩
  · obtain ⟨v, rfl, p, ys, rfl, h1, r⟩ := RpL.one_inv r1
    exact ⟨p, ys, rfl, .inr ⟨SqT.of (R1.sub _ _ h1), a1 _ H1 S1 (Ex.refl S1) R1 (dw_enum r (walk_enumT (K := K) (a := p)) fun H' e => SqT.of (e _ _ h1))⟩⟩
  · exact (show False from a1).elim⟩
theorem dw_zip {J : It} {S : Hp} {xs ys : List V} {ds es : List D} (r : RpL S xs ds) (q : RpL S ys es) {G : Hp → Prop} {n : Nat} (hn : n = min xs.length ys.length) (w : Walk J n G (YPair (fun i => xs[i]?) (fun i => ys[i]?))) (g : ∀ H, Ex S H → G H) : DW J S (zipD ds es) := by
  unfold DW
  have hl : (zipD ds es).length = n := by rw [hn, r.length, q.length]; simp [zipD]
  rw [hl]
  refine w.mono g fun i H x H' hi _ y => ?_
  obtain ⟨T, a, b, h1, h2, h3, h4, h5⟩ := y
  obtain ⟨d, hd, rd⟩ := r.getV h4
  obtain ⟨e, he, rq⟩ := q.getV h5
  refine ⟨.tuple [d, e], ?_, .inr ⟨T, _, _, h1, h2, h3, rfl, .cons rd (.cons rq .nil)⟩⟩
  unfold zipD
  rw [List.getElem?_map, (List.getElem?_zip_eq_some (z := (d, e))).mpr ⟨hd, he⟩]
  rfl
theorem ri_zip (h : RA ER tr fr) : RI ER (RZ.iZipA K tr) (dZip fr) := ⟨fun B S0 M σ H S ρ Q R a => by
  refine h.go B S0 M σ H S ρ _ R (AA.bindI a fun ds ρ1 xs H1 S1 e1 R1 r1 a1 => ?_)
  replace a1 : AI ER B S0 M σ S1 Q (optL (zipOf ds) ρ1) := a1
  unfold zipOf at a1
  split at a1
  · obtain ⟨v, v', rfl, ⟨p, ys, rfl, h1, r⟩, p', ys', rfl, h1', r'⟩ := RpL.two_inv r1
    exact ⟨p, p', ys, ys', rfl, .inl ⟨SqL.of (R1.sub _ _ h1), SqL.of (R1.sub _ _ h1'), a1 _ H1 S1 (Ex.refl S1) R1 (dw_zip r r' rfl (walk_zip (K := K) (a := p) (b := p') rfl) fun H' e => ⟨SqL.of (e _ _ h1), SqL.of (e _ _ h1')⟩)⟩⟩
  · obtain ⟨v, v', rfl, ⟨p, ys, rfl, h1, r⟩, p', ys', rfl, h1', r'⟩ := RpL.two_inv r1
    exact ⟨p, p', ys, ys', rfl, .inr ⟨SqT.of (R1.sub _ _ h1), SqT.of (R1.sub _ _ h1'), a1 _ H1 S1 (Ex.refl S1) R1 (dw_zip r r' rfl (walk_zipT (K := K) (a := p) (b := p') rfl) fun H' e => ⟨SqT.of (e _ _ h1), SqT.of (e _ _ h1')⟩)⟩⟩
  · exact (show False from a1).elim⟩
end
end DL

set_option Elab.async false
set_option linter.all false
set_option maxRecDepth 100000
set_option maxHeartbeats 4000000
namespace DL
open PySem PySem.Spec PyProof.Rows L2
variable [Wr]
section
variable {ER : Er} {ta tb tc te : TE} {fa fb fc : Fd} {fe fe' : Fe} {t u : TT} {ft fu : Ft} {K : PySem.W.Frag} {tr : TA} {fr : Fa} {ts us : TS} {fs gs : Fs}
/-! ### small statements -/
def onR {α : Type} (x : Res (α × En)) (k : α → En → Out) : Out := match x with
  | .ok (a, ρ) => k a ρ
  | .err c fs => .err c fs
  | .no => .no
theorem AE.bindS {B S0 : Hp} {M : List Addr} {σ : L2.St} {S : Hp} {E : Ends} {Q : VK} {x : Res (Rv × En)} {k : Rv → En → Out}
    (h : AS ER B S0 M S E (onR x k))
    (c : ∀ rv ρ' v H' S', Ex S S' → Rel B S0 M σ H' S' ρ' → Good B M σ H' S' ρ' v rv → AS ER B S0 M S' E (k rv ρ') → Q v H') : AE ER B S0 M σ S Q x := by
  cases x with
  | ok a => exact fun v H' S' e R g => c a.1 a.2 v H' S' e R g (AS.later e h)
  | err c fs => exact h
  | no => exact (show False from h).elim
theorem AT.bindS {B S0 : Hp} {M : List Addr} {σ : L2.St} {S : Hp} {E : Ends} {Q : Bool → Hp → Prop} {x : Res (Bool × En)} {k : Bool → En → Out}
    (h : AS ER B S0 M S E (onR x k))
    (c : ∀ rv ρ' H' S', Ex S S' → Rel B S0 M σ H' S' ρ' → AS ER B S0 M S' E (k rv ρ') → Q rv H') : AT ER B S0 M σ S Q x := by
  cases x with
  | ok a => exact fun H' S' e R => c a.1 a.2 H' S' e R (AS.later e h)
  | err c fs => exact h
  | no => exact (show False from h).elim
theorem AD.bindS {B S0 : Hp} {M : List Addr} {σ : L2.St} {S : Hp} {E : Ends} {Q : VK} {x : Res (D × En)} {k : D → En → Out}
    (h : AS ER B S0 M S E (onR x k))
    (c : ∀ d ρ' v H' S', Ex S S' → Rel B S0 M σ H' S' ρ' → Rp S' v d → AS ER B S0 M S' E (k d ρ') → Q v H') : AD ER B S0 M σ S Q x := by
  cases x with
  | ok a => exact fun v H' S' e R g => c a.1 a.2 v H' S' e R g (AS.later e h)
  | err c fs => exact h
  | no => exact (show False from h).elim
def setRv (i : Nat) (rv : Rv) (ρ : En) : En := match rv with
  | .sh d => ρ.set i (.sh d)
  | .fr ds => ρ.set i (.ow ds)
  | .fk kvs => ρ.set i (.od kvs)
def sAsg (i : Nat) (f : Fe) : Fs := fun ρ => onR (f ρ) fun rv ρ' => .nx (setRv i rv ρ')
def sDrop (f : Fe) : Fs := fun ρ => onR (f ρ) fun _ ρ' => .nx ρ'
def sRet (f : Fe) : Fs := fun ρ => onR (f ρ) fun rv ρ' => .rt rv ρ'
def sPass : Fs := fun ρ => .nx ρ
def sBrk : Fs := fun ρ => .bk ρ
def sCnt : Fs := fun ρ => .ct ρ
def sIf (f : Ft) (a b : Fs) : Fs := fun ρ => onR (f ρ) fun c ρ' => if c = true then a ρ' else b ρ'
def sSeq (a b : Fs) : Fs := fun ρ => match a ρ with
  | .nx ρ' => b ρ'
  | o => o
theorem Rel.setRv {B S0 : Hp} {M : List Addr} {σ : L2.St} {H S : Hp} {ρ : En} {rv : Rv} {v : V} (R : Rel B S0 M σ H S ρ) (i : Nat) (g : Good B M σ H S ρ v rv) : Rel B S0 M (σ.set i (some v)) H S (DL.setRv i rv ρ) := by
  cases rv with
  | sh d => exact R.setSh g
  | fr ds =>
    obtain ⟨p, vs, rfl, h1, h2, h3, h4, h5, h6⟩ := g
    exact R.setOwn (s0 := .ow ds) ⟨p, vs, rfl, h1, h3, h2, h4, h5⟩ h6
  | fk kvs =>
    obtain ⟨p, vs, rfl, h1, h2, h3, h4, h5, h6⟩ := g
    exact R.setOwn (s0 := .od kvs) ⟨p, vs, rfl, h1, h3, h2, h4, h5⟩ h6
theorem rs_asg (i : Nat) (h : RE ER te fe) : RS ER (tAsg te (gName i)) (sAsg i fe) := ⟨fun B S0 M σ H S ρ E R a =>
  h.go B S0 M σ H S ρ _ R (AE.bindS a fun rv ρ' v H' S' e R1 g a1 => a1 _ H' S' (Ex.refl S') (R1.setRv i g))⟩
theorem rs_drop (h : RE ER te fe) : RS ER (tDrop te) (sDrop fe) := ⟨fun B S0 M σ H S ρ E R a =>
  h.go B S0 M σ H S ρ _ R (AE.bindS a fun rv ρ' v H' S' e R1 g a1 => a1 σ H' S' (Ex.refl S') R1)⟩
theorem rs_ret (h : RE ER te fe) : RS ER (tRet te) (sRet fe) := ⟨fun B S0 M σ H S ρ E R a =>
  h.go B S0 M σ H S ρ _ R (AE.bindS a fun rv ρ' v H' S' e R1 g a1 => a1 v σ H' S' (Ex.refl S') R1 g)⟩
theorem rs_pass : RS ER tNext sPass := ⟨fun B S0 M σ H S ρ E R a => a σ H S (Ex.refl S) R⟩
theorem rs_brk : RS ER tBreak sBrk := ⟨fun B S0 M σ H S ρ E R a => a σ H S (Ex.refl S) R⟩
theorem rs_cnt : RS ER tCont sCnt := ⟨fun B S0 M σ H S ρ E R a => a σ H S (Ex.refl S) R⟩
theorem rs_never : RS ER tNever (fun _ => .no) := ⟨fun B S0 M σ H S ρ E R a => (show False from a).elim⟩
theorem rs_if (h : RT ER t ft) (ha : RS ER ts fs) (hb : RS ER us gs) : RS ER (tIfS t ts us) (sIf ft fs gs) := ⟨fun B S0 M σ H S ρ E R a => by
  refine h.go B S0 M σ H S ρ _ R (AT.bindS a fun b ρ' H' S' e R1 a1 => ?_)
  cases b with
  | true => exact ha.go B S0 M σ H' S' ρ' E R1 a1
  | false => exact hb.go B S0 M σ H' S' ρ' E R1 a1⟩
theorem rs_seq (ha : RS ER ts fs) (hb : RS ER us gs) : RS ER (tSeq ts us) (sSeq fs gs) := ⟨fun B S0 M σ H S ρ E R a => by
  refine ha.go B S0 M σ H S ρ _ R ?_
  unfold sSeq at a
  cases e : fs ρ with
  | nx ρ' =>
    rw [e] at a
    exact fun σ' H' S' e1 R1 => hb.go B S0 M σ' H' S' ρ' E R1 (AS.later e1 a)
  | rt rv ρ' => rw [e] at a; exact a
  | bk ρ' => rw [e] at a; exact a
  | ct ρ' => rw [e] at a; exact a
  | err c fs => rw [e] at a; exact a
  | no => rw [e] at a; exact a⟩
/-! ### for -/
def sLoop (fg : D → En → Option En) (fb : Fs) : List D → En → Out
  | [], ρ => .nx ρ
  | d :: ds, ρ => match fg d ρ with
    | none => .no
    | some ρ1 => match fb ρ1 with
      | .nx ρ2 => sLoop fg fb ds ρ2
      | .ct ρ2 => sLoop fg fb ds ρ2
      | .bk ρ2 => .nx ρ2
      | .rt rv ρ2 => .rt rv ρ2
      | .err c fs => .err c fs
      | .no => .no
def sFor (fi : Fa) (fg : D → En → Option En) (fb : Fs) : Fs := fun ρ => onR (fi ρ) fun ds ρ' => sLoop fg fb ds ρ'
theorem rs_for {wi : TI} {fi : Fa} {g : TG} {fg : D → En → Option En} {js : List Nat} (hi : RI ER wi fi) (hg : RG g fg js) (hb : RS ER ts fs) : RS ER (tFor wi g ts) (sFor fi fg fs) := ⟨fun B S0 M σ H S ρ E R a => by
  refine hi.go B S0 M σ H S ρ _ R ?_
  unfold sFor at a
  cases e : fi ρ with
  | err c fs => rw [e] at a; exact a
  | no => rw [e] at a; exact (show False from a).elim
  | ok p =>
    obtain ⟨ds, ρ0⟩ := p
    rw [e] at a
    replace a : AS ER B S0 M S E (sLoop fg fs ds ρ0) := a
    intro J H1 S1 e1 R1 w
    refine for_it w (fun i σ' H' => ∃ S' ρ', Ex S1 S' ∧ Rel B S0 M σ' H' S' ρ' ∧ AS ER B S0 M S' E (sLoop fg fs (ds.drop i) ρ')) ⟨S1, ρ0, Ex.refl S1, R1, AS.later e1 a⟩ ?_ ?_ ?_
    · rintro i σ' H' _ ⟨S', ρ', e2, R2, _⟩
      exact e2.trans R2.sub
    · rintro i x σ' H' H'' hi' ⟨S', ρ', e2, R2, a2⟩ ⟨d, hd, y⟩
      have hdr : ds.drop i = d :: ds.drop (i + 1) := by
        have hlt : i < ds.length := hi'
        rw [List.drop_eq_getElem_cons hlt]
        rw [List.getElem?_eq_getElem hlt] at hd
        rw [Option.some.inj hd]
      rw [hdr] at a2
      obtain ⟨S2, e3, R3, r3⟩ : ∃ S2, Ex S' S2 ∧ Rel B S0 M σ' H'' S2 ρ' ∧ Rp S2 x d := by
        rcases y with ⟨rfl, r⟩ | ⟨T, xs, es, rfl, hT, rfl, rfl, r⟩
        · exact ⟨S', Ex.refl S', R2, Rp.mono e2 _ r⟩
        · exact ⟨upd S' T (.tup xs), Ex.new (R2.fresh hT).2, R2.pub hT, Rp.tup upd_same (RpL.mono (e2.trans (Ex.new (R2.fresh hT).2)) _ r)⟩
      have a3 : AS ER B S0 M S2 E (sLoop fg fs (d :: ds.drop (i + 1)) ρ') := AS.later e3 a2
      unfold sLoop at a3
      cases eg : fg d ρ' with
      | none => rw [eg] at a3; exact (show False from a3).elim
      | some ρ1 =>
        rw [eg] at a3
        refine hg.go B S0 M σ' H'' S2 ρ' x d ρ1 _ R3 r3 eg fun σ2 _ _ R4 => ?_
        refine hb.go B S0 M σ2 H'' S2 ρ1 _ R4 ?_
        simp only at a3
        cases eb : fs ρ1 with
        | nx ρ2 => rw [eb] at a3; exact fun σ3 H3 S3 e5 R5 => ⟨S3, ρ2, (e2.trans e3).trans e5, R5, AS.later e5 a3⟩
        | ct ρ2 => rw [eb] at a3; exact fun σ3 H3 S3 e5 R5 => ⟨S3, ρ2, (e2.trans e3).trans e5, R5, AS.later e5 a3⟩
        | bk ρ2 => rw [eb] at a3; exact a3
        | rt rv ρ2 => rw [eb] at a3; exact a3
        | err c fs => rw [eb] at a3; exact a3
        | no => rw [eb] at a3; exact a3
    · rintro σ' H' ⟨S', ρ', e2, R2, a2⟩
      rw [List.drop_length] at a2
      exact a2 σ' H' S' (Ex.refl S') R2⟩
/-! ### while -/
def sWhile (ft : Ft) (fb : Fs) : Nat → Fs
  | 0, _ => .no
  | n + 1, ρ => onR (ft ρ) fun b ρ1 => if b = true then (match fb ρ1 with
    | .nx ρ2 => sWhile ft fb n ρ2
    | .ct ρ2 => sWhile ft fb n ρ2
    | .bk ρ2 => .nx ρ2
    | .rt rv ρ2 => .rt rv ρ2
    | .err c fs => .err c fs
    | .no => .no) else .nx ρ1
theorem rs_while (n : Nat) (h : RT ER t ft) (hb : RS ER ts fs) : RS ER (tWhile t ts) (sWhile ft fs n) := ⟨fun B S0 M σ H S ρ E R a => by
  refine ⟨fun m σ' H' => ∃ S' ρ', Ex S S' ∧ Rel B S0 M σ' H' S' ρ' ∧ AS ER B S0 M S' E (sWhile ft fs m ρ'), ⟨n, S, ρ, Ex.refl S, R, a⟩, ?_⟩
  rintro m σ' H' ⟨S', ρ', e1, R1, a1⟩
  cases m with
  | zero => exact (show False from a1).elim
  | succ m =>
    replace a1 : AS ER B S0 M S' E (onR (ft ρ') fun b ρ1 => if b = true then (match fs ρ1 with
      | .nx ρ2 => sWhile ft fs m ρ2
      | .ct ρ2 => sWhile ft fs m ρ2
      | .bk ρ2 => .nx ρ2
      | .rt rv ρ2 => .rt rv ρ2
      | .err c fs => .err c fs
      | .no => .no) else .nx ρ1) := a1
    refine h.go B S0 M σ' H' S' ρ' _ R1 (AT.bindS a1 fun b ρ1 H2 S2 e2 R2 a2 => ?_)
    cases b with
    | false => exact a2 σ' H2 S2 (Ex.refl S2) R2
    | true =>
      simp only [if_true] at a2 ⊢
      refine ⟨fun σ2 H3 => ∃ S3 ρ3, Ex S S3 ∧ Rel B S0 M σ2 H3 S3 ρ3 ∧ AS ER B S0 M S3 E (sWhile ft fs m ρ3), fun σ2 H3 z => ⟨m, Nat.lt_succ_self m, z⟩, ?_⟩
      refine hb.go B S0 M σ' H2 S2 ρ1 _ R2 ?_
      cases eb : fs ρ1 with
      | nx ρ2 => rw [eb] at a2; exact fun σ3 H3 S3 e5 R5 => ⟨S3, ρ2, (e1.trans e2).trans e5, R5, AS.later e5 a2⟩
      | ct ρ2 => rw [eb] at a2; exact fun σ3 H3 S3 e5 R5 => ⟨S3, ρ2, (e1.trans e2).trans e5, R5, AS.later e5 a2⟩
      | bk ρ2 => rw [eb] at a2; exact a2
      | rt rv ρ2 => rw [eb] at a2; exact a2
      | err c fs => rw [eb] at a2; exact a2
      | no => rw [eb] at a2; exact a2⟩
end
/-! ### comprehensions -/
def wipeE (ρ : En) : List Nat → En
  | [] => ρ
  | v :: vs => (wipeE ρ vs).set v .no
theorem Rel.wipe {B S0 : Hp} {M : List Addr} {σ : L2.St} {H S : Hp} {ρ : En} (R : Rel B S0 M σ H S ρ) : ∀ vs : List Nat, Rel B S0 M (L2.wipe σ vs) H S (wipeE ρ vs)
  | [] => R
  | v :: vs => (R.wipe vs).setNo none
theorem wipe_get {σ : L2.St} {i : Nat} : ∀ {vs : List Nat}, i ∉ vs → (wipe σ vs)[i]? = σ[i]?
  | [], _ => rfl
  | v :: vs, h => by
    have h1 : v ≠ i := fun z => h (by simp [z])
    have h2 : i ∉ vs := fun z => h (by simp [z])
    show ((wipe σ vs).set v none)[i]? = _
    rw [List.getElem?_set_ne h1, wipe_get h2]
theorem wipe_in {σ : L2.St} {i : Nat} : ∀ {vs : List Nat}, i ∈ vs → i < σ.length → (wipe σ vs)[i]? = some none
  | v :: vs, h, hl => by
    show ((wipe σ vs).set v none)[i]? = _
    by_cases e : v = i
    · subst e
      rw [List.getElem?_set_self (by rw [wipe_length]; exact hl)]
    · rw [List.getElem?_set_ne e]
      exact wipe_in ((List.mem_cons.mp h).resolve_left fun z => e z.symm) hl
theorem wipe_same {σ σ' : L2.St} {vs js : List Nat} (hl : σ'.length = σ.length) (h : ∀ i, i ∉ js → σ'[i]? = σ[i]?) (hs : ∀ j ∈ js, j ∈ vs) : wipe σ' vs = wipe σ vs := by
  apply List.ext_getElem?
  intro i
  by_cases hi : i ∈ vs
  · by_cases hz : i < σ.length
    · rw [wipe_in hi hz, wipe_in hi (by rw [hl]; exact hz)]
    · rw [List.getElem?_eq_none (by rw [wipe_length, hl]; omega), List.getElem?_eq_none (by rw [wipe_length]; omega)]
  · rw [wipe_get hi, wipe_get hi]
    exact h i fun z => hi (hs i z)
/-- behind the block: its own names are as they were, if they held something shared -/
def backE (ρ0 ρ : En) : List Nat → En
  | [] => ρ
  | v :: vs => (backE ρ0 ρ vs).set v (match ρ0[v]? with
    | some (.sh d) => .sh d
    | _ => .no)
theorem backE_length (ρ0 ρ : En) : ∀ vs, (backE ρ0 ρ vs).length = ρ.length
  | [] => rfl
  | v :: vs => by show ((backE ρ0 ρ vs).set v _).length = _; rw [List.length_set, backE_length ρ0 ρ vs]
theorem backE_out (ρ0 ρ : En) {i : Nat} : ∀ {vs : List Nat}, i ∉ vs → (backE ρ0 ρ vs)[i]? = ρ[i]?
  | [], _ => rfl
  | v :: vs, h => by
    show ((backE ρ0 ρ vs).set v _)[i]? = _
    rw [List.getElem?_set_ne (fun z => h (by simp [z])), backE_out ρ0 ρ fun z => h (by simp [z])]
theorem backE_in (ρ0 ρ : En) {i : Nat} {s : Sl} : ∀ {vs : List Nat}, i ∈ vs → (backE ρ0 ρ vs)[i]? = some s → s = .no ∨ ∃ d, s = .sh d ∧ ρ0[i]? = some (.sh d)
  | v :: vs, h, e => by
    replace e : ((backE ρ0 ρ vs).set v (match ρ0[v]? with
      | some (.sh d) => .sh d
      | _ => .no))[i]? = some s := e
    rcases getElem?_set_cases e with ⟨rfl, rfl, _⟩ | ⟨ne, e'⟩
    · split
      · rename_i d hd
        exact .inr ⟨d, rfl, hd⟩
      · exact .inl rfl
    · exact backE_in ρ0 ρ ((List.mem_cons.mp h).resolve_left fun z => ne z.symm) e'
theorem Rel.back {B S0 : Hp} {M : List Addr} {σ : L2.St} {H S H0 S' : Hp} {ρ0 ρ : En} {vs : List Nat} (R0 : Rel B S0 M σ H0 S' ρ0) (e : Ex S' S) (R : Rel B S0 M (L2.wipe σ vs) H S ρ) : Rel B S0 M σ H S (backE ρ0 ρ vs) where
  sub := R.sub
  s0 := R.s0
  keep := R.keep
  there := R.there
  base := R.base
  len := by rw [backE_length, ← R.len, wipe_length]
  ats := fun i s h => by
    by_cases hi : i ∈ vs
    · rcases backE_in ρ0 ρ hi h with rfl | ⟨d, rfl, hd⟩
      · trivial
      · obtain ⟨v, ev, r⟩ := R0.ats i _ hd
        exact ⟨v, ev, Rp.mono e _ r⟩
    · rw [backE_out ρ0 ρ hi] at h
      have q := R.ats i s h
      rw [wipe_get hi] at q
      exact q
  apart := fun i j s s' l ij h1 h2 o1 o2 q1 q2 => by
    have out : ∀ (k : Nat) (t : Sl), (backE ρ0 ρ vs)[k]? = some t → t.own = true → k ∉ vs := fun k t hk ot hi => by
      rcases backE_in ρ0 ρ hi hk with rfl | ⟨d, rfl, _⟩
      · cases ot
      · cases ot
    have n1 := out i s h1 o1
    have n2 := out j s' h2 o2
    rw [backE_out ρ0 ρ n1] at h1
    rw [backE_out ρ0 ρ n2] at h2
    exact R.apart i j s s' l ij h1 h2 o1 o2 (by rw [wipe_get n1]; exact q1) (by rw [wipe_get n2]; exact q2)
/-- an object of nobody's is written -/
theorem Rel.writeN {B S0 : Hp} {M : List Addr} {σ : L2.St} {H S : Hp} {ρ : En} {p : Addr} {o : HO} (R : Rel B S0 M σ H S ρ) (n : Nobody B M σ S ρ p) : Rel B S0 M σ (upd H p o) S ρ where
  sub := fun a u q => by rw [upd_ne (ne_of_none q n.1)]; exact R.sub a u q
  s0 := R.s0
  keep := fun a u q m => by rw [upd_ne (ne_of_none q n.2.1)]; exact R.keep a u q m
  there := fun a m => by
    rw [upd_ne (fun z => n.2.2.1 (by rw [← z]; exact m))]; exact R.there a m
  base := R.base
  len := R.len
  ats := fun i s q => (R.ats i s q).mono (Ex.refl S) fun l u e ow h1 h2 => ⟨by rw [upd_ne (fun z => n.2.2.2 i s q ow (by rw [e, z]))]; exact h1, h2⟩
  apart := R.apart
section
variable {ER : Er} {ta tb tc te : TE} {fa fb fc : Fd} {fe fe' : Fe} {tt u : TT} {ft fu : Ft} {K : PySem.W.Frag}
def lcLoop (fg : D → En → Option En) (ft : Ft) (fe : Fd) (vs : List Nat) : List D → En → List D → Res (List D × En)
  | [], ρ, acc => .ok (acc, ρ)
  | d :: ds, ρ, acc => match fg d ρ with
    | none => .no
    | some ρ1 => match ft ρ1 with
      | .ok (true, ρ2) => (match fe ρ2 with
        | .ok (y, ρ3) => if szOk acc.length = true then lcLoop fg ft fe vs ds (wipeE ρ3 vs) (acc ++ [y]) else .no
        | _ => .no)
      | .ok (false, ρ2) => lcLoop fg ft fe vs ds (wipeE ρ2 vs) acc
      | _ => .no
def dLc (fi : Fa) (fg : D → En → Option En) (ft : Ft) (fe : Fd) (vs : List Nat) : Fe := fun ρ => (fi ρ).bind fun p => (lcLoop fg ft fe vs p.1 (wipeE p.2 vs) []).bind fun q => .ok (.fr q.1, backE p.2 q.2 vs)
abbrev ER0 : Er := fun _ _ _ => False
theorem re_lc {wi : TI} {fi : Fa} {g : TG} {fg : D → En → Option En} {js vs : List Nat} (hi : RI ER wi fi) (hg : RG g fg js) (hj : ∀ j ∈ js, j ∈ vs) (ht : RT ER0 tt ft) (he : RD ER0 te fa) : RE ER (tLc wi g tt te vs) (dLc fi fg ft fa vs) := ⟨fun B S0 M σ H S ρ Q R a => by
  refine hi.go B S0 M σ H S ρ _ R ?_
  unfold dLc at a
  cases e : fi ρ with
  | err c fs => rw [e] at a; exact a
  | no => rw [e] at a; exact (show False from a).elim
  | ok p =>
    obtain ⟨ds, ρ0⟩ := p
    rw [e] at a
    replace a : AE ER B S0 M σ S Q ((lcLoop fg ft fa vs ds (wipeE ρ0 vs) []).bind fun q => .ok (.fr q.1, backE ρ0 q.2 vs)) := a
    intro J H1 S1 e1 R1 w L hL
    have W0 := R1.wipe vs
    refine lc_it w (fun i H' => ∃ S' ρ' acc dacc, Ex S1 S' ∧ H' L = some (.lst acc) ∧ RpL S' acc dacc ∧ Nobody B M (wipe σ vs) S' ρ' L ∧ Rel B S0 M (wipe σ vs) H' S' ρ' ∧ AE ER B S0 M σ S' Q ((lcLoop fg ft fa vs (ds.drop i) ρ' dacc).bind fun q => .ok (.fr q.1, backE ρ0 q.2 vs)))
      ⟨S1, wipeE ρ0 vs, [], [], Ex.refl S1, upd_same, RpL.nil, W0.nobody hL, W0.lay hL, AE.later e1 a⟩ ?_ ?_ ?_
    · rintro i H' _ ⟨S', ρ', acc, dacc, e2, _, _, _, R2, _⟩
      exact e2.trans R2.sub
    · rintro i x H' H'' hi' ⟨S', ρ', acc, dacc, e2, hacc, racc, nb, R2, a2⟩ ⟨d, hd, y⟩
      have hdr : ds.drop i = d :: ds.drop (i + 1) := by
        have hlt : i < ds.length := hi'
        rw [List.drop_eq_getElem_cons hlt]
        rw [List.getElem?_eq_getElem hlt] at hd
        rw [Option.some.inj hd]
      rw [hdr] at a2
      have P2 := R2.pin hacc nb.1 nb.2.2.1 nb.2.2.2
      obtain ⟨S2, e3, R3, r3⟩ : ∃ S2, Ex S' S2 ∧ Rel (upd B L (.lst acc)) S0 M (wipe σ vs) H'' S2 ρ' ∧ Rp S2 x d := by
        rcases y with ⟨rfl, r⟩ | ⟨T, xs, es, rfl, hT, rfl, rfl, r⟩
        · exact ⟨S', Ex.refl S', P2, Rp.mono e2 _ r⟩
        · exact ⟨upd S' T (.tup xs), Ex.new (P2.fresh hT).2, P2.pub hT, Rp.tup upd_same (RpL.mono (e2.trans (Ex.new (P2.fresh hT).2)) _ r)⟩
      have a3 : AE ER B S0 M σ S2 Q ((lcLoop fg ft fa vs (d :: ds.drop (i + 1)) ρ' dacc).bind fun q => .ok (.fr q.1, backE ρ0 q.2 vs)) := AE.later e3 a2
      unfold lcLoop at a3
      cases eg : fg d ρ' with
      | none => rw [eg] at a3; exact (show False from a3).elim
      | some ρ1 =>
        rw [eg] at a3
        refine hg.go (upd B L (.lst acc)) S0 M (wipe σ vs) H'' S2 ρ' x d ρ1 _ R3 r3 eg fun σ2 c2 l2 R4 => ?_
        have ws : wipe σ2 vs = wipe (wipe σ vs) vs := wipe_same l2 c2 hj
        have ww : wipe (wipe σ vs) vs = wipe σ vs := by
          apply List.ext_getElem?
          intro k
          by_cases hk : k ∈ vs
          · by_cases hz : k < σ.length
            · rw [wipe_in hk (by rw [wipe_length]; exact hz), wipe_in hk hz]
            · rw [List.getElem?_eq_none (by rw [wipe_length, wipe_length]; omega), List.getElem?_eq_none (by rw [wipe_length]; omega)]
          · rw [wipe_get hk]
        have ws' : wipe σ2 vs = wipe σ vs := ws.trans ww
        refine ⟨ws', ?_⟩
        simp only at a3
        have hB : Ex B (upd B L (.lst acc)) := Ex.new nb.2.1
        refine ht.go (upd B L (.lst acc)) S0 M σ2 H'' S2 ρ1 _ R4 ?_
        cases et : ft ρ1 with
        | err c fs => rw [et] at a3; exact (show False from a3).elim
        | no => rw [et] at a3; exact (show False from a3).elim
        | ok b =>
          obtain ⟨b, ρ2⟩ := b
          rw [et] at a3
          intro H3 S3 e5 R5
          cases b with
          | false =>
            simp only [Bool.false_eq_true, if_false]
            have k5 := R5.pinned (p := L) (o := .lst acc) upd_same nb.2.2.1
            have R6 : Rel B S0 M (wipe σ vs) H3 S3 (wipeE ρ2 vs) := by
              have := (R5.weak hB).wipe vs
              rw [ws'] at this
              exact this
            have P6 : Rel (upd B L (.lst acc)) S0 M (wipe σ vs) H3 S3 (wipeE ρ2 vs) := by
              have := R5.wipe vs
              rw [ws'] at this
              exact this
            refine ⟨S3, wipeE ρ2 vs, acc, dacc, (e2.trans e3).trans e5, k5.2, RpL.mono (e3.trans e5) _ racc, ⟨?_, nb.2.1, nb.2.2.1, (P6.pinned (p := L) (o := .lst acc) upd_same nb.2.2.1).1⟩, R6, AE.later e5 a3⟩
            rw [R5.base L _ upd_same, ← P2.base L _ upd_same]; exact nb.1
          | true =>
            simp only [if_true]
            refine he.go (upd B L (.lst acc)) S0 M σ2 H3 S3 ρ2 _ R5 ?_
            simp only at a3
            cases ee : fa ρ2 with
            | err c fs => rw [ee] at a3; exact (show False from a3).elim
            | no => rw [ee] at a3; exact (show False from a3).elim
            | ok z =>
              obtain ⟨z, ρ3⟩ := z
              rw [ee] at a3
              simp only at a3
              by_cases hz : szOk dacc.length = true
              · rw [if_pos hz] at a3
                intro yv H4 S4 e6 R6 r6
                have k6 := R6.pinned (p := L) (o := .lst acc) upd_same nb.2.2.1
                have P7 : Rel (upd B L (.lst acc)) S0 M (wipe σ vs) H4 S4 (wipeE ρ3 vs) := by
                  have := R6.wipe vs
                  rw [ws'] at this
                  exact this
                have sL : S4 L = none := by rw [R6.base L _ upd_same, ← P2.base L _ upd_same]; exact nb.1
                have nb7 : Nobody B M (wipe σ vs) S4 (wipeE ρ3 vs) L := ⟨sL, nb.2.1, nb.2.2.1, (P7.pinned (p := L) (o := .lst acc) upd_same nb.2.2.1).1⟩
                have racc4 := RpL.mono ((e3.trans e5).trans e6) _ racc
                refine ⟨acc, k6.2, by rw [racc.length]; exact sz_lt hz, S4, wipeE ρ3 vs, acc ++ [yv], dacc ++ [z], ((e2.trans e3).trans e5).trans e6, upd_same, racc4.append (.one r6), nb7, (P7.weak hB).writeN nb7, AE.later (e5.trans e6) a3⟩
              · rw [if_neg hz] at a3; exact (show False from a3).elim
    · rintro H' ⟨S', ρ', acc, dacc, e2, hacc, racc, nb, R2, a2⟩
      rw [List.drop_length] at a2
      replace a2 : AE ER B S0 M σ S' Q (.ok (.fr dacc, backE ρ0 ρ' vs)) := a2
      have R3 := R1.back e2 R2
      refine a2 (.ref L) H' S' (Ex.refl S') R3 ⟨L, acc, rfl, hacc, racc, nb.1, nb.2.1, nb.2.2.1, fun i s h o z => ?_⟩
      have hi : i ∉ vs := fun hi => by
        rcases backE_in ρ0 ρ' hi h with rfl | ⟨d, rfl, _⟩
        · cases o
        · cases o
      rw [backE_out ρ0 ρ' hi] at h
      exact nb.2.2.2 i s h o (by rw [wipe_get hi]; exact z)⟩
end
end DL

set_option Elab.async false
set_option linter.all false
set_option maxRecDepth 100000
set_option maxHeartbeats 4000000
namespace DL
open PySem PySem.Spec PyProof.Rows L2
variable [Wr]
/-! ### lists that are changed -/
def lstOf : Sl → Option (List D)
  | .ow ds => some ds
  | .io ds => some ds
  | _ => none
def putSl : Sl → List D → Sl
  | .ow _, ds => .ow ds
  | .io _, ds => .io ds
  | s, _ => s
theorem Rel.mutL {B S0 : Hp} {M : List Addr} {σ : L2.St} {H S : Hp} {ρ : En} (R : Rel B S0 M σ H S ρ) {i : Nat} {s : Sl} {ds : List D} (e : ρ[i]? = some s) (h : lstOf s = some ds) :
    ∃ l vs, σ[i]? = some (some (.ref l)) ∧ H l = some (.lst vs) ∧ S l = none ∧ RpL S vs ds ∧ (∀ a o, B a = some o → a ∉ M → a ≠ l) ∧ NoSl σ (ρ.set i .no) l ∧
      (∀ H' S' ws es, H' l = some (.lst ws) → S' l = none → RpL S' ws es → SlAt B M H' S' (some (some (.ref l))) (putSl s es)) ∧ ∀ ws es, RpL S ws es → Rel B S0 M σ (upd H l (.lst ws)) S (ρ.set i (putSl s es)) := by
  have q := R.ats i s e
  have out : ∀ l, s.own = true → σ[i]? = some (some (.ref l)) → NoSl σ (ρ.set i .no) l := fun l os ev j s' ej oj z => by
    rcases getElem?_set_cases ej with ⟨rfl, rfl, _⟩ | ⟨ne, ej'⟩
    · cases oj
    · exact R.apart i j _ s' l ne e ej' os oj ev z
  cases s with
  | no => cases h
  | sh d => cases h
  | od kvs => cases h
  | ow es =>
    cases h
    obtain ⟨l, vs, ev, h1, h2, h3, h4⟩ := q
    refine ⟨l, vs, ev, h1, h2, h3, fun a o hb _ z => (by rw [z, h4.1] at hb; cases hb), out l rfl ev, fun H' S' ws es g1 g2 g3 => ⟨l, ws, rfl, g1, g2, g3, h4⟩, fun ws es r => R.write e rfl ev ⟨l, ws, rfl, upd_same, h2, r, h4⟩⟩
  | io es =>
    cases h
    obtain ⟨l, vs, ev, h1, h2, h3, h4⟩ := q
    refine ⟨l, vs, ev, h1, h2, h3, fun a o _ m z => m (by rw [z]; exact h4), out l rfl ev, fun H' S' ws es g1 g2 g3 => ⟨l, ws, rfl, g1, g2, g3, h4⟩, fun ws es r => R.write e rfl ev ⟨l, ws, rfl, upd_same, h2, r, h4⟩⟩
def isL (ρ : En) (i : Nat) : Bool := (ρ[i]?.bind lstOf).isSome
/-- the list at slot i becomes g of it; what g gives besides -/
def updL {α : Type} (i : Nat) (g : List D → Option (α × List D)) (ρ : En) : Option (α × En) := match ρ[i]? with
  | some s => (lstOf s).bind fun ds => (g ds).map fun p => (p.1, ρ.set i (putSl s p.2))
  | none => none
theorem updL_some {α : Type} {i : Nat} {g : List D → Option (α × List D)} {ρ : En} {a : α} {ρ' : En} (h : updL i g ρ = some (a, ρ')) : ∃ s ds es, ρ[i]? = some s ∧ lstOf s = some ds ∧ g ds = some (a, es) ∧ ρ' = ρ.set i (putSl s es) := by
  unfold updL at h
  split at h
  · rename_i s hs
    obtain ⟨ds, h1, h2⟩ := Option.bind_eq_some_iff.mp h
    obtain ⟨p, h3, h4⟩ := Option.map_eq_some_iff.mp h2
    cases h4
    exact ⟨s, ds, p.2, hs, h1, h3, rfl⟩
  · cases h
theorem isL_addr {B S0 : Hp} {M : List Addr} {σ : L2.St} {H S : Hp} {ρ : En} (R : Rel B S0 M σ H S ρ) {i : Nat} (h : isL ρ i = true) : ∃ l vs, σ[i]? = some (some (.ref l)) ∧ H l = some (.lst vs) := by
  unfold isL at h
  obtain ⟨ds, h0⟩ := Option.isSome_iff_exists.mp h
  obtain ⟨s, e, h1⟩ := Option.bind_eq_some_iff.mp h0
  obtain ⟨l, vs, ev, hv, _⟩ := R.mutL e h1
  exact ⟨l, vs, ev, hv⟩
section
variable {ER : Er} {ta tb tc te : TE} {fa fb fc : Fd} {fe fe' : Fe} {t u : TT} {ft fu : Ft} {K : PySem.W.Frag} {tr : TA} {fr : Fa} {ts us : TS} {fs gs : Fs}
/-- x.append(e) -/
def sApp (i : Nat) (fa : Fd) : Fs := fun ρ => if isL ρ i = true then onR (fa ρ) fun d ρ1 => match updL i (fun ds => if szOk ds.length = true then some ((), ds ++ [d]) else none) ρ1 with
  | some p => .nx p.2
  | none => .no
  else .no
theorem rs_app (i : Nat) (h : RD ER te fa) : RS ER (tDrop (tBM K "list" rAppend (tVar i) (tCons te tNil))) (sApp i fa) := ⟨fun B S0 M σ H S ρ E R a => by
  unfold sApp at a
  split at a
  · rename_i hi
    obtain ⟨l, vs, ev, hv⟩ := isL_addr R hi
    refine ⟨.ref l, ev, .inl ⟨rfl, vs, SqL.of hv⟩, h.go B S0 M σ H S ρ _ R (AD.bindS a fun d ρ1 v H1 S1 e1 R1 r1 a1 => ?_)⟩
    split at a1
    · rename_i p hp
      obtain ⟨s, ds, es, hs, h1, h2, h3⟩ := updL_some (a := p.1) (ρ' := p.2) hp
      obtain ⟨l', vs', ev', hv', _, r', _, _, _, w⟩ := R1.mutL hs h1
      rw [ev] at ev'
      injection ev' with ev'; injection ev' with ev'; injection ev' with ev'
      subst ev'
      split at h2
      · rename_i hz
        injection h2 with h2; injection h2 with _ h2
        subst h2
        refine ⟨l, vs', v, rfl, rfl, hv', by rw [r'.length]; exact sz_lt hz, ?_⟩
        rw [h3] at a1
        exact a1 σ _ S1 (Ex.refl S1) (w (vs' ++ [v]) (ds ++ [d]) (r'.append (.one r1)))
      · cases h2
    · exact (show False from a1).elim
  · exact (show False from a).elim⟩
/-- x[k] = e -/
def sSet (i : Nat) (fe fk : Fd) : Fs := fun ρ => onR (fe ρ) fun d ρ1 => if isL ρ1 i = true then onR (fk ρ1) fun k ρ2 => match k with
  | .int k => (match updL i (fun ds => (ixN ds.length k).map fun j => ((), ds.set j d)) ρ2 with
    | some p => .nx p.2
    | none => .no)
  | _ => .no
  else .no
theorem rs_set (i : Nat) (h : RD ER te fa) (hk : RD ER tb fb) : RS ER (tAsg te (gSub (tVar i) tb rSetL)) (sSet i fa fb) := ⟨fun B S0 M σ H S ρ E R a => by
  refine h.go B S0 M σ H S ρ _ R (AD.bindS a fun d ρ1 v H1 S1 e1 R1 r1 a1 => ?_)
  split at a1
  · rename_i hi
    obtain ⟨l, vs, ev, hv⟩ := isL_addr R1 hi
    refine ⟨.ref l, ev, hk.go B S0 M σ H1 S1 ρ1 _ R1 (AD.bindS a1 fun k ρ2 kv H2 S2 e2 R2 r2 a2 => ?_)⟩
    cases k with
    | int k =>
      simp only at a2
      split at a2
      · rename_i p hp
        obtain ⟨s, ds, es, hs, h1, h2, h3⟩ := updL_some (a := p.1) (ρ' := p.2) hp
        obtain ⟨l', vs', ev', hv', _, r', _, _, _, w⟩ := R2.mutL hs h1
        rw [ev] at ev'
        injection ev' with ev'; injection ev' with ev'; injection ev' with ev'
        subst ev'
        obtain ⟨j, hj, h4⟩ := Option.map_eq_some_iff.mp h2
        injection h4 with _ h4
        subst h4
        refine ⟨l, vs', k, j, rfl, r2, hv', by rw [r'.length]; exact hj, ?_⟩
        rw [h3] at a2
        exact a2 σ _ S2 (Ex.refl S2) (w (vs'.set j v) (ds.set j d) (r'.set (Rp.mono e2 _ r1) j))
      · exact (show False from a2).elim
    | _ => exact (show False from a2).elim
  · exact (show False from a1).elim⟩
/-- x.insert(k, e) -/
def rIns : V → List V → Hp → VK → Prop := fun x vs H Q => ∃ (l : Addr) (xs : List V) (i : Int) (y : V), x = .ref l ∧ vs = [.int i, y] ∧ H l = some (.lst xs) ∧ xs.length < sizeLine ∧ 0 ≤ i ∧ i < 2 ^ 63 ∧ Q .non (upd H l (.lst (xs.take i.toNat ++ y :: xs.drop i.toNat)))
end
/-! ### what a def promises -/
def PGood (H H' S' : Hp) (v : V) : Rv → Prop
  | .sh d => Rp S' v d
  | .fr ds => ∃ p vs, v = .ref p ∧ H p = none ∧ H' p = some (.lst vs) ∧ S' p = none ∧ RpL S' vs ds
  | .fk kvs => ∃ p ws, v = .ref p ∧ H p = none ∧ H' p = some (.dK ws) ∧ S' p = none ∧ RpK S' ws kvs
abbrev EWT := XK → Er
abbrev EW0 : EWT := fun _ _ _ _ => False
def spP (n : Nat) (EW : EWT) (F : List D → Res Rv) : Sp := fun vs H Q E => ∃ S ds, Ex S H ∧ RpL S vs ds ∧ ds.length = n ∧ match F ds with
  | .ok rv => ∀ v H' S', Ex S S' → Ex S' H' → Ex H H' → (∀ a o, H a = some o → S' a = S a) → PGood H H' S' v rv → Q v H'
  | .err c fs => ∀ H', Ex H H' → EW E c fs H'
  | .no => False
/-- the first argument is a list that is changed -/
def spB (n : Nat) (EW : EWT) (F : List D → List D → Res (Rv × List D)) : Sp := fun vs H Q E => ∃ S l ws xs ds es, vs = .ref l :: ws ∧ H l = some (.lst xs) ∧ Ex S H ∧ S l = none ∧ RpL S xs ds ∧ RpL S ws es ∧ es.length + 1 = n ∧ match F ds es with
  | .ok (rv, ds') => ∀ v H' S' ys, Ex S S' → Ex S' H' → (∀ a o, a ≠ l → H a = some o → H' a = some o) → (∀ a o, H a = some o → S' a = S a) → H' l = some (.lst ys) → RpL S' ys ds' → PGood H H' S' v rv → Q v H'
  | .err c fs => ∀ H', (∀ a o, a ≠ l → H a = some o → H' a = some o) → EW E c fs H'
  | .no => False
def startE (m : Nat) (ds : List D) : En := ds.map .sh ++ List.replicate (m - ds.length) .no
def startB (m : Nat) (bs ds : List D) : En := .io bs :: ds.map .sh ++ List.replicate (m - (ds.length + 1)) .no
def outP : Out → Res Rv
  | .nx _ => .ok (.sh .none)
  | .rt rv _ => .ok rv
  | .err c fs => .err c fs
  | _ => .no
def io0 (rv : Rv) (ρ : En) : Res (Rv × List D) := match ρ with
  | .io ds :: _ => .ok (rv, ds)
  | _ => .no
def outB : Out → Res (Rv × List D)
  | .nx ρ => io0 (.sh .none) ρ
  | .rt rv ρ => io0 rv ρ
  | .err c fs => .err c fs
  | _ => .no
def runP (m : Nat) (f : Fs) (ds : List D) : Res Rv := outP (f (startE m ds))
def runB (m : Nat) (f : Fs) (bs ds : List D) : Res (Rv × List D) := outB (f (startB m bs ds))
theorem RpL.start {S : Hp} : ∀ {ds : List D} {vs : List V} {i : Nat} {s : Sl}, RpL S vs ds → (ds.map Sl.sh)[i]? = some s → ∃ d v, s = .sh d ∧ (vs.map some)[i]? = some (some v) ∧ Rp S v d := fun {ds vs i s} r h => by
  rw [List.getElem?_map] at h
  obtain ⟨d, h1, h2⟩ := Option.map_eq_some_iff.mp h
  obtain ⟨v, h3, h4⟩ := r.get h1
  exact ⟨d, v, h2.symm, by rw [List.getElem?_map, h3]; rfl, h4⟩
theorem rel_start {S H : Hp} {vs : List V} {ds : List D} {N : List Str} (sub : Ex S H) (r : RpL S vs ds) (hn : ds.length ≤ N.length) : Rel H S [] (start N vs) H S (startE N.length ds) where
  sub := sub
  s0 := Ex.refl S
  keep := fun _ _ h _ => h
  there := fun _ h => by cases h
  base := fun _ _ _ => rfl
  len := by
    unfold L2.start startE
    simp [r.length]
  ats := fun i s h => by
    unfold startE at h
    unfold L2.start
    have hl := r.length
    by_cases hi : i < ds.length
    · rw [List.getElem?_append_left (by simpa using hi)] at h
      obtain ⟨d, v, rfl, h1, h2⟩ := r.start h
      exact ⟨v, by rw [List.getElem?_append_left (by simp; omega)]; exact h1, h2⟩
    · rw [List.getElem?_append_right (by simpa using hi)] at h
      have : s = .no := by
        have := List.mem_of_getElem? h
        exact List.eq_of_mem_replicate this
      subst this
      trivial
  apart := fun i j s s' l ij h1 h2 o1 o2 _ _ => by
    unfold startE at h1
    by_cases hi : i < ds.length
    · rw [List.getElem?_append_left (by simpa using hi)] at h1
      obtain ⟨d, v, rfl, _, _⟩ := r.start h1
      cases o1
    · rw [List.getElem?_append_right (by simpa using hi)] at h1
      rw [List.eq_of_mem_replicate (List.mem_of_getElem? h1)] at o1
      cases o1
theorem rel_startB {S H : Hp} {l : Addr} {xs ws : List V} {bs ds : List D} {N : List Str} (sub : Ex S H) (hl : H l = some (.lst xs)) (hs : S l = none) (rb : RpL S xs bs) (r : RpL S ws ds) (hn : ds.length + 1 ≤ N.length) : Rel H S [l] (start N (.ref l :: ws)) H S (startB N.length bs ds) where
  sub := sub
  s0 := Ex.refl S
  keep := fun _ _ h _ => h
  there := fun a h => ⟨.lst xs, by rw [List.mem_singleton.mp h]; exact hl⟩
  base := fun _ _ _ => rfl
  len := by
    unfold L2.start startB
    simp [r.length]
  ats := fun i s h => by
    unfold startB at h
    unfold L2.start
    have hle := r.length
    cases i with
    | zero =>
      have : s = .io bs := by simpa using h.symm
      subst this
      exact ⟨l, xs, by simp, hl, hs, rb, List.mem_singleton.mpr rfl⟩
    | succ i =>
      have h' : (ds.map Sl.sh ++ List.replicate (N.length - (ds.length + 1)) Sl.no)[i]? = some s := by simpa using h
      have goal : ∀ x, ((ws.map some : List (Option V)) ++ List.replicate (N.length - (ws.length + 1)) none)[i]? = x → ((List.map some (V.ref l :: ws)) ++ List.replicate (N.length - (V.ref l :: ws).length) none)[i + 1]? = x := fun x hx => by simpa using hx
      by_cases hi : i < ds.length
      · rw [List.getElem?_append_left (by simpa using hi)] at h'
        obtain ⟨d, v, rfl, h1, h2⟩ := r.start h'
        exact ⟨v, goal _ (by rw [List.getElem?_append_left (by simp; omega)]; exact h1), h2⟩
      · rw [List.getElem?_append_right (by simpa using hi)] at h'
        have : s = .no := List.eq_of_mem_replicate (List.mem_of_getElem? h')
        subst this
        trivial
  apart := fun i j s s' p ij h1 h2 o1 o2 _ _ => by
    have only : ∀ (k : Nat) (t : Sl), (startB N.length bs ds)[k]? = some t → t.own = true → k = 0 := fun k t hk ot => by
      cases k with
      | zero => rfl
      | succ k =>
        have h' : (ds.map Sl.sh ++ List.replicate (N.length - (ds.length + 1)) Sl.no)[k]? = some t := by
          unfold startB at hk
          simpa using hk
        by_cases hi : k < ds.length
        · rw [List.getElem?_append_left (by simpa using hi)] at h'
          obtain ⟨d, v, rfl, _, _⟩ := r.start h'
          cases ot
        · rw [List.getElem?_append_right (by simpa using hi)] at h'
          rw [List.eq_of_mem_replicate (List.mem_of_getElem? h')] at ot
          cases ot
    exact ij ((only i s h1 o1).trans (only j s' h2 o2).symm)
section
variable {P : Program} {w : World} {K : PySem.W.Frag} {mg : Str → Option Value} {base : Heap}
theorem Good.toP {B : Hp} {σ : L2.St} {H S : Hp} {M : List Addr} {ρ : En} {v : V} {rv : Rv} (g : Good B M σ H S ρ v rv) : PGood B H S v rv := by
  cases rv with
  | sh d => exact g
  | fr ds => obtain ⟨p, vs, e, h1, h2, h3, h4, _⟩ := g; exact ⟨p, vs, e, h4, h1, h3, h2⟩
  | fk kvs => obtain ⟨p, vs, e, h1, h2, h3, h4, _⟩ := g; exact ⟨p, vs, e, h4, h1, h3, h2⟩
/-- a def by its body -/
theorem fnP {CX : CXT} {EW : EWT} {x qual : Str} {params : Arguments} {body : List Stmt} {scope : Scope} {f : Addr} {fd : FuncData} {N ps : List Str} {k n m : Nat} {fs : Fs}
    (F : FunD K x qual params body scope [] [] f fd) (S : FnScope N ps scope) (hn : ps.length = n) (hm : N.length = m)
    (hbody : ∀ (cdv : Value) (A : Around) (outer : List Env) (s : Shared) (H : Hp) (E : XK), Room k (A.deeper (envOfC qual scope s.heap.objs.size f cdv)) →
      ∃ t, PSs (cxOf CX P w K mg base N qual scope f cdv A outer s H E) body t ∧ RS (EW E) t fs) : FnOk P w K mg base CX (k + 1) f fd ps (spP n EW (runP m fs)) := by
  subst hm
  have hNl : n ≤ N.length := by
    have := congrArg List.length S.pre
    rw [List.length_take] at this
    omega
  refine F.ok S (fun vs H Q E h => ?_) (fun cdv A outer s H vs Q E hr h => ?_)
  · obtain ⟨S', ds, _, r, hl, _⟩ := h
    rw [r.length, hl, hn]
  · obtain ⟨S', ds, sub, r, hl, h⟩ := h
    obtain ⟨t, h1, h2⟩ := hbody cdv A outer s H E hr
    refine ⟨t, h1, h2.go H S' [] _ H S' _ _ (rel_start sub r (by omega)) ?_⟩
    unfold runP at h
    cases e : fs (startE N.length ds) with
    | nx ρ' =>
      rw [e] at h
      exact fun σ' H' S2 e1 R1 => h .non H' S2 e1 R1.sub (fun a o q => R1.keep a o q (by simp)) (fun a o q => R1.base a o q) rfl
    | rt rv ρ' =>
      rw [e] at h
      exact fun v σ' H' S2 e1 R1 g => h v H' S2 e1 R1.sub (fun a o q => R1.keep a o q (by simp)) (fun a o q => R1.base a o q) g.toP
    | bk ρ' => rw [e] at h; exact (show False from h).elim
    | ct ρ' => rw [e] at h; exact (show False from h).elim
    | err c fs => rw [e] at h; exact fun H' kp => h H' fun a o q => kp a o q (by simp)
    | no => rw [e] at h; exact (show False from h).elim
theorem fnB {CX : CXT} {EW : EWT} {x qual : Str} {params : Arguments} {body : List Stmt} {scope : Scope} {f : Addr} {fd : FuncData} {N ps : List Str} {k n m : Nat} {fs : Fs}
    (F : FunD K x qual params body scope [] [] f fd) (S : FnScope N ps scope) (hn : ps.length = n) (hm : N.length = m)
    (hbody : ∀ (cdv : Value) (A : Around) (outer : List Env) (s : Shared) (H : Hp) (E : XK), Room k (A.deeper (envOfC qual scope s.heap.objs.size f cdv)) →
      ∃ t, PSs (cxOf CX P w K mg base N qual scope f cdv A outer s H E) body t ∧ RS (EW E) t fs) : FnOk P w K mg base CX (k + 1) f fd ps (spB n EW (runB m fs)) := by
  subst hm
  have hNl : n ≤ N.length := by
    have := congrArg List.length S.pre
    rw [List.length_take] at this
    omega
  refine F.ok S (fun vs H Q E h => ?_) (fun cdv A outer s H vs Q E hr h => ?_)
  · obtain ⟨S', l, ws, xs, bs, ds, rfl, _, _, _, _, r, hl, _⟩ := h
    rw [List.length_cons, r.length, hl, hn]
  · obtain ⟨S', l, ws, xs, bs, ds, rfl, hv, sub, hs, rb, r, hl, h⟩ := h
    obtain ⟨t, h1, h2⟩ := hbody cdv A outer s H E hr
    refine ⟨t, h1, h2.go H S' [l] _ H S' _ _ (rel_startB sub hv hs rb r (by omega)) ?_⟩
    unfold runB at h
    have fin : ∀ {rv : Rv} {ρ' : En} {v : V} {σ' : L2.St} {H' S2 : Hp}, (match io0 rv ρ' with
        | .ok (rv, ds') => ∀ v H' S2 ys, Ex S' S2 → Ex S2 H' → (∀ a o, a ≠ l → H a = some o → H' a = some o) → (∀ a o, H a = some o → S2 a = S' a) → H' l = some (.lst ys) → RpL S2 ys ds' → PGood H H' S2 v rv → Q v H'
        | .err c fs => ∀ H', (∀ a o, a ≠ l → H a = some o → H' a = some o) → EW E c fs H'
        | .no => False) → Ex S' S2 → Rel H S' [l] σ' H' S2 ρ' → PGood H H' S2 v rv → Q v H' := fun {rv ρ' v σ' H' S2} h e1 R1 g => by
      cases ρ' with
      | nil => exact (show False from h).elim
      | cons s0 rest =>
        cases s0 with
        | io bs' =>
          obtain ⟨l', vs', ev, g1, g2, g3, g4⟩ := R1.ats 0 (.io bs') rfl
          have : l' = l := List.mem_singleton.mp g4
          subst this
          exact h v H' S2 vs' e1 R1.sub (fun a o ne q => R1.keep a o q (by simp [ne])) (fun a o q => R1.base a o q) g1 g3 g
        | _ => exact (show False from h).elim
    cases e : fs (startB N.length bs ds) with
    | nx ρ' => rw [e] at h; exact fun σ' H' S2 e1 R1 => fin h e1 R1 (v := .non) (rv := .sh .none) rfl
    | rt rv ρ' => rw [e] at h; exact fun v σ' H' S2 e1 R1 g => fin h e1 R1 g.toP
    | bk ρ' => rw [e] at h; exact (show False from h).elim
    | ct ρ' => rw [e] at h; exact (show False from h).elim
    | err c fs => rw [e] at h; exact fun H' kp => h H' fun a o ne q => kp a o q (by simp [ne])
    | no => rw [e] at h; exact (show False from h).elim
end
/-! ### calls of defs -/
section
variable {ER : Er} {EW : EWT} {E : XK} {tr : TA} {fr : Fa} {n : Nat}
theorem PGood.back {B S0 : Hp} {M : List Addr} {σ : L2.St} {H S H' S' : Hp} {ρ ρ' : En} {v : V} {rv : Rv} (R : Rel B S0 M σ H S ρ) (hρ : ∀ (i : Nat) (s : Sl), ρ'[i]? = some s → s.own = true → ∃ s', ρ[i]? = some s' ∧ s'.own = true) (g : PGood H H' S' v rv) : Good B M σ H' S' ρ' v rv := by
  have nb : ∀ p, H p = none → NoSl σ ρ' p := fun p hp i s e o z => by
    obtain ⟨s', e', o'⟩ := hρ i s e o
    exact R.noSl hp i s' e' o' z
  cases rv with
  | sh d => exact g
  | fr ds => obtain ⟨p, vs, e, h1, h2, h3, h4⟩ := g; exact ⟨p, vs, e, h2, h4, h3, (R.nobody h1).2.1, (R.nobody h1).2.2.1, nb p h1⟩
  | fk ds => obtain ⟨p, vs, e, h1, h2, h3, h4⟩ := g; exact ⟨p, vs, e, h2, h4, h3, (R.nobody h1).2.1, (R.nobody h1).2.2.1, nb p h1⟩
def dCallF (n : Nat) (F : List D → Res Rv) (f : Fa) : Fe := fun ρ => (f ρ).bind fun p => if p.1.length = n then (F p.1).bind fun rv => .ok (rv, p.2) else .no
theorem re_callG {F F' : List D → Res Rv} (hok : ∀ ds rv, F' ds = .ok rv → F ds = .ok rv) (hE : ∀ ds c fs, F' ds = .err c fs → F ds = .err c fs ∧ ∀ H, ER c fs H → EW E c fs H) (h : RA ER tr fr) : RE ER (tCall (spP n EW F) [] E tr) (dCallF n F' fr) := ⟨fun B S0 M σ H S ρ Q R a => by
  refine h.go B S0 M σ H S ρ _ R (AA.bindE a fun ds ρ1 xs H1 S1 e1 R1 r1 a1 => ?_)
  simp only at a1
  split at a1
  · rename_i hl
    refine ⟨S1, ds, R1.sub, by rw [List.append_nil]; exact r1, hl, ?_⟩
    cases eF : F' ds with
    | ok rv =>
      rw [eF] at a1
      rw [hok ds rv eF]
      intro v H' S' e2 s2 k2 b2 g2
      refine a1 v H' S' e2 ⟨s2, R1.s0.trans e2, fun b o hb hm => k2 _ _ (R1.keep b o hb hm), fun b hm => ?_, fun b o hb => ?_, R1.len, fun i s hi => ?_, R1.apart⟩ (PGood.back R1 (fun i s e o => ⟨s, e, o⟩) g2)
      · obtain ⟨o, ho⟩ := R1.there b hm
        exact ⟨o, k2 _ _ ho⟩
      · have : ∃ o', H1 b = some o' := by
          by_cases hm : b ∈ M
          · exact R1.there b hm
          · exact ⟨o, R1.keep b o hb hm⟩
        obtain ⟨o', ho'⟩ := this
        rw [b2 b o' ho', R1.base b o hb]
      · exact (R1.ats i s hi).mono e2 fun l o _ _ h1 h2 => ⟨k2 _ _ h1, by rw [b2 l o h1]; exact h2⟩
    | err c fs =>
      rw [eF] at a1
      rw [(hE ds c fs eF).1]
      exact fun H' k => (hE ds c fs eF).2 H' (a1 H' fun b o hb hm => k _ _ (R1.keep b o hb hm))
    | no => rw [eF] at a1; exact (show False from a1).elim
  · exact (show False from a1).elim⟩
theorem re_callF {F : List D → Res Rv} (hE : ∀ c fs H, ER c fs H → EW E c fs H) (h : RA ER tr fr) : RE ER (tCall (spP n EW F) [] E tr) (dCallF n F fr) := re_callG (fun _ _ e => e) (fun _ c fs e => ⟨e, hE c fs⟩) h
/-- of a def that raises nothing -/
def noErr {α : Type} : Res α → Res α
  | .ok a => .ok a
  | _ => .no
@[simp] theorem noErr_ok {α : Type} (a : α) : noErr (.ok a) = .ok a := rfl
theorem noErr_of {α : Type} {x : Res α} {a : α} (h : noErr x = .ok a) : x = .ok a := by
  cases x with
  | ok b => exact h
  | err c fs => cases h
  | no => cases h
theorem noErr_ne {α : Type} {x : Res α} {c : Str} {fs : List V} (h : noErr x = .err c fs) : False := by
  cases x with
  | ok b => cases h
  | err c fs => cases h
  | no => cases h
def dCall0 (n : Nat) (F : List D → Res Rv) (f : Fa) : Fe := dCallF n (fun ds => noErr (F ds)) f
theorem re_call0 {F : List D → Res Rv} (h : RA ER tr fr) : RE ER (tCall (spP n EW F) [] E tr) (dCall0 n F fr) := re_callG (fun _ _ e => noErr_of e) (fun _ _ _ e => (noErr_ne e).elim) h
def dCallB (n : Nat) (F : List D → List D → Res (Rv × List D)) (i : Nat) (f : Fa) : Fe := fun ρ => if isL ρ i = true then (f ρ).bind fun p => if p.1.length + 1 = n then (match p.2[i]? with
  | some s => (match lstOf s with
    | some bs => (F bs p.1).bind fun q => .ok (q.1, p.2.set i (putSl s q.2))
    | none => .no)
  | none => .no) else .no else .no
theorem re_callBG {F F' : List D → List D → Res (Rv × List D)} (i : Nat) (hok : ∀ bs ds rv, F' bs ds = .ok rv → F bs ds = .ok rv) (hE : ∀ bs ds c fs, F' bs ds = .err c fs → F bs ds = .err c fs ∧ ∀ H, ER c fs H → EW E c fs H) (h : RA ER tr fr) : RE ER (tCall (spB n EW F) [] E (tCons (tVar i) tr)) (dCallB n F' i fr) := ⟨fun B S0 M σ H S ρ Q R a => by
  unfold dCallB at a
  split at a
  · rename_i hi
    obtain ⟨l, vs, ev, hv⟩ := isL_addr R hi
    refine ⟨.ref l, ev, h.go B S0 M σ H S ρ _ R (AA.bindE a fun ds ρ1 xs H1 S1 e1 R1 r1 a1 => ?_)⟩
    simp only at a1
    split at a1
    · rename_i hl
      split at a1
      · rename_i s hs
        split at a1
        · rename_i bs hbs
          obtain ⟨l', vs', ev', hv', hS', rb, hkeep, hno, hput, _⟩ := R1.mutL hs hbs
          rw [ev] at ev'
          injection ev' with ev'; injection ev' with ev'; injection ev' with ev'
          subst ev'
          refine ⟨S1, l, xs, vs', bs, ds, by rw [List.append_nil], hv', R1.sub, hS', rb, r1, hl, ?_⟩
          have sown : s.own = true := by
            cases s with
            | ow => rfl
            | io => rfl
            | _ => cases hbs
          cases eF : F' bs ds with
          | ok q =>
            obtain ⟨rv, bs'⟩ := q
            rw [eF] at a1
            rw [hok bs ds _ eF]
            intro v H' S' ys e2 s2 k2 b2 hy ry g2
            have old : ∀ (j : Nat) (t : Sl), (ρ1.set i (putSl s bs'))[j]? = some t → t.own = true → ∃ t', ρ1[j]? = some t' ∧ t'.own = true := fun j t hj ot => by
              rcases getElem?_set_cases hj with ⟨rfl, rfl, _⟩ | ⟨_, hj'⟩
              · exact ⟨s, hs, sown⟩
              · exact ⟨t, hj', ot⟩
            refine a1 v H' S' e2 ⟨s2, R1.s0.trans e2, fun b o hb hm => k2 _ _ (hkeep b o hb hm) (R1.keep b o hb hm), fun b hm => ?_, fun b o hb => ?_, by rw [List.length_set]; exact R1.len, fun j t hj => ?_, fun j k t t' m jk h1 h2 o1 o2 q1 q2 => ?_⟩ (PGood.back R1 old g2)
            · by_cases z : b = l
              · rw [z]; exact ⟨_, hy⟩
              · obtain ⟨o, ho⟩ := R1.there b hm
                exact ⟨o, k2 _ _ z ho⟩
            · have : ∃ o', H1 b = some o' := by
                by_cases hm : b ∈ M
                · exact R1.there b hm
                · exact ⟨o, R1.keep b o hb hm⟩
              obtain ⟨o', ho'⟩ := this
              rw [b2 b o' ho', R1.base b o hb]
            · rcases getElem?_set_cases hj with ⟨rfl, rfl, _⟩ | ⟨ne, hj'⟩
              · rw [ev]
                exact hput H' S' ys bs' hy (by rw [b2 l _ hv']; exact hS') ry
              · refine (R1.ats j t hj').mono e2 fun m o em ow h1 h2 => ⟨k2 _ _ ?_ h1, by rw [b2 m o h1]; exact h2⟩
                intro z
                exact R1.apart i j s t l ne hs hj' sown ow ev (by rw [em, z])
            · obtain ⟨t1, z1, p1⟩ := old j t h1 o1
              obtain ⟨t2, z2, p2⟩ := old k t' h2 o2
              exact R1.apart j k t1 t2 m jk z1 z2 p1 p2 q1 q2
          | err c fs =>
            rw [eF] at a1
            rw [(hE bs ds c fs eF).1]
            exact fun H' k => (hE bs ds c fs eF).2 H' (a1 H' fun b o hb hm => k _ _ (hkeep b o hb hm) (R1.keep b o hb hm))
          | no => rw [eF] at a1; exact (show False from a1).elim
        · exact (show False from a1).elim
      · exact (show False from a1).elim
    · exact (show False from a1).elim
  · exact (show False from a).elim⟩
def dCallB0 (n : Nat) (F : List D → List D → Res (Rv × List D)) (i : Nat) (f : Fa) : Fe := dCallB n (fun bs ds => noErr (F bs ds)) i f
theorem re_callB0 {F : List D → List D → Res (Rv × List D)} (i : Nat) (h : RA ER tr fr) : RE ER (tCall (spB n EW F) [] E (tCons (tVar i) tr)) (dCallB0 n F i fr) := re_callBG i (fun _ _ _ e => noErr_of e) (fun _ _ _ _ e => (noErr_ne e).elim) h
end
end DL

set_option Elab.async false
set_option linter.all false
set_option maxRecDepth 100000
set_option maxHeartbeats 4000000
namespace DL
open PySem PySem.Spec PyProof.Rows L2
variable [Wr]
/-! ### several values at once, new ones kept apart -/
def GoodL (M : List Addr) (σ : L2.St) (H S : Hp) (ρ : En) : Hp → List V → List Rv → Prop
  | _, [], [] => True
  | B, v :: vs, .sh d :: rvs => Rp S v d ∧ GoodL M σ H S ρ B vs rvs
  | B, v :: vs, .fr ds :: rvs => ∃ p xs, v = .ref p ∧ H p = some (.lst xs) ∧ RpL S xs ds ∧ Nobody B M σ S ρ p ∧ GoodL M σ H S ρ (upd B p (.lst xs)) vs rvs
  | B, v :: vs, .fk ds :: rvs => ∃ p xs, v = .ref p ∧ H p = some (.dK xs) ∧ RpK S xs ds ∧ Nobody B M σ S ρ p ∧ GoodL M σ H S ρ (upd B p (.dK xs)) vs rvs
  | _, _, _ => False
theorem nobody_upd {B B2 : Hp} {M : List Addr} {σ σ2 : L2.St} {S : Hp} {ρ ρ2 : En} {p : Addr} {o : HO} (h : ∀ q, Nobody B M σ S ρ q → Nobody B2 M σ2 S ρ2 q) (q : Addr) (n : Nobody (upd B p o) M σ S ρ q) : Nobody (upd B2 p o) M σ2 S ρ2 q := by
  have ne : q ≠ p := fun z => by
    have := n.2.1
    rw [z, upd_same] at this; cases this
  have hb : B q = none := by
    have := n.2.1
    rw [upd_ne ne] at this; exact this
  obtain ⟨h1, h2, h3, h4⟩ := h q ⟨n.1, hb, n.2.2.1, n.2.2.2⟩
  exact ⟨h1, by rw [upd_ne ne]; exact h2, h3, h4⟩
theorem GoodL.map {M : List Addr} {σ σ2 : L2.St} {H S : Hp} {ρ ρ2 : En} : ∀ {rvs : List Rv} {vs : List V} {B B2 : Hp}, (∀ q, Nobody B M σ S ρ q → Nobody B2 M σ2 S ρ2 q) → GoodL M σ H S ρ B vs rvs → GoodL M σ2 H S ρ2 B2 vs rvs
  | [], [], _, _, _, _ => trivial
  | .sh d :: rvs, v :: vs, _, _, h, ⟨g1, g2⟩ => ⟨g1, GoodL.map h g2⟩
  | .fr d :: rvs, v :: vs, _, _, h, ⟨p, xs, e, g1, g2, g3, g4⟩ => ⟨p, xs, e, g1, g2, h p g3, GoodL.map (nobody_upd h) g4⟩
  | .fk d :: rvs, v :: vs, _, _, h, ⟨p, xs, e, g1, g2, g3, g4⟩ => ⟨p, xs, e, g1, g2, h p g3, GoodL.map (nobody_upd h) g4⟩
  | [], _ :: _, _, _, _, g => g.elim
  | .sh _ :: _, [], _, _, _, g => g.elim
  | .fr _ :: _, [], _, _, _, g => g.elim
  | .fk _ :: _, [], _, _, _, g => g.elim
def setS : List Nat → List V → L2.St → L2.St
  | j :: js, v :: vs, σ => setS js vs (σ.set j (some v))
  | _, _, σ => σ
def setAll : List Nat → List Rv → En → En
  | j :: js, rv :: rvs, ρ => setAll js rvs (setRv j rv ρ)
  | _, _, ρ => ρ
theorem noSl_set {σ : L2.St} {ρ : En} {p q : Addr} {j : Nat} {s : Sl} (n : NoSl σ ρ q) (ne : q ≠ p) : NoSl (σ.set j (some (.ref p))) (ρ.set j s) q := fun i t e o z => by
  rcases getElem?_set_cases e with ⟨rfl, rfl, hl⟩ | ⟨ij, e'⟩
  · rcases getElem?_set_cases z with ⟨_, h, _⟩ | ⟨h, _⟩
    · injection h with h; injection h with h; exact ne h
    · exact h rfl
  · rw [List.getElem?_set_ne ij] at z
    exact n i t e' o z
theorem noSl_setSh {σ : L2.St} {ρ : En} {q : Addr} {j : Nat} {v : V} {d : D} (n : NoSl σ ρ q) : NoSl (σ.set j (some v)) (ρ.set j (.sh d)) q := fun i t e o z => by
  rcases getElem?_set_cases e with ⟨rfl, rfl, hl⟩ | ⟨ij, e'⟩
  · cases o
  · rw [List.getElem?_set_ne ij] at z
    exact n i t e' o z
theorem Rel.setAll {B S0 : Hp} {M : List Addr} {H S : Hp} : ∀ {js : List Nat} {rvs : List Rv} {vs : List V} {σ : L2.St} {ρ : En}, Rel B S0 M σ H S ρ → GoodL M σ H S ρ B vs rvs → js.length = rvs.length → Rel B S0 M (setS js vs σ) H S (DL.setAll js rvs ρ)
  | [], [], [], _, _, R, _, _ => R
  | j :: js, .sh d :: rvs, v :: vs, σ, ρ, R, ⟨g1, g2⟩, hl => by
    show Rel B S0 M (setS js vs (σ.set j (some v))) H S (DL.setAll js rvs (DL.setRv j (.sh d) ρ))
    refine Rel.setAll (R.setRv j (rv := .sh d) g1) (GoodL.map (fun q n => ⟨n.1, n.2.1, n.2.2.1, noSl_setSh n.2.2.2⟩) g2) (by simpa using hl)
  | j :: js, .fr d :: rvs, v :: vs, σ, ρ, R, ⟨p, xs, e, g1, g2, g3, g4⟩, hl => by
    subst e
    show Rel B S0 M (setS js vs (σ.set j (some (.ref p)))) H S (DL.setAll js rvs (DL.setRv j (.fr d) ρ))
    refine Rel.setAll (R.setRv j (rv := .fr d) ⟨p, xs, rfl, g1, g2, g3⟩) (GoodL.map (fun q n => ?_) g4) (by simpa using hl)
    have ne : q ≠ p := fun z => by
      have := n.2.1
      rw [z, upd_same] at this; cases this
    exact ⟨n.1, by have := n.2.1; rw [upd_ne ne] at this; exact this, n.2.2.1, noSl_set n.2.2.2 ne⟩
  | j :: js, .fk d :: rvs, v :: vs, σ, ρ, R, ⟨p, xs, e, g1, g2, g3, g4⟩, hl => by
    subst e
    show Rel B S0 M (setS js vs (σ.set j (some (.ref p)))) H S (DL.setAll js rvs (DL.setRv j (.fk d) ρ))
    refine Rel.setAll (R.setRv j (rv := .fk d) ⟨p, xs, rfl, g1, g2, g3⟩) (GoodL.map (fun q n => ?_) g4) (by simpa using hl)
    have ne : q ≠ p := fun z => by
      have := n.2.1
      rw [z, upd_same] at this; cases this
    exact ⟨n.1, by have := n.2.1; rw [upd_ne ne] at this; exact this, n.2.2.1, noSl_set n.2.2.2 ne⟩
theorem GoodL.length {M : List Addr} {σ : L2.St} {H S : Hp} {ρ : En} : ∀ {rvs : List Rv} {vs : List V} {B : Hp}, GoodL M σ H S ρ B vs rvs → vs.length = rvs.length
  | [], [], _, _ => rfl
  | .sh d :: rvs, v :: vs, _, ⟨_, g2⟩ => congrArg Nat.succ (GoodL.length g2)
  | .fr d :: rvs, v :: vs, _, ⟨_, _, _, _, _, _, g⟩ => congrArg Nat.succ (GoodL.length g)
  | .fk d :: rvs, v :: vs, _, ⟨_, _, _, _, _, _, g⟩ => congrArg Nat.succ (GoodL.length g)
  | [], _ :: _, _, g => g.elim
  | .sh _ :: _, [], _, g => g.elim
  | .fr _ :: _, [], _, g => g.elim
  | .fk _ :: _, [], _, g => g.elim
abbrev Fv := En → Res (List Rv × En)
def AV (ER : Er) (B S0 : Hp) (M : List Addr) (σ : L2.St) (S : Hp) (Q : List V → Hp → Prop) : Res (List Rv × En) → Prop
  | .ok (rvs, ρ') => ∀ vs H' S', Ex S S' → Rel B S0 M σ H' S' ρ' → GoodL M σ H' S' ρ' B vs rvs → Q vs H'
  | .err c fs => ∀ H', Kp B M H' → ER c fs H'
  | .no => False
structure RV (ER : Er) (t : TA) (f : Fv) : Prop where
  go : ∀ B S0 M σ H S ρ Q, Rel B S0 M σ H S ρ → AV ER B S0 M σ S Q (f ρ) → t σ H Q
def vNil : Fv := fun ρ => .ok ([], ρ)
def vCons (fe : Fe) (fr : Fv) : Fv := fun ρ => (fe ρ).bind fun p => (fr p.2).bind fun q => .ok (p.1 :: q.1, q.2)
section
variable {ER : Er} {ta tb tc te : TE} {fa fb fc : Fd} {fe fe' : Fe} {t u : TT} {ft fu : Ft} {K : PySem.W.Frag} {tr : TA} {fr : Fa} {fv : Fv} {ts us : TS} {fs gs : Fs}
theorem rv_nil : RV ER tNil vNil := ⟨fun B S0 M σ H S ρ Q R a => a [] H S (Ex.refl S) R trivial⟩
theorem rv_cons (ha : RE ER ta fe) (hr : RV ER tr fv) : RV ER (tCons ta tr) (vCons fe fv) := ⟨fun B S0 M σ H S ρ Q R a => by
  refine ha.go B S0 M σ H S ρ _ R ?_
  unfold vCons at a
  cases e : fe ρ with
  | err c fs => rw [e] at a; exact a
  | no => rw [e] at a; exact (show False from a).elim
  | ok p =>
    obtain ⟨rv, ρ1⟩ := p
    rw [e] at a
    replace a : AV ER B S0 M σ S Q ((fv ρ1).bind fun q => .ok (rv :: q.1, q.2)) := a
    intro v H1 S1 e1 R1 g1
    -- the rest, with what is to be kept
    have rest : ∀ (B' : Hp), Ex B B' → Rel B' S0 M σ H1 S1 ρ1 → (∀ vs H' S' rvs ρ', Ex S1 S' → Rel B' S0 M σ H' S' ρ' → GoodL M σ H' S' ρ' B' vs rvs → GoodL M σ H' S' ρ' B (v :: vs) (rv :: rvs)) → tr σ H1 fun xs H2 => Q (v :: xs) H2 := fun B' hB R' k => by
      refine hr.go B' S0 M σ H1 S1 ρ1 _ R' ?_
      cases e2 : fv ρ1 with
      | err c fs => rw [e2] at a; exact fun H' kp => a H' fun b o hb hm => kp b o (hB b o hb) hm
      | no => rw [e2] at a; exact (show False from a).elim
      | ok q =>
        rw [e2] at a
        exact fun vs H' S' e3 R3 g3 => a (v :: vs) H' S' (e1.trans e3) (R3.weak hB) (k vs H' S' q.1 q.2 e3 R3 g3)
    cases rv with
    | sh d => exact rest B (Ex.refl B) R1 fun vs H' S' rvs ρ' e3 _ g3 => ⟨Rp.mono e3 _ g1, g3⟩
    | fr ds =>
      obtain ⟨p, xs, rfl, h1, h2, nb⟩ := g1
      have P := R1.pin h1 nb.1 nb.2.2.1 nb.2.2.2
      refine rest (upd B p (.lst xs)) (Ex.new nb.2.1) P fun vs H' S' rvs ρ' e3 R3 g3 => ?_
      have k := R3.pinned (p := p) (o := .lst xs) upd_same nb.2.2.1
      exact ⟨p, xs, rfl, k.2, RpL.mono e3 _ h2, ⟨by rw [R3.base p _ upd_same, ← P.base p _ upd_same]; exact nb.1, nb.2.1, nb.2.2.1, k.1⟩, g3⟩
    | fk ds =>
      obtain ⟨p, xs, rfl, h1, h2, nb⟩ := g1
      have P := R1.pin h1 nb.1 nb.2.2.1 nb.2.2.2
      refine rest (upd B p (.dK xs)) (Ex.new nb.2.1) P fun vs H' S' rvs ρ' e3 R3 g3 => ?_
      have k := R3.pinned (p := p) (o := .dK xs) upd_same nb.2.2.1
      exact ⟨p, xs, rfl, k.2, RpK.mono e3 h2, ⟨by rw [R3.base p _ upd_same, ← P.base p _ upd_same]; exact nb.1, nb.2.1, nb.2.2.1, k.1⟩, g3⟩⟩
/-- a, b = x, y -/
def sPar (js : List Nat) (f : Fv) : Fs := fun ρ => onR (f ρ) fun rvs ρ1 => if js.length = rvs.length then .nx (setAll js rvs ρ1) else .no
theorem AV.bindS {B S0 : Hp} {M : List Addr} {σ : L2.St} {S : Hp} {E : Ends} {Q : List V → Hp → Prop} {x : Res (List Rv × En)} {k : List Rv → En → Out}
    (h : AS ER B S0 M S E (onR x k))
    (c : ∀ rv ρ' v H' S', Ex S S' → Rel B S0 M σ H' S' ρ' → GoodL M σ H' S' ρ' B v rv → AS ER B S0 M S' E (k rv ρ') → Q v H') : AV ER B S0 M σ S Q x := by
  cases x with
  | ok a => exact fun v H' S' e R g => c a.1 a.2 v H' S' e R g (AS.later e h)
  | err c fs => exact h
  | no => exact (show False from h).elim
theorem rs_par {i j : Nat} (h : RV ER tr fv) : RS ER (tPar i j tr) (sPar [i, j] fv) := ⟨fun B S0 M σ H S ρ E R a => by
  refine h.go B S0 M σ H S ρ _ R (AV.bindS a fun rvs ρ1 vs H1 S1 e1 R1 g1 a1 => ?_)
  by_cases hl : [i, j].length = rvs.length
  · rw [if_pos hl] at a1
    have hv := g1.length
    obtain ⟨v, w, rfl⟩ : ∃ v w, vs = [v, w] := by
      match vs, (show vs.length = 2 by rw [hv, ← hl]; rfl) with
      | [v, w], _ => exact ⟨v, w, rfl⟩
    exact ⟨v, w, rfl, a1 _ H1 S1 (Ex.refl S1) (R1.setAll (js := [i, j]) g1 hl)⟩
  · rw [if_neg hl] at a1; exact (show False from a1).elim⟩
theorem rs_par3 {i j l : Nat} (h : RV ER tr fv) : RS ER (L2.tPar3 i j l tr) (sPar [i, j, l] fv) := ⟨fun B S0 M σ H S ρ E R a => by
  refine h.go B S0 M σ H S ρ _ R (AV.bindS a fun rvs ρ1 vs H1 S1 e1 R1 g1 a1 => ?_)
  by_cases hl : [i, j, l].length = rvs.length
  · rw [if_pos hl] at a1
    have hv := g1.length
    obtain ⟨v, w, x, rfl⟩ : ∃ v w x, vs = [v, w, x] := by
      match vs, (show vs.length = 3 by rw [hv, ← hl]; rfl) with
      | [v, w, x], _ => exact ⟨v, w, x, rfl⟩
    exact ⟨v, w, x, rfl, a1 _ H1 S1 (Ex.refl S1) (R1.setAll (js := [i, j, l]) g1 hl)⟩
  · rw [if_neg hl] at a1; exact (show False from a1).elim⟩
/-- names as a tuple's targets -/
def gNames : List Nat → TGs
  | [] => gNil
  | j :: js => gCons (gName j) (gNames js)
theorem gNames_ok {Q : L2.St → Hp → Prop} : ∀ {js : List Nat} {vs : List V} {σ : L2.St} {H : Hp}, vs.length = js.length → Q (setS js vs σ) H → gNames js vs σ H Q
  | [], [], _, _, _, q => ⟨rfl, q⟩
  | j :: js, v :: vs, σ, H, hl, q => ⟨v, vs, rfl, gNames_ok (js := js) (vs := vs) (σ := σ.set j (some v)) (by simpa using hl) q⟩
/-- the same by a tuple that is made -/
theorem rs_parT {js : List Nat} (hjs : js.length ≤ 1000) (h : RV ER tr fv) : RS ER (tAsg (tTup tr) (gTup K js.length (gNames js))) (sPar js fv) := ⟨fun B S0 M σ H S ρ E R a => by
  refine h.go B S0 M σ H S ρ _ R (AV.bindS a fun rvs ρ1 vs H1 S1 e1 R1 g1 a1 => ?_)
  by_cases hl : js.length = rvs.length
  · rw [if_pos hl] at a1
    have hv := g1.length
    have hz := sizeLine_eq
    refine ⟨by omega, fun p hp => ⟨p, vs, rfl, SqT.of upd_same, by omega, gNames_ok (by omega) ?_⟩⟩
    refine a1 _ _ S1 (Ex.refl S1) ((R1.lay hp).setAll (js := js) ?_ hl)
    have up : ∀ (vz : List V) {rvs : List Rv} {vs : List V} {B' : Hp}, (GoodL M σ H1 S1 ρ1 B' vs rvs) → GoodL M σ (upd H1 p (.tup vz)) S1 ρ1 B' vs rvs := by
      intro vz rvs
      induction rvs with
      | nil => intro vs B' g; cases vs with
        | nil => trivial
        | cons => exact (show False from g).elim
      | cons rv rvs ih =>
        intro vs B' g
        cases vs with
        | nil => cases rv <;> exact (show False from g).elim
        | cons v vs =>
          cases rv with
          | sh d => exact ⟨g.1, ih g.2⟩
          | fr d => obtain ⟨q, xs, e, h1, h2, h3, h4⟩ := g; exact ⟨q, xs, e, by rw [upd_ne (ne_of_none h1 hp)]; exact h1, h2, h3, ih h4⟩
          | fk d => obtain ⟨q, xs, e, h1, h2, h3, h4⟩ := g; exact ⟨q, xs, e, by rw [upd_ne (ne_of_none h1 hp)]; exact h1, h2, h3, ih h4⟩
    exact up vs g1
  · rw [if_neg hl] at a1; exact (show False from a1).elim⟩
/-- a, b = e -/
def sUnp (fg : D → En → Option En) (f : Fd) : Fs := fun ρ => onR (f ρ) fun d ρ1 => match fg d ρ1 with
  | some ρ2 => .nx ρ2
  | none => .no
theorem rs_unp {g : TG} {fg : D → En → Option En} {js : List Nat} (h : RD ER te fa) (hg : RG g fg js) : RS ER (tAsg te g) (sUnp fg fa) := ⟨fun B S0 M σ H S ρ E R a => by
  refine h.go B S0 M σ H S ρ _ R (AD.bindS a fun d ρ1 v H1 S1 e1 R1 r1 a1 => ?_)
  cases eg : fg d ρ1 with
  | none => rw [eg] at a1; exact (show False from a1).elim
  | some ρ2 =>
    rw [eg] at a1
    exact hg.go B S0 M σ H1 S1 ρ1 v d ρ2 _ R1 r1 eg fun σ' _ _ R2 => a1 σ' H1 S1 (Ex.refl S1) R2⟩
/-- x += e, ints -/
def sAug (i : Nat) (f : Fd) : Fs := fun ρ => match ρ[i]? with
  | some (.sh (.int a)) => onR (f ρ) fun d ρ1 => (match d with
    | .int b => .nx (ρ1.set i (.sh (.int (a + b))))
    | _ => .no)
  | _ => .no
theorem rs_aug (i : Nat) (h : RD ER te fa) : RS ER (tAug i te (ipI fun a b => a + b)) (sAug i fa) := ⟨fun B S0 M σ H S ρ E R a => by
  unfold sAug at a
  split at a
  · rename_i n hn
    obtain ⟨v, ev, r⟩ := R.ats i _ hn
    refine ⟨v, ev, h.go B S0 M σ H S ρ _ R (AD.bindS a fun d ρ1 w H1 S1 e1 R1 r1 a1 => ?_)⟩
    cases d with
    | int b => exact ⟨n, b, r, r1, a1 _ H1 S1 (Ex.refl S1) (R1.setSh rfl)⟩
    | _ => exact (show False from a1).elim
  · exact (show False from a).elim⟩
/-- x[k] += e, a list of ints -/
theorem pget_list {X : Cx} : PGet X (rIxL X.K) := by
  intro pins s σ H o i ov iv Q I ro ri h
  obtain ⟨p, xs, k, z, rfl, rfl, hq, he, q⟩ := h
  cases ro
  obtain ⟨t, rfl⟩ := ri
  obtain ⟨its, r, pl, hz⟩ := I.list hq
  obtain ⟨j, h1, h2, h3, h4, h5⟩ := atI_get he
  obtain ⟨w, ew, rw'⟩ := r.get h2
  have hl := r.length
  have hn := line63
  have fin : EP X pins σ Q w s := ⟨z, H, I, rw', q⟩
  by_cases h0 : 0 ≤ k
  · have hj : k.toNat = j := by
      rw [seqIndex_of h0 h5] at h1
      exact Option.some.inj h1
    exact wpAny_getItem_list pl.isList h0 (by omega) (by rw [hj]; simpa using ew) fin
  · have hj : (k + (its.toArray.size : Int)).toNat = j := by
      rw [seqIndex_neg (by omega) h4] at h1
      rw [List.size_toArray, ← hl]
      exact Option.some.inj h1
    exact wpAny_getItem_list_neg pl.isList (by omega) (by rw [List.size_toArray] <;> omega) (by omega) (by rw [hj]; simpa using ew) fin
def sAugI (i : Nat) (fk fe : Fd) : Fs := fun ρ => if isL ρ i = true then onR (fk ρ) fun k ρ1 => match k, ρ1[i]?.bind lstOf with
  | .int k, some ds => (match atI ds k with
    | some (.int a) => onR (fe ρ1) fun d ρ2 => (match d with
      | .int b => (match updL i (fun ds => (ixN ds.length k).map fun j => ((), ds.set j (.int (a + b)))) ρ2 with
        | some p => .nx p.2
        | none => .no)
      | _ => .no)
    | _ => .no)
  | _, _ => .no
  else .no
theorem rs_augI (i : Nat) (hk : RD ER tb fb) (h : RD ER te fa) : RS ER (tAugS (tVar i) tb te (rIxL K) (ipI fun a b => a + b) rSetL) (sAugI i fb fa) := ⟨fun B S0 M σ H S ρ E R a => by
  unfold sAugI at a
  split at a
  · rename_i hi
    obtain ⟨l, vs, ev, hv⟩ := isL_addr R hi
    refine ⟨.ref l, ev, hk.go B S0 M σ H S ρ _ R (AD.bindS a fun k ρ1 kv H1 S1 e1 R1 r1 a1 => ?_)⟩
    split at a1
    · rename_i k ds hd
      split at a1
      · rename_i n hn
        obtain ⟨s, hs, h1⟩ := Option.bind_eq_some_iff.mp hd
        obtain ⟨l', vs', ev', hv', _, r', _, _, _, w⟩ := R1.mutL hs h1
        rw [ev] at ev'
        injection ev' with ev'; injection ev' with ev'; injection ev' with ev'
        subst ev'
        obtain ⟨x, hx, rx⟩ := r'.atI hn
        refine ⟨l, vs', k, x, rfl, r1, SqL.of hv', hx, ?_⟩
        refine h.go B S0 M σ H1 S1 ρ1 _ R1 (AD.bindS a1 fun d ρ2 y H2 S2 e2 R2 r2 a2 => ?_)
        cases d with
        | int b =>
          simp only at a2
          split at a2
          · rename_i p hp
            obtain ⟨s2, ds2, es, hs2, h12, h2, h3⟩ := updL_some (a := p.1) (ρ' := p.2) hp
            obtain ⟨l2, vs2, ev2, hv2, _, rr2, _, _, _, w2⟩ := R2.mutL hs2 h12
            rw [ev] at ev2
            injection ev2 with ev2; injection ev2 with ev2; injection ev2 with ev2
            subst ev2
            obtain ⟨j, hj, h4⟩ := Option.map_eq_some_iff.mp h2
            injection h4 with _ h4
            subst h4
            refine ⟨n, b, rx, r2, l, vs2, k, j, rfl, r1, hv2, by rw [rr2.length]; exact hj, ?_⟩
            rw [h3] at a2
            exact a2 σ _ S2 (Ex.refl S2) (w2 (vs2.set j (.int (n + b))) (ds2.set j (.int (n + b))) (rr2.set (show Rp S2 (.int (n + b)) (.int (n + b)) from rfl) j))
          · exact (show False from a2).elim
        | _ => exact (show False from a2).elim
      · exact (show False from a1).elim
    · exact (show False from a1).elim
  · exact (show False from a).elim⟩
end
end DL

set_option Elab.async false
set_option linter.all false
set_option maxRecDepth 100000
set_option maxHeartbeats 4000000
namespace DL
open PySem PySem.Spec PyProof.Rows L2
variable [Wr]
/-! ### a new list of new lists -/
abbrev Its' := List (Addr × List V)
abbrev RpLL (S : Hp) (its : Its') (bss : List (List D)) : Prop := Paired (fun (q : Addr × List V) (bs : List D) => RpL S q.2 bs) its bss
theorem RpLL.mono {S S' : Hp} (e : Ex S S') {its : Its'} {bss : List (List D)} (h : RpLL S its bss) : RpLL S' its bss := Paired.mapP h fun _ _ r => RpL.mono e _ r
theorem paired_snoc {α β : Type} {G : α → β → Prop} {a : α} {b : β} (g : G a b) : ∀ {l : List α} {m : List β}, Paired G l m → Paired G (l ++ [a]) (m ++ [b])
  | _, _, .nil => .cons g .nil
  | _, _, .cons h r => .cons h (paired_snoc g r)
def refs (its : Its') : List V := its.map fun q => .ref q.1
def spLL (n : Nat) (EW : EWT) (F : List D → Option (List (List D))) : Sp := fun vs H Q E => ∃ S ds, Ex S H ∧ RpL S vs ds ∧ ds.length = n ∧ match F ds with
  | some bss => ∀ p its H' S', Ex S S' → Ex S' H' → Ex H H' → (∀ a o, H a = some o → S' a = S a) → H p = none → H' p = some (.lst (refs its)) → S' p = none → (its.map Prod.fst).Nodup →
      (∀ q ∈ its, H q.1 = none ∧ H' q.1 = some (.lst q.2) ∧ S' q.1 = none ∧ q.1 ≠ p) → RpLL S' its bss → Q (.ref p) H'
  | none => False
def llLoop (j : Nat) (fe : Fe) (vs : List Nat) : List D → En → Option (List (List D))
  | [], _ => some []
  | d :: ds, ρ => match fe (ρ.set j (.sh d)) with
    | .ok (.fr bs, ρ') => (llLoop j fe vs ds (wipeE ρ' vs)).map (bs :: ·)
    | _ => none
def dLL (fi : Fa) (j : Nat) (fe : Fe) (vs : List Nat) (ρ : En) : Option (List (List D)) := match fi ρ with
  | .ok (ds, ρ0) => llLoop j fe vs ds (wipeE ρ0 vs)
  | _ => none
section
variable {ER : Er} {te : TE} {fe : Fe} {K : PySem.W.Frag}
theorem lcLL {wi : TI} {fi : Fa} {j : Nat} {vs : List Nat} (hi : RI ER wi fi) (hj : j ∈ vs) (he : RE ER0 te fe) {B S0 : Hp} {M : List Addr} {σ : L2.St} {H S : Hp} {ρ : En} {Q : VK} {bss : List (List D)} (R : Rel B S0 M σ H S ρ) (hb : dLL fi j fe vs ρ = some bss) (hbl : bss.length ≤ 1000)
    (a : ∀ p its H' S', Ex S S' → Ex S' H' → Kp B M H' → (∀ a o, B a = some o → S' a = S0 a) → B p = none → H' p = some (.lst (refs its)) → S' p = none → (its.map Prod.fst).Nodup →
      (∀ q ∈ its, B q.1 = none ∧ H' q.1 = some (.lst q.2) ∧ S' q.1 = none ∧ q.1 ≠ p) → RpLL S' its bss → Q (.ref p) H') : tLc wi (gName j) tYes te vs σ H Q := by
  refine hi.go B S0 M σ H S ρ _ R ?_
  unfold dLL at hb
  cases e : fi ρ with
  | err c fs => rw [e] at hb; cases hb
  | no => rw [e] at hb; cases hb
  | ok p =>
    obtain ⟨ds, ρ0⟩ := p
    rw [e] at hb
    replace hb : llLoop j fe vs ds (wipeE ρ0 vs) = some bss := hb
    intro J H1 S1 e1 R1 w L hL
    have W0 := R1.wipe vs
    refine lc_it w (fun i H' => ∃ S' ρ' B1 its dn rest, Ex S1 S' ∧ Ex B B1 ∧ Rel B1 S0 M (wipe σ vs) H' S' ρ' ∧ H' L = some (.lst (refs its)) ∧ Nobody B1 M (wipe σ vs) S' ρ' L ∧
      (∀ q ∈ its, B1 q.1 = some (.lst q.2) ∧ B q.1 = none ∧ q.1 ∉ M ∧ S0 q.1 = none ∧ q.1 ≠ L) ∧ (its.map Prod.fst).Nodup ∧ its.length ≤ i ∧ RpLL S' its dn ∧ llLoop j fe vs (ds.drop i) ρ' = some rest ∧ bss = dn ++ rest)
      ⟨S1, wipeE ρ0 vs, B, [], [], bss, Ex.refl S1, Ex.refl B, W0.lay hL, upd_same, W0.nobody hL, fun q hq => (by cases hq), List.Pairwise.nil, Nat.le_refl _, .nil, hb, rfl⟩ ?_ ?_ ?_
    · rintro i H' _ ⟨S', ρ', B1, its, dn, rest, e2, _, R2, _⟩
      exact e2.trans R2.sub
    · rintro i x H' H'' hi' ⟨S', ρ', B1, its, dn, rest, e2, eB, R2, hLv, nb, hits, hnd, hlen, rll, hrest, hall⟩ ⟨d, hd, y⟩
      have hdr : ds.drop i = d :: ds.drop (i + 1) := by
        have hlt : i < ds.length := hi'
        rw [List.drop_eq_getElem_cons hlt]
        rw [List.getElem?_eq_getElem hlt] at hd
        rw [Option.some.inj hd]
      rw [hdr] at hrest
      unfold llLoop at hrest
      have P2 := R2.pin hLv nb.1 nb.2.2.1 nb.2.2.2
      obtain ⟨S2, e3, R3, r3⟩ : ∃ S2, Ex S' S2 ∧ Rel (upd B1 L (.lst (refs its))) S0 M (wipe σ vs) H'' S2 ρ' ∧ Rp S2 x d := by
        rcases y with ⟨rfl, r⟩ | ⟨T, xs, es, rfl, hT, rfl, rfl, r⟩
        · exact ⟨S', Ex.refl S', P2, Rp.mono e2 _ r⟩
        · exact ⟨upd S' T (.tup xs), Ex.new (P2.fresh hT).2, P2.pub hT, Rp.tup upd_same (RpL.mono (e2.trans (Ex.new (P2.fresh hT).2)) _ r)⟩
      have R4 := R3.setSh (i := j) r3
      have ws' : wipe ((wipe σ vs).set j (some x)) vs = wipe σ vs := by
        have l2 : ((wipe σ vs).set j (some x)).length = σ.length := by rw [List.length_set, wipe_length]
        apply List.ext_getElem?
        intro k
        by_cases hk : k ∈ vs
        · by_cases hz : k < σ.length
          · rw [wipe_in hk (by rw [l2]; exact hz), wipe_in hk hz]
          · rw [List.getElem?_eq_none (by rw [wipe_length, l2]; omega), List.getElem?_eq_none (by rw [wipe_length]; omega)]
        · rw [wipe_get hk, List.getElem?_set_ne (fun z => hk (by rw [← z]; exact hj))]
      refine ⟨ws', ?_⟩
      show te ((wipe σ vs).set j (some x)) H'' _
      refine he.go _ S0 M _ H'' S2 _ _ R4 ?_
      cases ee : fe (ρ'.set j (.sh d)) with
      | err c fs => rw [ee] at hrest; cases hrest
      | no => rw [ee] at hrest; cases hrest
      | ok z =>
        obtain ⟨rv, ρ3⟩ := z
        rw [ee] at hrest
        cases rv with
        | sh => cases hrest
        | fk => cases hrest
        | fr bs =>
          replace hrest : (llLoop j fe vs (ds.drop (i + 1)) (wipeE ρ3 vs)).map (bs :: ·) = some rest := hrest
          obtain ⟨rest', hr1, hr2⟩ := Option.map_eq_some_iff.mp hrest
          rintro v H4 S4 e6 R6 ⟨p, xs, rfl, h1, h2, n6⟩
          have hnd1 : Ex B1 (upd B1 L (.lst (refs its))) := Ex.new nb.2.1
          have k6 := R6.pinned (p := L) (o := .lst (refs its)) upd_same nb.2.2.1
          have sL : S4 L = none := by rw [R6.base L _ upd_same, ← P2.base L _ upd_same]; exact nb.1
          have pL : p ≠ L := fun z => by
            have := n6.2.1
            rw [z, upd_same] at this; cases this
          have pB1 : B1 p = none := hnd1.none n6.2.1
          have pB : B p = none := eB.none pB1
          -- the new one is kept from now on
          have P7 : Rel B1 S0 M (wipe σ vs) H4 S4 (wipeE ρ3 vs) := by
            have := (R6.weak hnd1).wipe vs
            rw [ws'] at this
            exact this
          have PL : NoSl (wipe σ vs) (wipeE ρ3 vs) L := by
            have := R6.wipe vs
            rw [ws'] at this
            exact (this.pinned (p := L) (o := .lst (refs its)) upd_same nb.2.2.1).1
          have Pp : NoSl (wipe σ vs) (wipeE ρ3 vs) p := fun a s ea oa za => by
            have Rw := R6.wipe vs
            rw [ws'] at Rw
            -- a slot of the wiped frame is a slot of the frame
            have sub : ∀ (us : List Nat) (a : Nat) (s : Sl), (wipeE ρ3 us)[a]? = some s → s.own = true → ρ3[a]? = some s ∧ a ∉ us := by
              intro us
              induction us with
              | nil => intro a s h _; exact ⟨h, by simp⟩
              | cons u us ih =>
                intro a s h o
                rcases getElem?_set_cases (show ((wipeE ρ3 us).set u .no)[a]? = some s from h) with ⟨rfl, rfl, _⟩ | ⟨ne, h'⟩
                · cases o
                · obtain ⟨q1, q2⟩ := ih a s h' o
                  exact ⟨q1, by simp [q2, Ne.symm ne]⟩
            obtain ⟨q1, q2⟩ := sub vs a s ea oa
            refine n6.2.2.2 a s q1 oa ?_
            have : (wipe ((wipe σ vs).set j (some x)) vs)[a]? = some (some (.ref p)) := by rw [ws']; exact za
            rw [wipe_get q2] at this
            exact this
          have P8 := P7.pin h1 n6.1 n6.2.2.1 Pp
          have nbL : Nobody (upd B1 p (.lst xs)) M (wipe σ vs) S4 (wipeE ρ3 vs) L := ⟨sL, by rw [upd_ne (Ne.symm pL)]; exact nb.2.1, nb.2.2.1, PL⟩
          have hlt : i < ds.length := hi'
          refine ⟨refs its, k6.2, ?_, S4, wipeE ρ3 vs, upd B1 p (.lst xs), its ++ [(p, xs)], dn ++ [bs], rest', ((e2.trans e3).trans e6), eB.trans (Ex.new pB1), P8.writeN nbL, ?_, nbL, ?_, ?_, ?_, ?_, hr1, ?_⟩
          · unfold refs
            rw [List.length_map, Paired.length rll, sizeLine_eq]
            have := congrArg List.length hall
            rw [List.length_append] at this
            omega
          · rw [upd_same]; unfold refs; rw [List.map_append]; rfl
          · intro q hq
            rcases List.mem_append.mp hq with hq | hq
            · obtain ⟨z1, z2, z3, z4, z5⟩ := hits q hq
              exact ⟨by rw [upd_ne (fun z => by rw [z, pB1] at z1; cases z1)]; exact z1, z2, z3, z4, z5⟩
            · have : q = (p, xs) := by simpa using hq
              subst this
              exact ⟨upd_same, pB, n6.2.2.1, by rw [← P8.base p _ upd_same]; exact n6.1, pL⟩
          · rw [List.map_append, List.nodup_append]
            refine ⟨hnd, by simp, fun a ha b hb z => ?_⟩
            have hb' : b = p := by simpa using hb
            obtain ⟨q, hq, rfl⟩ := List.mem_map.mp ha
            obtain ⟨z1, _⟩ := hits q hq
            rw [z, hb', pB1] at z1; cases z1
          · rw [List.length_append, List.length_singleton]; omega
          · exact paired_snoc (G := fun (q : Addr × List V) (bs : List D) => RpL S4 q.2 bs) (a := (p, xs)) h2 (RpLL.mono (e3.trans e6) rll)
          · rw [hall, ← hr2, List.append_assoc]; rfl
    · rintro H' ⟨S', ρ', B1, its, dn, rest, e2, eB, R2, hLv, nb, hits, hnd, _, rll, hrest, hall⟩
      rw [List.drop_length] at hrest
      have : rest = [] := by
        unfold llLoop at hrest
        exact (Option.some.inj hrest).symm
      rw [this, List.append_nil] at hall
      refine a L its H' S' (e1.trans e2) R2.sub (fun b o h m => R2.keep b o (eB b o h) m) (fun b o h => R2.base b o (eB b o h)) (eB.none nb.2.1) hLv nb.1 hnd (fun q hq => ?_) (by rw [hall]; exact rll)
      obtain ⟨z1, z2, z3, z4, z5⟩ := hits q hq
      exact ⟨z2, R2.keep _ _ z1 z3, by rw [R2.base _ _ z1]; exact z4, z5⟩
/-! ### a for over a new list of new lists -/
def sLoopB (j : Nat) (fb : Fs) : List (List D) → En → Out
  | [], ρ => .nx ρ
  | bs :: bss, ρ => match fb (ρ.set j (.ow bs)) with
    | .nx ρ2 => sLoopB j fb bss ρ2
    | .ct ρ2 => sLoopB j fb bss ρ2
    | .bk ρ2 => .nx ρ2
    | .rt rv ρ2 => .rt rv ρ2
    | .err c fs => .err c fs
    | .no => .no
def sForB (n : Nat) (F : List D → Option (List (List D))) (fa : Fa) (j : Nat) (fb : Fs) : Fs := fun ρ => onR (fa ρ) fun ds ρ1 => if ds.length = n then (match F ds with
  | some bss => sLoopB j fb bss ρ1
  | none => .no) else .no
def pinL (B : Hp) : Its' → Hp
  | [] => B
  | q :: r => upd (pinL B r) q.1 (.lst q.2)
theorem pinL_none {B : Hp} {a : Addr} : ∀ {its : Its'}, B a = none → (∀ q ∈ its, q.1 ≠ a) → pinL B its a = none
  | [], h, _ => h
  | q :: r, h, n => by
    show upd (pinL B r) q.1 (.lst q.2) a = none
    rw [upd_ne (Ne.symm (n q (by simp)))]
    exact pinL_none h fun q hq => n q (by simp [hq])
theorem pinL_ex {B : Hp} : ∀ {its : Its'}, (∀ q ∈ its, B q.1 = none) → (its.map Prod.fst).Nodup → Ex B (pinL B its)
  | [], _, _ => Ex.refl B
  | q :: r, h, nd => by
    have nd' := List.nodup_cons.mp nd
    refine (pinL_ex (fun q hq => h q (by simp [hq])) nd'.2).trans (Ex.new ?_)
    exact pinL_none (h q (by simp)) fun q' hq' z => nd'.1 (List.mem_map.mpr ⟨q', hq', z⟩)
theorem Rel.pinL {B S0 : Hp} {M : List Addr} {σ : L2.St} {H S : Hp} {ρ : En} (R : Rel B S0 M σ H S ρ) : ∀ {its : Its'}, (∀ q ∈ its, H q.1 = some (.lst q.2) ∧ S q.1 = none ∧ q.1 ∉ M ∧ NoSl σ ρ q.1) → Rel (DL.pinL B its) S0 M σ H S ρ
  | [], _ => R
  | q :: r, h => by
    obtain ⟨h1, h2, h3, h4⟩ := h q (by simp)
    exact (R.pinL (its := r) fun q hq => h q (by simp [hq])).pin h1 h2 h3 h4
theorem rs_forB {EW : EWT} {E : XK} {n : Nat} {F : List D → Option (List (List D))} {tr : TA} {fa : Fa} {j : Nat} {ts : TS} {fs : Fs} (ha : RA ER tr fa) (hb : RS ER ts fs) : RS ER (tFor (iSeq K (tCall (spLL n EW F) [] E tr)) (gName j) ts) (sForB n F fa j fs) := ⟨fun B S0 M σ H S ρ D R a => by
  refine ha.go B S0 M σ H S ρ _ R ?_
  unfold sForB at a
  cases e : fa ρ with
  | err c fs => rw [e] at a; exact a
  | no => rw [e] at a; exact (show False from a).elim
  | ok p =>
    obtain ⟨ds, ρ1⟩ := p
    rw [e] at a
    replace a : AS ER B S0 M S D (if ds.length = n then (match F ds with
      | some bss => sLoopB j fs bss ρ1
      | none => .no) else .no) := a
    intro xs H1 S1 e1 R1 r1
    by_cases hl : ds.length = n
    · rw [if_pos hl] at a
      show spLL n EW F (xs ++ []) H1 _ E
      refine ⟨S1, ds, R1.sub, by rw [List.append_nil]; exact r1, hl, ?_⟩
      cases eF : F ds with
      | none => rw [eF] at a; exact (show False from a).elim
      | some bss =>
        rw [eF] at a
        replace a : AS ER B S0 M S D (sLoopB j fs bss ρ1) := a
        intro p its H2 S2 e2 s2 k2 b2 hp hp2 sp nd hits rll
        -- the frame behind the call
        have R2 : Rel B S0 M σ H2 S2 ρ1 := by
          refine ⟨s2, R1.s0.trans e2, fun b o hb hm => k2 _ _ (R1.keep b o hb hm), fun b hm => ?_, fun b o hb => ?_, R1.len, fun i s hi => ?_, R1.apart⟩
          · obtain ⟨o, ho⟩ := R1.there b hm
            exact ⟨o, k2 _ _ ho⟩
          · have : ∃ o', H1 b = some o' := by
              by_cases hm : b ∈ M
              · exact R1.there b hm
              · exact ⟨o, R1.keep b o hb hm⟩
            obtain ⟨o', ho'⟩ := this
            rw [b2 b o' ho', R1.base b o hb]
          · exact (R1.ats i s hi).mono e2 fun l o _ _ h1 h2 => ⟨k2 _ _ h1, by rw [b2 l o h1]; exact h2⟩
        have fr : ∀ b, H1 b = none → B b = none ∧ b ∉ M ∧ NoSl σ ρ1 b := fun b hb => by
          obtain ⟨_, z2, z3, z4⟩ := R1.nobody hb
          exact ⟨z2, z3, z4⟩
        refine .inl ⟨p, rfl, ⟨_, SqL.of hp2⟩, ?_⟩
        have pin0 : Rel (upd (DL.pinL B its) p (.lst (refs its))) S0 M σ H2 S2 ρ1 :=
          (R2.pinL (its := its) fun q hq => ⟨(hits q hq).2.1, (hits q hq).2.2.1, (fr q.1 (hits q hq).1).2.1, (fr q.1 (hits q hq).1).2.2⟩).pin hp2 sp (fr p hp).2.1 (fr p hp).2.2
        refine for_it (walk_list (K := K) (a := p) (xs := refs its)) (fun i σ' H' => ∃ S' ρ' rest brest, Ex S2 S' ∧ its.drop i = rest ∧ bss.drop i = brest ∧ Rel (upd (DL.pinL B rest) p (.lst (refs its))) S0 M σ' H' S' ρ' ∧ AS ER B S0 M S' D (sLoopB j fs brest ρ'))
          ⟨S2, ρ1, its, bss, Ex.refl S2, rfl, rfl, pin0, AS.later (e1.trans e2) a⟩ ?_ ?_ ?_
        · rintro i σ' H' _ ⟨S', ρ', rest, brest, _, _, _, R3, _⟩
          exact SqL.of (R3.keep p _ upd_same (fr p hp).2.1)
        · rintro i x σ' H' H'' hi' ⟨S', ρ', rest, brest, e3, hr, hbr, R3, a3⟩ ⟨rfl, hx⟩
          have hil : i < its.length := by
            have : (refs its).length = its.length := by simp [refs]
            omega
          have hlb : its.length = bss.length := Paired.length rll
          have hdr : its.drop i = its[i] :: its.drop (i + 1) := List.drop_eq_getElem_cons hil
          have hdb : bss.drop i = bss[i]'(by omega) :: bss.drop (i + 1) := List.drop_eq_getElem_cons (by omega)
          have hxe : x = .ref its[i].1 := by
            unfold refs at hx
            rw [List.getElem?_map, List.getElem?_eq_getElem hil] at hx
            exact (Option.some.inj hx).symm
          obtain ⟨qi, hqi⟩ : ∃ q, q = its[i] := ⟨_, rfl⟩
          have hq : qi ∈ its := by rw [hqi]; exact List.getElem_mem hil
          obtain ⟨q1, q2, q3, q4⟩ := hits qi hq
          rw [← hr, hdr, ← hqi] at R3
          rw [← hbr, hdb] at a3
          have ndd : ((its.drop i).map Prod.fst).Nodup := by
            rw [List.map_drop]
            exact nd.sublist (List.drop_sublist _ _)
          rw [hdr, ← hqi, List.map_cons, List.nodup_cons] at ndd
          have inB : ∀ q ∈ its.drop (i + 1), B q.1 = none := fun q hq => (fr q.1 (hits q (List.mem_of_mem_drop hq)).1).1
          have atq : upd (DL.pinL B (qi :: its.drop (i + 1))) p (.lst (refs its)) qi.1 = some (.lst qi.2) := by
            rw [upd_ne q4]
            exact upd_same
          have pk := R3.pinned atq (fr qi.1 q1).2.1
          have smaller : Ex (upd (DL.pinL B (its.drop (i + 1))) p (.lst (refs its))) (upd (DL.pinL B (qi :: its.drop (i + 1))) p (.lst (refs its))) := fun b o hb => by
            by_cases z : b = p
            · rw [z, upd_same] at hb ⊢; exact hb
            · rw [upd_ne z] at hb ⊢
              have : b ≠ qi.1 := fun y => by
                rw [y, pinL_none (fr qi.1 q1).1 fun q hq z => ndd.1 (List.mem_map.mpr ⟨q, hq, z⟩)] at hb
                cases hb
              show upd (DL.pinL B (its.drop (i + 1))) qi.1 (.lst qi.2) b = some o
              rw [upd_ne this]; exact hb
          have R4 := R3.weak smaller
          have noneq : upd (DL.pinL B (its.drop (i + 1))) p (.lst (refs its)) qi.1 = none := by
            rw [upd_ne q4]
            exact pinL_none (fr qi.1 q1).1 fun q hq z => ndd.1 (List.mem_map.mpr ⟨q, hq, z⟩)
          have S'q : S' qi.1 = none := by
            rw [R3.base _ _ atq, ← pin0.base qi.1 (.lst qi.2) ?_]
            · exact q3
            · rw [upd_ne q4]
              have hmem : ∀ (l : Its'), qi ∈ l → (l.map Prod.fst).Nodup → DL.pinL B l qi.1 = some (.lst qi.2) := by
                intro l
                induction l with
                | nil => intro h _; cases h
                | cons c l ih =>
                  intro h nd
                  rcases List.mem_cons.mp h with rfl | h
                  · exact upd_same
                  · have ndc := List.nodup_cons.mp nd
                    show upd (DL.pinL B l) c.1 (.lst c.2) qi.1 = _
                    rw [upd_ne (fun z => ndc.1 (List.mem_map.mpr ⟨qi, h, z⟩))]
                    exact ih h ndc.2
              exact hmem its hq nd
          have rq : RpL S' qi.2 (bss[i]'(by omega)) := by
            have g : ∀ {l : Its'} {m : List (List PyData)} {k : Nat} {q : Addr × List V}, RpLL S2 l m → l[k]? = some q → ∃ b, m[k]? = some b ∧ RpL S2 q.2 b := fun r h => paired_get r h
            obtain ⟨b, hb1, hb2⟩ := g rll (List.getElem?_eq_getElem hil)
            rw [List.getElem?_eq_getElem (by omega)] at hb1
            rw [hqi, Option.some.inj hb1]
            exact RpL.mono e3 _ hb2
          have R5 := R4.setOwn (i := j) (s0 := .ow (bss[i]'(by omega))) ⟨qi.1, qi.2, rfl, pk.2, S'q, rq, noneq, (fr qi.1 q1).2.1⟩ pk.1
          show ts _ (σ'.set j (some x)) H''
          rw [hxe, ← hqi]
          refine hb.go _ S0 M _ H'' S' _ _ R5 ?_
          unfold sLoopB at a3
          have toB : Ex B (upd (DL.pinL B (its.drop (i + 1))) p (.lst (refs its))) := by
            refine (pinL_ex inB ndd.2).trans (Ex.new ?_)
            exact pinL_none (fr p hp).1 fun q hq => (hits q (List.mem_of_mem_drop hq)).2.2.2
          cases eb : fs (ρ'.set j (.ow (bss[i]'(by omega)))) with
          | nx ρ2 => rw [eb] at a3; exact fun σ3 H3 S3 e5 R6 => ⟨S3, ρ2, _, _, e3.trans e5, rfl, rfl, R6, AS.later e5 a3⟩
          | ct ρ2 => rw [eb] at a3; exact fun σ3 H3 S3 e5 R6 => ⟨S3, ρ2, _, _, e3.trans e5, rfl, rfl, R6, AS.later e5 a3⟩
          | bk ρ2 => rw [eb] at a3; exact fun σ3 H3 S3 e5 R6 => a3 σ3 H3 S3 e5 (R6.weak toB)
          | rt rv ρ2 =>
            rw [eb] at a3
            intro v σ3 H3 S3 e5 R6 g6
            refine a3 v σ3 H3 S3 e5 (R6.weak toB) ?_
            cases rv with
            | sh d => exact g6
            | fr d => obtain ⟨p', vs', z1, z2, z3, z4, z5, z6⟩ := g6; exact ⟨p', vs', z1, z2, z3, z4, toB.none z5, z6⟩
            | fk d => obtain ⟨p', vs', z1, z2, z3, z4, z5, z6⟩ := g6; exact ⟨p', vs', z1, z2, z3, z4, toB.none z5, z6⟩
          | err c fs => rw [eb] at a3; exact fun H' kp => a3 H' fun b o hb hm => kp b o (toB b o hb) hm
          | no => rw [eb] at a3; exact (show False from a3).elim
        · rintro σ' H' ⟨S', ρ', rest, brest, e3, hr, hbr, R3, a3⟩
          have hz : (refs its).length = its.length := by simp [refs]
          have hlb : its.length = bss.length := Paired.length rll
          rw [hz, List.drop_length] at hr
          rw [hz, hlb, List.drop_length] at hbr
          subst hr hbr
          exact a3 σ' H' S' (Ex.refl S') (R3.weak (Ex.new (fr p hp).1))
    · rw [if_neg hl] at a; exact (show False from a).elim⟩
end
end DL

set_option Elab.async false
set_option linter.all false
set_option maxRecDepth 100000
set_option maxHeartbeats 4000000
namespace DL
open PySem PySem.Spec PyProof.Rows L2
variable [Wr]
/-! ### built-ins by their names -/
structure Bn (mg : Str → Option Value) : Prop where
  abs : mg "abs" = none
  all : mg "all" = none
  any : mg "any" = none
  bool : mg "bool" = none
  dict : mg "dict" = none
  enumerate : mg "enumerate" = none
  int : mg "int" = none
  isinstance : mg "isinstance" = none
  len : mg "len" = none
  list : mg "list" = none
  max : mg "max" = none
  min : mg "min" = none
  range : mg "range" = none
  repr : mg "repr" = none
  set : mg "set" = none
  sorted : mg "sorted" = none
  str : mg "str" = none
  sum : mg "sum" = none
  tuple : mg "tuple" = none
  zip : mg "zip" = none
theorem b_abs : bootBuiltins "abs" = some (.builtin "abs") := by decide +kernel
theorem b_all : bootBuiltins "all" = some (.builtin "all") := by decide +kernel
theorem b_any : bootBuiltins "any" = some (.builtin "any") := by decide +kernel
theorem b_bool : bootBuiltins "bool" = some (.type "bool") := by decide +kernel
theorem b_dict : bootBuiltins "dict" = some (.type "dict") := by decide +kernel
theorem b_int : bootBuiltins "int" = some (.type "int") := by decide +kernel
theorem b_isinstance : bootBuiltins "isinstance" = some (.builtin "isinstance") := by decide +kernel
theorem b_len : bootBuiltins "len" = some (.builtin "len") := by decide +kernel
theorem b_list : bootBuiltins "list" = some (.type "list") := by decide +kernel
theorem b_max : bootBuiltins "max" = some (.builtin "max") := by decide +kernel
theorem b_min : bootBuiltins "min" = some (.builtin "min") := by decide +kernel
theorem b_repr : bootBuiltins "repr" = some (.builtin "repr") := by decide +kernel
theorem b_set : bootBuiltins "set" = some (.type "set") := by decide +kernel
theorem b_sorted : bootBuiltins "sorted" = some (.builtin "sorted") := by decide +kernel
theorem b_str : bootBuiltins "str" = some (.type "str") := by decide +kernel
theorem b_sum : bootBuiltins "sum" = some (.builtin "sum") := by decide +kernel
theorem b_tuple : bootBuiltins "tuple" = some (.type "tuple") := by decide +kernel
section
variable {X : Cx}
theorem c_len : CallR X (.builtin "len") (rLenD X.K) := call_len
theorem c_tuple : CallR X (.type "tuple") (rTupleF X.K) := call_tuple_of
theorem c_list : CallR X (.type "list") (rListF X.K) := call_list_of
theorem c_int : CallR X (.type "int") rIntF := call_int1
theorem c_max2 (hc : X.calm = true) : CallR X (.builtin "max") rMax2 := call_max2 hc
theorem c_min2 (hc : X.calm = true) : CallR X (.builtin "min") rMin2 := call_min2 hc
theorem c_abs : CallR X (.builtin "abs") rAbsF := call_abs
end
theorem hu65 {A : Around} {k : Nat} (hr : Room k A) : A.units + 65 < cLine := by have := hr.un; omega
abbrev FnP (K : PySem.W.Frag) (x : Str) (st : Stmt) (f : Addr) (fd : FuncData) : Prop := FunD K x x (defArgs st) (defBody st) (defScope st) [] [] f fd
section
variable {P : Program} {w : World} {K : PySem.W.Frag} {mg : Str → Option Value} {base : Heap}
/-- a def by its name: it raises nothing -/
structure Cal0 (P : Program) (w : World) (K : PySem.W.Frag) (mg : Str → Option Value) (base : Heap) (k : Nat) (x : Str) (sp : Sp) : Prop where
  ex : ∃ (f : Addr) (fd : FuncData) (ps : List Str), FnOk P w K mg base CX0 k f fd ps sp ∧ mg x = some (.ref f) ∧ PySem.W.keepIn K (.ref f) = true ∧ Binds K fd ps []
theorem pe_c0 {X : Cx} {k j : Nat} {x : Str} {sp : Sp} {t : TA} {e : Expr} {es : List Expr} {p pos : Pos} (c : Cal0 X.prog X.w X.K X.mg X.base k x sp) (hr : Room j X.A) (hk : k ≤ j) (hg : Gl X x) (ha : PA X (e :: es) t)
    (hdb : (x == ("__debug__" : Str)) = false := by decide) (he : starEach (e :: es) X.env = (false, eval e X.env) :: starEach es X.env := by rfl) (hpl : (backTo pos (starEach es X.env)).any (·.1) = false := by rfl) :
    PE X (.Call (.Name x p) (e :: es) [] pos) (tCall sp [] E0 t) := by
  obtain ⟨f, fd, ps, F, hm, kp, b⟩ := c.ex
  exact pe_call F (hr.mono hk) hg hm kp b .nil pass0 ha hdb he hpl
theorem calP {k : Nat} {x : Str} {f : Addr} {fd : FuncData} {ps : List Str} {sp : Sp} {st : Stmt} (F : FnP K x st f fd) (G : FnOk P w K mg base CX0 k f fd ps sp) (m : mg x = some (.ref f)) (b : Binds K fd ps []) : Cal0 P w K mg base k x sp := ⟨f, fd, ps, G, m, F.kp, b⟩
def runLL (m : Nat) (fi : Fa) (j : Nat) (fe : Fe) (vs : List Nat) (ds : List D) : Option (List (List D)) := match dLL fi j fe vs (startE m ds) with
  | some bss => if bss.length ≤ 1000 then some bss else none
  | none => none
/-- a def whose body is one comprehension of new lists -/
theorem fnLL {EW : EWT} {CX : CXT} {x qual : Str} {params : Arguments} {body : List Stmt} {scope : Scope} {f : Addr} {fd : FuncData} {N ps : List Str} {k n m : Nat} {j : Nat} {vs : List Nat} {fi : Fa} {fe : Fe}
    (F : FunD K x qual params body scope [] [] f fd) (S : FnScope N ps scope) (hn : ps.length = n) (hm : N.length = m) (hj : j ∈ vs)
    (hbody : ∀ (cdv : Value) (A : Around) (outer : List Env) (s : Shared) (H : Hp) (E : XK), Room k (A.deeper (envOfC qual scope s.heap.objs.size f cdv)) →
      ∃ wi te, PSs (cxOf CX P w K mg base N qual scope f cdv A outer s H E) body (tRet (tLc wi (gName j) tYes te vs)) ∧ RI ER0 wi fi ∧ RE ER0 te fe) :
    FnOk P w K mg base CX (k + 1) f fd ps (spLL n EW (runLL m fi j fe vs)) := by
  subst hm
  have hNl : n ≤ N.length := by
    have := congrArg List.length S.pre
    rw [List.length_take] at this
    omega
  refine F.ok S (fun vs H Q E h => ?_) (fun cdv A outer s H vs' Q E hr h => ?_)
  · obtain ⟨S', ds, _, r, hl, _⟩ := h
    rw [r.length, hl, hn]
  · obtain ⟨S', ds, sub, r, hl, h⟩ := h
    obtain ⟨wi, te, h1, h2, h3⟩ := hbody cdv A outer s H E hr
    refine ⟨_, h1, ?_⟩
    unfold runLL at h
    cases e : dLL fi j fe vs (startE N.length ds) with
    | none => rw [e] at h; exact (show False from h).elim
    | some bss =>
      rw [e] at h
      by_cases hb : bss.length ≤ 1000
      · simp only [if_pos hb] at h
        show tLc wi (gName j) tYes te vs (start N vs') H Q
        refine lcLL h2 hj h3 (rel_start sub r (by omega)) e hb fun p its H' S2 e1 s1 kp b1 hp hp2 sp nd hits rll => ?_
        exact h p its H' S2 e1 s1 (fun a o q => kp a o q (by simp)) (fun a o q => b1 a o q) hp hp2 sp nd hits rll
      · simp only [if_neg hb] at h
end
end DL

set_option Elab.async false
set_option linter.all false
namespace DL
open PySem PySem.Spec PyProof.Rows L2
variable [Wr]
/-- a law's end: what it computes is True -/
theorem law_end {F : List D → Res Rv} {ns : List Int} {H : Hp} {a : Addr} (h : F [frzD ns] = .ok (.sh (.bool true))) (hS : SqL Wr.K H a (ns.map V.int)) : spP 1 EW0 F [.ref a] H (fun v _ => v = .bl true) fun _ _ _ => False := by
  refine ⟨H, [frzD ns], Ex.refl H, ?_, rfl, ?_⟩
  · exact ⟨_, _, rfl, Rp.frz hS, rfl⟩
  · rw [h]
    intro v H' S' _ _ _ _ g
    exact g
end DL

set_option Elab.async false
set_option linter.all false
set_option maxRecDepth 100000
set_option maxHeartbeats 4000000
/-! evaluation of denotations by simp -/
namespace DL
open PySem PySem.Spec PyProof.Rows L2
variable [Wr]
@[simp] theorem dSh_ap (f : Fe) (ρ : En) : dSh f ρ = (f ρ).bind fun p => match p.1 with
  | .sh d => .ok (d, p.2)
  | .fr ds => .ok (.list ds, p.2)
  | .fk _ => .no := by
  unfold dSh
  cases f ρ with
  | ok a => obtain ⟨rv, ρ'⟩ := a; cases rv <;> rfl
  | err c fs => rfl
  | no => rfl
@[simp] theorem dVar_ap (i : Nat) (ρ : En) : dVar i ρ = match ρ[i]? with
  | some (.sh d) => .ok (.sh d, ρ)
  | some (.ow ds) => .ok (.sh (.list ds), ρ.set i (.sh (.list ds)))
  | _ => .no := id rfl
@[simp] theorem dMove_ap (i : Nat) (ρ : En) : dMove i ρ = match ρ[i]? with
  | some (.sh d) => .ok (.sh d, ρ)
  | some (.ow ds) => .ok (.fr ds, ρ.set i .no)
  | some (.od kvs) => .ok (.fk kvs, ρ.set i .no)
  | _ => .no := id rfl
@[simp] theorem dC_ap (d : D) (ρ : En) : dC d ρ = .ok (.sh d, ρ) := id rfl
@[simp] theorem optR_some (rv : Rv) (ρ : En) : optR (some rv) ρ = .ok (rv, ρ) := id rfl
@[simp] theorem optR_none (ρ : En) : optR none ρ = .no := id rfl
@[simp] theorem dOp_ap (g : D → D → Option Rv) (fa fb : Fd) (ρ : En) : dOp g fa fb ρ = (fa ρ).bind fun p => (fb p.2).bind fun q => optR (g p.1 q.1) q.2 := id rfl
@[simp] theorem dNegF_ap (fa : Fd) (ρ : En) : dNegF fa ρ = (fa ρ).bind fun p => match p.1 with
  | .int i => .ok (.sh (.int (-i)), p.2)
  | _ => .no := id rfl
@[simp] theorem dAdd_int (a b : Int) : dAdd (.int a) (.int b) = some (.sh (.int (a + b))) := id rfl
@[simp] theorem dAdd_list (a b : List D) : dAdd (.list a) (.list b) = if szOk (a.length + b.length) = true then some (.fr (a ++ b)) else none := id rfl
@[simp] theorem dAdd_tup (a b : List D) : dAdd (.tuple a) (.tuple b) = if szOk (a.length + b.length) = true then some (.sh (.tuple (a ++ b))) else none := id rfl
@[simp] theorem dAdd_str (a b : Str) : dAdd (.str a) (.str b) = if szOk (a.length + b.length) = true then some (.sh (.str (a ++ b))) else none := id rfl
@[simp] theorem dSub_int (a b : Int) : dSub (.int a) (.int b) = some (.sh (.int (a - b))) := id rfl
@[simp] theorem dMul_int (a b : Int) : dMul (.int a) (.int b) = if (smI a || smI b) = true then some (.sh (.int (a * b))) else none := id rfl
@[simp] theorem dMul_list (xs : List D) (k : Int) : dMul (.list xs) (.int k) = if (s62 k && szOk (xs.length * k.toNat)) = true then some (.fr (List.replicate k.toNat xs).flatten) else none := id rfl
@[simp] theorem dDiv_int (a b : Int) : dDiv (.int a) (.int b) = if (decide (0 < b) && s30 b) = true then some (.sh (.int (a / b))) else none := id rfl
@[simp] theorem dMod_int (a b : Int) : dMod (.int a) (.int b) = if decide (0 < b) = true then some (.sh (.int (a % b))) else none := id rfl
@[simp] theorem dLt_int (a b : Int) : dLt (.int a) (.int b) = some (.sh (.bool (decide (a < b)))) := id rfl
@[simp] theorem dLe_int (a b : Int) : dLe (.int a) (.int b) = some (.sh (.bool (decide (a ≤ b)))) := id rfl
@[simp] theorem dGt_int (a b : Int) : dGt (.int a) (.int b) = some (.sh (.bool (decide (b < a)))) := id rfl
@[simp] theorem dGe_int (a b : Int) : dGe (.int a) (.int b) = some (.sh (.bool (decide (b ≤ a)))) := id rfl
@[simp] theorem dLt_str (a b : Str) : dLt (.str a) (.str b) = some (.sh (.bool (decide (a.cps.toList < b.cps.toList)))) := id rfl
@[simp] theorem okD_int (a : Int) : okD (.int a) = true := by simp [okD, plainD, SeqAt.shaped, PyData.canLay0, PyData.depth]
@[simp] theorem okD_bool (a : Bool) : okD (.bool a) = true := by simp [okD, plainD, SeqAt.shaped, PyData.canLay0, PyData.depth]
@[simp] theorem okD_none : okD .none = true := by simp [okD, plainD, SeqAt.shaped, PyData.canLay0, PyData.depth]
theorem okD_str (a : Str) (h : PyData.strOk a = true) : okD (.str a) = true := by simp [okD, plainD, SeqAt.shaped, PyData.canLay0, PyData.depth, h]
@[simp] theorem dEq_int (a b : Int) : dEq (.int a) (.int b) = some (.sh (.bool (decide (a = b)))) := by
  simp [dEq, PyData.eqv, Bool.beq_eq_decide_eq]
@[simp] theorem dNe_int (a b : Int) : dNe (.int a) (.int b) = some (.sh (.bool (!decide (a = b)))) := by
  simp [dNe, PyData.eqv, Bool.beq_eq_decide_eq]
@[simp] theorem dB_ap (f : Fd) (ρ : En) : dB f ρ = (f ρ).bind bOf := id rfl
@[simp] theorem bOf_bool (b : Bool) (ρ : En) : bOf (.bool b, ρ) = .ok (b, ρ) := id rfl
@[simp] theorem dAnd_ap (f g : Ft) (ρ : En) : dAnd f g ρ = (f ρ).bind fun p => if p.1 = true then g p.2 else .ok (false, p.2) := id rfl
@[simp] theorem dOr_ap (f g : Ft) (ρ : En) : dOr f g ρ = (f ρ).bind fun p => if p.1 = true then .ok (true, p.2) else g p.2 := id rfl
@[simp] theorem dNot_ap (f : Ft) (ρ : En) : dNot f ρ = (f ρ).bind fun p => .ok (!p.1, p.2) := id rfl
@[simp] theorem dAndV_ap (fa : Fd) (fb : Fe) (ρ : En) : dAndV fa fb ρ = (dB fa ρ).bind fun p => if p.1 = true then fb p.2 else .ok (.sh (.bool false), p.2) := id rfl
@[simp] theorem dOrV_ap (fa : Fd) (fb : Fe) (ρ : En) : dOrV fa fb ρ = (dB fa ρ).bind fun p => if p.1 = true then .ok (.sh (.bool true), p.2) else fb p.2 := id rfl
@[simp] theorem dNotV_ap (fa : Fd) (ρ : En) : dNotV fa ρ = (dB fa ρ).bind fun p => .ok (.sh (.bool (!p.1)), p.2) := id rfl
@[simp] theorem dIf_ap (f : Ft) (fa fb : Fe) (ρ : En) : dIf f fa fb ρ = (f ρ).bind fun p => if p.1 = true then fa p.2 else fb p.2 := id rfl
def chk (o : Option Rv) (k : Bool → Res (Rv × En)) : Res (Rv × En) := match o with
  | some (.sh (.bool b)) => k b
  | _ => .no
@[simp] theorem chk_bool (b : Bool) (k : Bool → Res (Rv × En)) : chk (some (.sh (.bool b))) k = k b := id rfl
@[simp] theorem dChain_ap (g g' : D → D → Option Rv) (fa fb fc : Fd) (ρ : En) : dChain g g' fa fb fc ρ = (fa ρ).bind fun p => (fb p.2).bind fun q => chk (g p.1 q.1) fun b => if b = true then (fc q.2).bind fun z => optR (g' q.1 z.1) z.2 else .ok (.sh (.bool false), q.2) := by
  unfold dChain
  congr 1
  funext p
  congr 1
  funext q
  unfold chk
  cases g p.1 q.1 with
  | none => rfl
  | some rv =>
    cases rv with
    | sh d => cases d with
      | bool b => cases b <;> rfl
      | _ => rfl
    | _ => rfl
@[simp] theorem dNil_ap (ρ : En) : dNil ρ = .ok ([], ρ) := id rfl
@[simp] theorem dCons_ap (fa : Fd) (fr : Fa) (ρ : En) : dCons fa fr ρ = (fa ρ).bind fun p => (fr p.2).bind fun q => .ok (p.1 :: q.1, q.2) := id rfl
@[simp] theorem dTup_ap (f : Fa) (ρ : En) : dTup f ρ = (f ρ).bind fun p => if szOk p.1.length = true then .ok (.sh (.tuple p.1), p.2) else .no := id rfl
@[simp] theorem dLst_ap (f : Fa) (ρ : En) : dLst f ρ = (f ρ).bind fun p => if szOk p.1.length = true then .ok (.fr p.1, p.2) else .no := id rfl
@[simp] theorem dCall_ap (g : List D → Option Rv) (f : Fa) (ρ : En) : dCall g f ρ = (f ρ).bind fun p => optR (g p.1) p.2 := id rfl
@[simp] theorem dLen_list (ds : List D) : dLen [.list ds] = some (.sh (.int (ds.length : Nat))) := id rfl
@[simp] theorem dLen_tuple (ds : List D) : dLen [.tuple ds] = some (.sh (.int (ds.length : Nat))) := id rfl
@[simp] theorem dLen_frz (ns : List Int) : dLen [frzD ns] = some (.sh (.int (ns.length : Nat))) := by
  show some (Rv.sh (.int ((ns.map PyData.int).length : Nat))) = _
  rw [List.length_map]
@[simp] theorem dTupleF_list (ds : List D) : dTupleF [.list ds] = some (.sh (.tuple ds)) := id rfl
@[simp] theorem dTupleF_tuple (ds : List D) : dTupleF [.tuple ds] = some (.sh (.tuple ds)) := id rfl
@[simp] theorem dListF_list (ds : List D) : dListF [.list ds] = some (.fr ds) := id rfl
@[simp] theorem dListF_tuple (ds : List D) : dListF [.tuple ds] = some (.fr ds) := id rfl
@[simp] theorem dIntF_int (i : Int) : dIntF [.int i] = some (.sh (.int i)) := id rfl
@[simp] theorem dIntF_bool (b : Bool) : dIntF [.bool b] = some (.sh (.int (if b then 1 else 0))) := id rfl
@[simp] theorem dMax2_int (i j : Int) : dMax2 [.int i, .int j] = some (.sh (.int (if j > i then j else i))) := id rfl
@[simp] theorem dMin2_int (i j : Int) : dMin2 [.int i, .int j] = some (.sh (.int (if j < i then j else i))) := id rfl
@[simp] theorem dSumF_ints (ns : List Int) : dSumF [.list (ns.map .int)] = some (.sh (.int ns.sum)) := by simp [dSumF]
@[simp] theorem dAllF_bools (ns : List Bool) : dAllF [.list (ns.map .bool)] = some (.sh (.bool (ns.all id))) := by simp [dAllF]
@[simp] theorem dAnyF_bools (ns : List Bool) : dAnyF [.list (ns.map .bool)] = some (.sh (.bool (ns.any id))) := by simp [dAnyF]
@[simp] theorem dIsi_ap (T : String) (fa : Fd) (ρ : En) : dIsi T fa ρ = (fa ρ).bind fun p => optR (bRv (isiD T p.1)) p.2 := id rfl
@[simp] theorem bRv_some' (b : Bool) : bRv (some b) = some (.sh (.bool b)) := id rfl
theorem kB (a b : String) (r : Bool) (h : kitB a b = some r) : kitB a b = some r := h
@[simp] theorem isi_int_int (i : Int) : isiD "int" (.int i) = some true := show kitB "int" "int" = some true by decide +kernel
@[simp] theorem isi_int_bool (i : Bool) : isiD "int" (.bool i) = some true := show kitB "bool" "int" = some true by decide +kernel
@[simp] theorem isi_int_none : isiD "int" .none = some false := show kitB "NoneType" "int" = some false by decide +kernel
@[simp] theorem isi_int_str (i : Str) : isiD "int" (.str i) = some false := show kitB "str" "int" = some false by decide +kernel
@[simp] theorem isi_int_list (i : List D) : isiD "int" (.list i) = some false := show kitB "list" "int" = some false by decide +kernel
@[simp] theorem isi_int_tuple (i : List D) : isiD "int" (.tuple i) = some false := show kitB "tuple" "int" = some false by decide +kernel
@[simp] theorem isi_bool_int (i : Int) : isiD "bool" (.int i) = some false := show kitB "int" "bool" = some false by decide +kernel
@[simp] theorem isi_bool_bool (i : Bool) : isiD "bool" (.bool i) = some true := show kitB "bool" "bool" = some true by decide +kernel
@[simp] theorem isi_bool_none : isiD "bool" .none = some false := show kitB "NoneType" "bool" = some false by decide +kernel
@[simp] theorem isi_bool_str (i : Str) : isiD "bool" (.str i) = some false := show kitB "str" "bool" = some false by decide +kernel
@[simp] theorem isi_bool_list (i : List D) : isiD "bool" (.list i) = some false := show kitB "list" "bool" = some false by decide +kernel
@[simp] theorem isi_bool_tuple (i : List D) : isiD "bool" (.tuple i) = some false := show kitB "tuple" "bool" = some false by decide +kernel
@[simp] theorem isi_str_int (i : Int) : isiD "str" (.int i) = some false := show kitB "int" "str" = some false by decide +kernel
@[simp] theorem isi_str_bool (i : Bool) : isiD "str" (.bool i) = some false := show kitB "bool" "str" = some false by decide +kernel
@[simp] theorem isi_str_none : isiD "str" .none = some false := show kitB "NoneType" "str" = some false by decide +kernel
@[simp] theorem isi_str_str (i : Str) : isiD "str" (.str i) = some true := show kitB "str" "str" = some true by decide +kernel
@[simp] theorem isi_str_list (i : List D) : isiD "str" (.list i) = some false := show kitB "list" "str" = some false by decide +kernel
@[simp] theorem isi_str_tuple (i : List D) : isiD "str" (.tuple i) = some false := show kitB "tuple" "str" = some false by decide +kernel
@[simp] theorem isi_tuple_int (i : Int) : isiD "tuple" (.int i) = some false := show kitB "int" "tuple" = some false by decide +kernel
@[simp] theorem isi_tuple_bool (i : Bool) : isiD "tuple" (.bool i) = some false := show kitB "bool" "tuple" = some false by decide +kernel
@[simp] theorem isi_tuple_none : isiD "tuple" .none = some false := show kitB "NoneType" "tuple" = some false by decide +kernel
@[simp] theorem isi_tuple_str (i : Str) : isiD "tuple" (.str i) = some false := show kitB "str" "tuple" = some false by decide +kernel
@[simp] theorem isi_tuple_list (i : List D) : isiD "tuple" (.list i) = some false := show kitB "list" "tuple" = some false by decide +kernel
@[simp] theorem isi_tuple_tuple (i : List D) : isiD "tuple" (.tuple i) = some true := show kitB "tuple" "tuple" = some true by decide +kernel
@[simp] theorem isi_list_int (i : Int) : isiD "list" (.int i) = some false := show kitB "int" "list" = some false by decide +kernel
@[simp] theorem isi_list_bool (i : Bool) : isiD "list" (.bool i) = some false := show kitB "bool" "list" = some false by decide +kernel
@[simp] theorem isi_list_none : isiD "list" .none = some false := show kitB "NoneType" "list" = some false by decide +kernel
@[simp] theorem isi_list_str (i : Str) : isiD "list" (.str i) = some false := show kitB "str" "list" = some false by decide +kernel
@[simp] theorem isi_list_list (i : List D) : isiD "list" (.list i) = some true := show kitB "list" "list" = some true by decide +kernel
@[simp] theorem isi_list_tuple (i : List D) : isiD "list" (.tuple i) = some false := show kitB "tuple" "list" = some false by decide +kernel
@[simp] theorem dOpO_ap (g : D → D → Option Rv) (i : Nat) (fb : Fd) (ρ : En) : dOpO g i fb ρ = if (ρ[i]?.bind slD).isSome = true then (fb ρ).bind fun q => match q.2[i]?.bind slD with
  | some d => optR (g d q.1) q.2
  | none => .no
  else .no := id rfl
@[simp] theorem dOpR_ap (g : D → D → Option Rv) (fa : Fd) (i : Nat) (ρ : En) : dOpR g fa i ρ = (fa ρ).bind fun q => match q.2[i]?.bind slD with
  | some d => optR (g q.1 d) q.2
  | none => .no := id rfl
@[simp] theorem slD_sh (d : D) : slD (.sh d) = some d := id rfl
@[simp] theorem slD_ow (d : List D) : slD (.ow d) = some (.list d) := id rfl
@[simp] theorem slD_io (d : List D) : slD (.io d) = some (.list d) := id rfl
theorem atI_of {α : Type} {xs : List α} {i : Int} {x : α} (h0 : 0 ≤ i) (h : xs[i.toNat]? = some x) : atI xs i = some x := by
  have e : ((i.toNat : Nat) : Int) = i := Int.toNat_of_nonneg h0
  rw [← e]
  exact atI_nat h
@[simp] theorem dIx_list (ds : List D) (i : Int) : dIx (.list ds) (.int i) = (atI ds i).map .sh := id rfl
@[simp] theorem dIx_tuple (ds : List D) (i : Int) : dIx (.tuple ds) (.int i) = (atI ds i).map .sh := id rfl
@[simp] theorem dIx_frz (ns : List Int) (i : Int) : dIx (frzD ns) (.int i) = (atI (ns.map PyData.int) i).map .sh := id rfl
@[simp] theorem atI_zero {α : Type} (x : α) (xs : List α) : atI (x :: xs) 0 = some x := atI_of (by decide) rfl
@[simp] theorem atI_one {α : Type} (x y : α) (xs : List α) : atI (x :: y :: xs) 1 = some y := atI_of (by decide) rfl
@[simp] theorem dLenO_ap (i : Nat) (ρ : En) : dLenO i ρ = match ρ[i]?.bind slD with
  | some d => optR (dLen [d]) ρ
  | none => .no := id rfl
/-! statements -/
@[simp] theorem onR_ok {α : Type} (a : α) (ρ : En) (k : α → En → Out) : onR (.ok (a, ρ)) k = k a ρ := id rfl
@[simp] theorem onR_no {α : Type} (k : α → En → Out) : onR (.no : Res (α × En)) k = .no := id rfl
@[simp] theorem sAsg_ap (i : Nat) (f : Fe) (ρ : En) : sAsg i f ρ = onR (f ρ) fun rv ρ' => .nx (setRv i rv ρ') := id rfl
@[simp] theorem setRv_sh (i : Nat) (d : D) (ρ : En) : setRv i (.sh d) ρ = ρ.set i (.sh d) := id rfl
@[simp] theorem setRv_fr (i : Nat) (d : List D) (ρ : En) : setRv i (.fr d) ρ = ρ.set i (.ow d) := id rfl
@[simp] theorem setRv_fk (i : Nat) (d : KD) (ρ : En) : setRv i (.fk d) ρ = ρ.set i (.od d) := id rfl
@[simp] theorem sDrop_ap (f : Fe) (ρ : En) : sDrop f ρ = onR (f ρ) fun _ ρ' => .nx ρ' := id rfl
@[simp] theorem sRet_ap (f : Fe) (ρ : En) : sRet f ρ = onR (f ρ) fun rv ρ' => .rt rv ρ' := id rfl
@[simp] theorem sPass_ap (ρ : En) : sPass ρ = .nx ρ := id rfl
@[simp] theorem sIf_ap (f : Ft) (a b : Fs) (ρ : En) : sIf f a b ρ = onR (f ρ) fun c ρ' => if c = true then a ρ' else b ρ' := id rfl
def seqO (o : Out) (b : Fs) : Out := match o with
  | .nx ρ' => b ρ'
  | o => o
@[simp] theorem sSeq_ap (a b : Fs) (ρ : En) : sSeq a b ρ = seqO (a ρ) b := id rfl
@[simp] theorem seqO_nx (ρ : En) (b : Fs) : seqO (.nx ρ) b = b ρ := id rfl
@[simp] theorem seqO_rt (rv : Rv) (ρ : En) (b : Fs) : seqO (.rt rv ρ) b = .rt rv ρ := id rfl
@[simp] theorem seqO_no (b : Fs) : seqO .no b = .no := id rfl
@[simp] theorem sFor_ap (fi : Fa) (fg : D → En → Option En) (fb : Fs) (ρ : En) : sFor fi fg fb ρ = onR (fi ρ) fun ds ρ' => sLoop fg fb ds ρ' := id rfl
@[simp] theorem sLoop_nil (fg : D → En → Option En) (fb : Fs) (ρ : En) : sLoop fg fb [] ρ = .nx ρ := id rfl
@[simp] theorem outP_rt (rv : Rv) (ρ : En) : outP (.rt rv ρ) = .ok rv := id rfl
@[simp] theorem outP_nx (ρ : En) : outP (.nx ρ) = .ok (.sh .none) := id rfl
@[simp] theorem outB_rt (rv : Rv) (ds : List D) (ρ : En) : outB (.rt rv (.io ds :: ρ)) = .ok (rv, ds) := id rfl
@[simp] theorem outB_nx (ds : List D) (ρ : En) : outB (.nx (.io ds :: ρ)) = .ok (.sh .none, ds) := id rfl
@[simp] theorem dCall0_ap (n : Nat) (F : List D → Res Rv) (f : Fa) (ρ : En) : dCall0 n F f ρ = (f ρ).bind fun p => if p.1.length = n then (noErr (F p.1)).bind fun rv => .ok (rv, p.2) else .no := id rfl
@[simp] theorem dSeq_ap (fa : Fd) (ρ : En) : dSeq fa ρ = (fa ρ).bind fun p => optL (seqOf p.1) p.2 := id rfl
@[simp] theorem optL_some (ds : List D) (ρ : En) : optL (some ds) ρ = .ok (ds, ρ) := id rfl
@[simp] theorem seqOf_list (ds : List D) : seqOf (.list ds) = some ds := id rfl
@[simp] theorem seqOf_tuple (ds : List D) : seqOf (.tuple ds) = some ds := id rfl
@[simp] theorem dRng1_ap (f : Fa) (ρ : En) : dRng1 f ρ = (f ρ).bind fun p => optL (rng1 p.1) p.2 := id rfl
@[simp] theorem dRng2_ap (f : Fa) (ρ : En) : dRng2 f ρ = (f ρ).bind fun p => optL (rng2 p.1) p.2 := id rfl
@[simp] theorem rng1_int (j : Int) : rng1 [.int j] = if s62 j = true then some (rngD 0 j) else none := id rfl
@[simp] theorem rng2_int (i j : Int) : rng2 [.int i, .int j] = if (s62 i && s62 j) = true then some (rngD i j) else none := id rfl
@[simp] theorem dEnum_ap (f : Fa) (ρ : En) : dEnum f ρ = (f ρ).bind fun p => optL (enumOf p.1) p.2 := id rfl
@[simp] theorem enumOf_list (ds : List D) : enumOf [.list ds] = some (enumD ds) := id rfl
@[simp] theorem enumOf_tuple (ds : List D) : enumOf [.tuple ds] = some (enumD ds) := id rfl
@[simp] theorem gN_ap (j : Nat) (d : D) (ρ : En) : gN j d ρ = some (ρ.set j (.sh d)) := id rfl
@[simp] theorem gT_ap (n : Nat) (gs : List D → En → Option En) (ds : List D) (ρ : En) : gT n gs (.tuple ds) ρ = if ds.length = n then gs ds ρ else none := id rfl
@[simp] theorem gsNil_ap (ρ : En) : gsNil [] ρ = some ρ := id rfl
@[simp] theorem gsCons_ap (g : D → En → Option En) (gs : List D → En → Option En) (d : D) (ds : List D) (ρ : En) : gsCons g gs (d :: ds) ρ = (g d ρ).bind (gs ds) := id rfl
def updOut (o : Option (Unit × En)) : Out := match o with
  | some p => .nx p.2
  | none => .no
@[simp] theorem updOut_some (p : Unit × En) : updOut (some p) = .nx p.2 := id rfl
@[simp] theorem sApp_ap (i : Nat) (fa : Fd) (ρ : En) : sApp i fa ρ = if isL ρ i = true then onR (fa ρ) fun d ρ1 => updOut (updL i (fun ds => if szOk ds.length = true then some ((), ds ++ [d]) else none) ρ1) else .no := id rfl
@[simp] theorem lstOf_ow (ds : List D) : lstOf (.ow ds) = some ds := id rfl
@[simp] theorem lstOf_io (ds : List D) : lstOf (.io ds) = some ds := id rfl
@[simp] theorem putSl_ow (ds es : List D) : putSl (.ow ds) es = .ow es := id rfl
@[simp] theorem putSl_io (ds es : List D) : putSl (.io ds) es = .io es := id rfl
theorem szOk_of {n : Nat} (h : n ≤ 1000000) : szOk n = true := decide_eq_true h
theorem s62_of {i : Int} (h1 : -1000000 ≤ i) (h2 : i ≤ 1000000) : s62 i = true := Nat.ble_eq_true_of_le (by omega)
theorem smI_of {i : Int} (h1 : -1000000 ≤ i) (h2 : i ≤ 1000000) : smI i = true := Nat.ble_eq_true_of_le (by omega)
theorem s30_of {i : Int} (h1 : -1000000 ≤ i) (h2 : i ≤ 1000000) : s30 i = true := Nat.ble_eq_true_of_le (by omega)
end DL

set_option Elab.async false
set_option linter.all false
set_option maxRecDepth 100000
set_option maxHeartbeats 4000000
/-! loops, by an invariant -/
namespace DL
open PySem PySem.Spec PyProof.Rows L2
variable [Wr]
@[simp] theorem ixN_cast {n k : Nat} : ixN n (k : Int) = if k < n then some k else none := by
  unfold ixN
  rw [if_pos (Int.natCast_nonneg k)]
  by_cases h : k < n
  · rw [if_pos (by omega), if_pos h]; rfl
  · rw [if_neg (by omega), if_neg h]
@[simp] theorem atI_cast {α : Type} {xs : List α} {k : Nat} : atI xs (k : Int) = xs[k]? := by
  unfold atI
  rw [ixN_cast]
  by_cases h : k < xs.length
  · rw [if_pos h]; rfl
  · rw [if_neg h, List.getElem?_eq_none (by omega)]; rfl
/-- what a loop's body may end in: I goes on, C is the loop's end -/
def stepO (I : En → Prop) (C : Out → Prop) : Out → Prop
  | .nx ρ => I ρ
  | .ct ρ => I ρ
  | .bk ρ => C (.nx ρ)
  | .rt v ρ => C (.rt v ρ)
  | .err c fs => C (.err c fs)
  | .no => C .no
theorem sLoop_rel {fg : D → En → Option En} {fb : Fs} (I : List D → En → Prop) (C : Out → Prop)
    (h : ∀ d ds ρ, I (d :: ds) ρ → ∃ ρ1, fg d ρ = some ρ1 ∧ stepO (I ds) C (fb ρ1)) (hn : ∀ ρ, I [] ρ → C (.nx ρ)) : ∀ ds ρ, I ds ρ → C (sLoop fg fb ds ρ)
  | [], ρ, i => hn ρ i
  | d :: ds, ρ, i => by
    obtain ⟨ρ1, h1, h2⟩ := h d ds ρ i
    unfold sLoop
    rw [h1]
    simp only
    generalize e : fb ρ1 = o at h2 ⊢
    cases o with
    | nx ρ2 => exact sLoop_rel I C h hn ds ρ2 h2
    | ct ρ2 => exact sLoop_rel I C h hn ds ρ2 h2
    | bk ρ2 => exact h2
    | rt v ρ2 => exact h2
    | err c fs => exact h2
    | no => exact h2
/-- over a mapped list -/
theorem sLoop_map {β : Type} {fg : D → En → Option En} {fb : Fs} (enc : β → D) (I : List β → En → Prop) (C : Out → Prop)
    (h : ∀ x xs ρ, I (x :: xs) ρ → ∃ ρ1, fg (enc x) ρ = some ρ1 ∧ stepO (I xs) C (fb ρ1)) (hn : ∀ ρ, I [] ρ → C (.nx ρ)) (xs : List β) (ρ : En) (hi : I xs ρ) : C (sLoop fg fb (xs.map enc) ρ) := by
  refine sLoop_rel (fun ds ρ => ∃ xs, ds = xs.map enc ∧ I xs ρ) C ?_ ?_ _ ρ ⟨xs, rfl, hi⟩
  · rintro d ds ρ ⟨xs, e, i⟩
    cases xs with
    | nil => cases e
    | cons x xs =>
      cases e
      obtain ⟨ρ1, h1, h2⟩ := h x xs ρ i
      refine ⟨ρ1, h1, ?_⟩
      generalize fb ρ1 = o at h2 ⊢
      cases o with
      | nx ρ2 => exact ⟨xs, rfl, h2⟩
      | ct ρ2 => exact ⟨xs, rfl, h2⟩
      | bk ρ2 => exact h2
      | rt v ρ2 => exact h2
      | err c fs => exact h2
      | no => exact h2
  · rintro ρ ⟨xs, e, i⟩
    cases xs with
    | nil => exact hn ρ i
    | cons x xs => cases e
/-- a body that only goes on, its states in a type of their own -/
theorem sLoop_fold {β α : Type} {fg : D → En → Option En} {fb : Fs} (enc : β → D) (st : α → En) (f : α → β → α) (J : List β → α → Prop)
    (h : ∀ x xs a, J (x :: xs) a → ∃ ρ1, fg (enc x) (st a) = some ρ1 ∧ fb ρ1 = .nx (st (f a x)) ∧ J xs (f a x)) : ∀ (xs : List β) (a : α), J xs a → sLoop fg fb (xs.map enc) (st a) = .nx (st (xs.foldl f a)) ∧ J [] (xs.foldl f a)
  | [], a, j => ⟨rfl, j⟩
  | x :: xs, a, j => by
    obtain ⟨ρ1, h1, h2, h3⟩ := h x xs a j
    have ih := sLoop_fold enc st f J h xs _ h3
    refine ⟨?_, ih.2⟩
    show sLoop fg fb (enc x :: xs.map enc) (st a) = _
    unfold sLoop
    rw [h1]
    simp only [h2]
    exact ih.1
theorem sLoopB_rel {j : Nat} {fb : Fs} (I : List (List D) → En → Prop) (C : Out → Prop)
    (h : ∀ d ds ρ, I (d :: ds) ρ → stepO (I ds) C (fb (ρ.set j (.ow d)))) (hn : ∀ ρ, I [] ρ → C (.nx ρ)) : ∀ ds ρ, I ds ρ → C (sLoopB j fb ds ρ)
  | [], ρ, i => hn ρ i
  | d :: ds, ρ, i => by
    have h2 := h d ds ρ i
    unfold sLoopB
    generalize e : fb (ρ.set j (.ow d)) = o at h2 ⊢
    cases o with
    | nx ρ2 => exact sLoopB_rel I C h hn ds ρ2 h2
    | ct ρ2 => exact sLoopB_rel I C h hn ds ρ2 h2
    | bk ρ2 => exact h2
    | rt v ρ2 => exact h2
    | err c fs => exact h2
    | no => exact h2
/-- a comprehension whose parts read the state alone -/
theorem lcLoop_fm {β : Type} {fg : D → En → Option En} {ft : Ft} {fe : Fd} {vs : List Nat} (enc : β → D) (p : β → Bool) (g : β → D) (ρ : En) : ∀ (xs : List β) (acc : List D), acc.length + xs.length ≤ 1000000 →
    (∀ x ∈ xs, ∃ ρ1 ρ2, fg (enc x) ρ = some ρ1 ∧ ft ρ1 = .ok (p x, ρ2) ∧ (p x = false → wipeE ρ2 vs = ρ) ∧ (p x = true → ∃ ρ3, fe ρ2 = .ok (g x, ρ3) ∧ wipeE ρ3 vs = ρ)) →
    lcLoop fg ft fe vs (xs.map enc) ρ acc = .ok (acc ++ (xs.filter p).map g, ρ)
  | [], acc, _, _ => by simp [lcLoop]
  | x :: xs, acc, hl, h => by
    obtain ⟨ρ1, ρ2, h1, h2, h3, h4⟩ := h x (by simp)
    show lcLoop fg ft fe vs (enc x :: xs.map enc) ρ acc = _
    unfold lcLoop
    rw [h1]
    simp only [h2]
    cases e : p x with
    | false =>
      simp only
      rw [h3 e, lcLoop_fm enc p g ρ xs acc (by simp at hl; omega) fun y hy => h y (by simp [hy])]
      simp [e]
    | true =>
      obtain ⟨ρ3, h5, h6⟩ := h4 e
      simp only [h5]
      rw [if_pos (szOk_of (by simp at hl; omega)), h6, lcLoop_fm enc p g ρ xs _ (by simp at hl ⊢; omega) fun y hy => h y (by simp [hy])]
      simp [e]
theorem lcLoop_m {β : Type} {fg : D → En → Option En} {fe : Fd} {vs : List Nat} (enc : β → D) (g : β → D) (ρ : En) (xs : List β) (hl : xs.length ≤ 1000000)
    (h : ∀ x ∈ xs, ∃ ρ1 ρ3, fg (enc x) ρ = some ρ1 ∧ fe ρ1 = .ok (g x, ρ3) ∧ wipeE ρ3 vs = ρ) :
    lcLoop fg (fun ρ => .ok (true, ρ)) fe vs (xs.map enc) ρ [] = .ok (xs.map g, ρ) := by
  have := lcLoop_fm (vs := vs) (fg := fg) (ft := fun ρ => .ok (true, ρ)) (fe := fe) enc (fun _ => true) g ρ xs [] (by simpa using hl) fun x hx => by
    obtain ⟨ρ1, ρ3, h1, h2, h3⟩ := h x hx
    exact ⟨ρ1, ρ1, h1, rfl, fun e => (Bool.noConfusion e), fun _ => ⟨ρ3, h2, h3⟩⟩
  rw [this, List.filter_eq_self.mpr fun _ _ => rfl]
  simp
@[simp] theorem dLc_ap (fi : Fa) (fg : D → En → Option En) (ft : Ft) (fe : Fd) (vs : List Nat) (ρ : En) : dLc fi fg ft fe vs ρ = (fi ρ).bind fun p => (lcLoop fg ft fe vs p.1 (wipeE p.2 vs) []).bind fun q => .ok (.fr q.1, backE p.2 q.2 vs) := id rfl
theorem dLc_m {β : Type} {fi : Fa} {fg : D → En → Option En} {fe : Fd} {vs : List Nat} {ρ ρ1 : En} (enc : β → D) (g : β → D) (xs : List β) (hi : fi ρ = .ok (xs.map enc, ρ1)) (hl : xs.length ≤ 1000000)
    (h : ∀ x ∈ xs, ∃ ρa ρb, fg (enc x) (wipeE ρ1 vs) = some ρa ∧ fe ρa = .ok (g x, ρb) ∧ wipeE ρb vs = wipeE ρ1 vs) : dLc fi fg (fun ρ => .ok (true, ρ)) fe vs ρ = .ok (.fr (xs.map g), backE ρ1 (wipeE ρ1 vs) vs) := by
  unfold dLc
  rw [hi, Res.bind_ok]
  simp only
  rw [lcLoop_m enc g _ xs hl h]
  rfl
theorem dLc_fm {β : Type} {fi : Fa} {fg : D → En → Option En} {ft : Ft} {fe : Fd} {vs : List Nat} {ρ ρ1 : En} (enc : β → D) (p : β → Bool) (g : β → D) (xs : List β) (hi : fi ρ = .ok (xs.map enc, ρ1)) (hl : xs.length ≤ 1000000)
    (h : ∀ x ∈ xs, ∃ ρa ρb, fg (enc x) (wipeE ρ1 vs) = some ρa ∧ ft ρa = .ok (p x, ρb) ∧ (p x = false → wipeE ρb vs = wipeE ρ1 vs) ∧ (p x = true → ∃ ρc, fe ρb = .ok (g x, ρc) ∧ wipeE ρc vs = wipeE ρ1 vs)) : dLc fi fg ft fe vs ρ = .ok (.fr ((xs.filter p).map g), backE ρ1 (wipeE ρ1 vs) vs) := by
  unfold dLc
  rw [hi, Res.bind_ok]
  simp only
  rw [lcLoop_fm enc p g _ xs [] (by simpa using hl) h]
  rfl
def bkS : Sl → Sl
  | .sh d => .sh d
  | _ => .no
theorem sSeq_of {a b : Fs} {ρ ρ' : En} (h : a ρ = .nx ρ') : sSeq a b ρ = b ρ' := by rw [sSeq_ap, h]; rfl
def enc2 (p : Nat × D) : D := .tuple [.int (p.1 : Nat), p.2]
theorem enumD_eq (ds : List D) : enumD ds = ((List.range ds.length).map fun i => (i, ds.getD i .none)).map enc2 := by
  simp [enumD, enc2, Function.comp_def]
theorem rngD_nat (n : Nat) : rngD 0 (n : Int) = (List.range n).map fun i : Nat => .int (i : Int) := by
  simp [rngD]
@[simp] theorem sForB_ap (n : Nat) (F : List D → Option (List (List D))) (fa : Fa) (j : Nat) (fb : Fs) (ρ : En) : sForB n F fa j fb ρ = onR (fa ρ) fun ds ρ1 => if ds.length = n then (match F ds with
  | some bss => sLoopB j fb bss ρ1
  | none => .no) else .no := id rfl
@[simp] theorem sSet_ap (i : Nat) (fe fk : Fd) (ρ : En) : sSet i fe fk ρ = onR (fe ρ) fun d ρ1 => if isL ρ1 i = true then onR (fk ρ1) fun k ρ2 => match k with
  | .int k => updOut (updL i (fun ds => (ixN ds.length k).map fun j => ((), ds.set j d)) ρ2)
  | _ => .no
  else .no := by
  unfold sSet
  congr 1
@[simp] theorem dCallB0_ap (n : Nat) (F : List D → List D → Res (Rv × List D)) (i : Nat) (f : Fa) (ρ : En) : dCallB0 n F i f ρ = if isL ρ i = true then (f ρ).bind fun p => if p.1.length + 1 = n then (match p.2[i]? with
  | some s => (match lstOf s with
    | some bs => (noErr (F bs p.1)).bind fun q => .ok (q.1, p.2.set i (putSl s q.2))
    | none => .no)
  | none => .no) else .no else .no := id rfl
end DL

set_option Elab.async false
set_option linter.all false
set_option maxRecDepth 100000
set_option maxHeartbeats 4000000
/-! which data may be compared; equality of encoded data -/
namespace DL
open PySem PySem.Spec PyProof.Rows L2
variable [Wr]
def okN (n : Nat) (d : D) : Bool := plainD d && PyData.canLay0 d && decide (d.depth ≤ n)
theorem okD_of {n : Nat} {d : D} (h : okN n d = true) (hn : n ≤ 64) : okD d = true := by
  unfold okN at h
  rw [Bool.and_eq_true, Bool.and_eq_true] at h
  have := of_decide_eq_true h.2
  unfold okD SeqAt.shaped
  rw [h.1.1, h.1.2, decide_eq_true (show d.depth ≤ 64 by omega)]
  rfl
theorem okN_mono {n m : Nat} {d : D} (h : okN n d = true) (hn : n ≤ m) : okN m d = true := by
  unfold okN at h ⊢
  rw [Bool.and_eq_true, Bool.and_eq_true] at h
  have := of_decide_eq_true h.2
  rw [h.1.1, h.1.2, decide_eq_true (show d.depth ≤ m by omega)]
  rfl
theorem okN_int (n : Nat) (i : Int) : okN n (.int i) = true := by simp [okN, plainD, PyData.canLay0, PyData.depth]
theorem okN_bool (n : Nat) (i : Bool) : okN n (.bool i) = true := by simp [okN, plainD, PyData.canLay0, PyData.depth]
theorem okN_none (n : Nat) : okN n .none = true := by simp [okN, plainD, PyData.canLay0, PyData.depth]
theorem okN_str (n : Nat) {x : Str} (h : PyData.strOk x = true) : okN n (.str x) = true := by simp [okN, plainD, PyData.canLay0, PyData.depth, h]
theorem okL_aux {n : Nat} : ∀ {xs : List D}, (∀ x ∈ xs, okN n x = true) → plainL xs = true ∧ PyData.canLayAll0 xs = true ∧ PyData.depthAll xs ≤ n
  | [], _ => ⟨rfl, rfl, Nat.zero_le n⟩
  | x :: xs, h => by
    have h1 := h x (by simp)
    obtain ⟨a, b, c⟩ := okL_aux (xs := xs) fun y hy => h y (by simp [hy])
    unfold okN at h1
    rw [Bool.and_eq_true, Bool.and_eq_true] at h1
    have := of_decide_eq_true h1.2
    exact ⟨by simp [plainL, h1.1.1, a], by simp [PyData.canLayAll0, h1.1.2, b], by simp only [PyData.depthAll]; omega⟩
theorem okN_list {n : Nat} {xs : List D} (h : ∀ x ∈ xs, okN n x = true) : okN (n + 1) (.list xs) = true := by
  obtain ⟨a, b, c⟩ := okL_aux h
  simp [okN, plainD, PyData.canLay0, PyData.depth, a, b, c]
theorem okN_tuple {n : Nat} {xs : List D} (h : ∀ x ∈ xs, okN n x = true) : okN (n + 1) (.tuple xs) = true := by
  obtain ⟨a, b, c⟩ := okL_aux h
  simp [okN, plainD, PyData.canLay0, PyData.depth, a, b, c]
theorem okN_mapL {α : Type} {n : Nat} {e : α → D} (h : ∀ a, okN n (e a) = true) (xs : List α) : okN (n + 1) (.list (xs.map e)) = true :=
  okN_list fun x hx => by obtain ⟨a, _, rfl⟩ := List.mem_map.mp hx; exact h a
theorem okN_mapT {α : Type} {n : Nat} {e : α → D} (h : ∀ a, okN n (e a) = true) (xs : List α) : okN (n + 1) (.tuple (xs.map e)) = true :=
  okN_tuple fun x hx => by obtain ⟨a, _, rfl⟩ := List.mem_map.mp hx; exact h a
/-- data of one kind, equal only to themselves -/
def EqE {α : Type} [DecidableEq α] (e : α → D) : Prop := ∀ a b, PyData.eqv (e a) (e b) = decide (a = b)
theorem eqE_int : EqE PyData.int := fun a b => by simp [PyData.eqv, Bool.beq_eq_decide_eq]
theorem eqE_all {α : Type} [DecidableEq α] {e : α → D} (h : EqE e) : ∀ xs ys : List α, PyData.eqvAll (xs.map e) (ys.map e) = decide (xs = ys)
  | [], [] => rfl
  | [], y :: ys => rfl
  | x :: xs, [] => rfl
  | x :: xs, y :: ys => by
    simp only [List.map_cons, PyData.eqvAll, h x y, eqE_all h xs ys, List.cons.injEq, Bool.decide_and]
theorem eqE_list {α : Type} [DecidableEq α] {e : α → D} (h : EqE e) : EqE fun xs : List α => PyData.list (xs.map e) := fun a b => by
  simp only [PyData.eqv]
  exact eqE_all h a b
theorem eqE_tuple {α : Type} [DecidableEq α] {e : α → D} (h : EqE e) : EqE fun xs : List α => PyData.tuple (xs.map e) := fun a b => by
  simp only [PyData.eqv]
  exact eqE_all h a b
theorem dEq_of {d e : D} (h1 : okD d = true) (h2 : okD e = true) : dEq d e = some (.sh (.bool (PyData.eqv d e))) := by
  unfold dEq
  rw [h1, h2]
  rfl
theorem dNe_of {d e : D} (h1 : okD d = true) (h2 : okD e = true) : dNe d e = some (.sh (.bool (!PyData.eqv d e))) := by
  unfold dNe
  rw [h1, h2]
  rfl
theorem okD_ints (ns : List Int) : okD (.list (ns.map .int)) = true := okD_of (okN_mapL (n := 0) (okN_int 0) ns) (by decide)
theorem dEq_ints (a b : List Int) : dEq (.list (a.map .int)) (.list (b.map .int)) = some (.sh (.bool (decide (a = b)))) := by
  rw [dEq_of (okD_ints a) (okD_ints b)]
  exact congrArg (fun x => some (Rv.sh (.bool x))) (eqE_list eqE_int a b)
theorem dNe_ints (a b : List Int) : dNe (.list (a.map .int)) (.list (b.map .int)) = some (.sh (.bool (!decide (a = b)))) := by
  rw [dNe_of (okD_ints a) (okD_ints b)]
  exact congrArg (fun x => some (Rv.sh (.bool (!x)))) (eqE_list eqE_int a b)
end DL

set_option Elab.async false
set_option linter.all false
set_option maxRecDepth 100000
set_option maxHeartbeats 4000000
namespace DL
open PySem PySem.Spec PyProof.Rows L2
section
variable [Wr] {P : Program} {w : World} {mg : Str → Option Value} {base : Heap}
def topS (i : Nat) : Stmt := PySem.Challenge.pw_keyswithin_k10_whole_counts_at_any_size.main.body.getD i (.Pass ⟨0, 0, 0, 0⟩)
/-! ### is_within -/
abbrev s_is_within : Stmt := topS 4
theorem sc_is_within : FnScope ["thing", "low", "high"] ["thing", "low", "high"] (defScope s_is_within) := ⟨rfl, rfl, rfl, by decide +kernel, rfl, by decide +kernel, by decide +kernel⟩
def f_is_within : Fs := (sRet (dAndV (dSh (dIsi "int" (dSh (dVar 0)))) (dAndV (dSh (dNotV (dSh (dIsi "bool" (dSh (dVar 0)))))) (dChain dLe dLe (dSh (dVar 1)) (dSh (dVar 0)) (dSh (dVar 2))))))
def F_is_within : List D → Res Rv := runP 3 f_is_within
theorem ok_is_within {f : Addr} {fd : FuncData} (F : FnP Wr.K "is_within" s_is_within f fd) (hb : Bn mg) : FnOk P w Wr.K mg base CX0 1 f fd ["thing", "low", "high"] (spP 3 EW0 F_is_within) :=
  fnP (EW := EW0) (n := 3) (m := 3) (fs := f_is_within) F sc_is_within rfl rfl fun cdv A outer s H E hr => ⟨_, PSs.nox (pss_one (ps_ret (pe_and (pe_callB call_isi (by rfl) hb.isinstance b_isinstance (pa_cons (pv 0) (pa_cons (pe_bltn (v := .ty "int") (by rfl) hb.int b_int rfl) pa_nil))) (pe_and (pe_not (pe_callB call_isi (by rfl) hb.isinstance b_isinstance (pa_cons (pv 0) (pa_cons (pe_bltn (v := .ty "bool") (by rfl) hb.bool b_bool rfl) pa_nil)))) (pe_one (pe_chain op_leD op_leD (pv 1) (pv 0) (pv 2))))))),
    (rs_ret (re_and ((re_isi "int" ((re_var 0)).sh)).sh (re_and ((re_not ((re_isi "bool" ((re_var 0)).sh)).sh)).sh (re_chain g_le g_le ((re_var 1)).sh ((re_var 0)).sh ((re_var 2)).sh))))⟩
/-! ### need_boxes -/
abbrev s_need_boxes : Stmt := topS 6
theorem sc_need_boxes : FnScope ["boxes", "least"] ["boxes", "least"] (defScope s_need_boxes) := ⟨rfl, rfl, rfl, by decide +kernel, rfl, by decide +kernel, by decide +kernel⟩
def f_need_boxes : Fs := (sIf (dNot (dB (dSh (dCall0 3 F_is_within (dCons (dSh (dVar 0)) (dCons (dSh (dVar 1)) (dCons (dSh (dC (.int 40))) dNil))))))) (fun _ => .no) sPass)
def F_need_boxes : List D → Res Rv := runP 2 f_need_boxes
theorem ok_need_boxes {f : Addr} {fd : FuncData} (F : FnP Wr.K "need_boxes" s_need_boxes f fd) (hb : Bn mg) (c_is_within : Cal0 P w Wr.K mg base 1 "is_within" (spP 3 EW0 F_is_within)) : FnOk P w Wr.K mg base CX0 2 f fd ["boxes", "least"] (spP 2 EW0 F_need_boxes) :=
  fnP (EW := EW0) (n := 2) (m := 2) (fs := f_need_boxes) F sc_need_boxes rfl rfl fun cdv A outer s H E hr => ⟨_, PSs.nox (pss_one (ps_if (pt_not (pt_val (pe_c0 c_is_within hr (by decide) (by rfl) (pa_cons (pv 0) (pa_cons (pv 1) (pa_cons pe_int pa_nil)))))) (pss_one ps_never) pss_nil)),
    (rs_if (rt_not (rt_B ((re_call0 (ra_cons ((re_var 0)).sh (ra_cons ((re_var 1)).sh (ra_cons ((re_int 40)).sh ra_nil))))).sh)) rs_never rs_pass)⟩
/-! ### need_whole -/
abbrev s_need_whole : Stmt := topS 7
theorem sc_need_whole : FnScope ["many"] ["many"] (defScope s_need_whole) := ⟨rfl, rfl, rfl, by decide +kernel, rfl, by decide +kernel, by decide +kernel⟩
def f_need_whole : Fs := (sIf (dOr (dNot (dB (dSh (dIsi "int" (dSh (dVar 0)))))) (dB (dSh (dIsi "bool" (dSh (dVar 0)))))) (fun _ => .no) sPass)
def F_need_whole : List D → Res Rv := runP 1 f_need_whole
theorem ok_need_whole {f : Addr} {fd : FuncData} (F : FnP Wr.K "need_whole" s_need_whole f fd) (hb : Bn mg) : FnOk P w Wr.K mg base CX0 1 f fd ["many"] (spP 1 EW0 F_need_whole) :=
  fnP (EW := EW0) (n := 1) (m := 1) (fs := f_need_whole) F sc_need_whole rfl rfl fun cdv A outer s H E hr => ⟨_, PSs.nox (pss_one (ps_if (PW.pt (pw_or (pt_not (pt_val (pe_callB call_isi (by rfl) hb.isinstance b_isinstance (pa_cons (pv 0) (pa_cons (pe_bltn (v := .ty "int") (by rfl) hb.int b_int rfl) pa_nil))))) (pw_or1 (pt_val (pe_callB call_isi (by rfl) hb.isinstance b_isinstance (pa_cons (pv 0) (pa_cons (pe_bltn (v := .ty "bool") (by rfl) hb.bool b_bool rfl) pa_nil))))))) (pss_one ps_never) pss_nil)),
    (rs_if (rt_or (rt_not (rt_B ((re_isi "int" ((re_var 0)).sh)).sh)) (rt_B ((re_isi "bool" ((re_var 0)).sh)).sh)) rs_never rs_pass)⟩
/-! ### with_rounds -/
abbrev s_with_rounds : Stmt := topS 8
theorem sc_with_rounds : FnScope ["boxes", "many", "row", "size", "later", "count", "ways"] ["boxes", "many"] (defScope s_with_rounds) := ⟨rfl, rfl, rfl, by decide +kernel, rfl, by decide +kernel, by decide +kernel⟩
def b_with_rounds_2 : Fs := (sSeq (sAugI 4 (dSh (dVar 5)) (dSh (dOp dMul (dSh (dVar 6)) (dSh (dVar 3)))))
  (sAugI 4 (dSh (dOp dAdd (dSh (dVar 5)) (dSh (dC (.int 1))))) (dSh (dVar 6))))
def b_with_rounds_1 : Fs := (sSeq (sAsg 4 (dOp dMul (dSh (dLst (dCons (dSh (dC (.int 0))) dNil))) (dSh (dOp dAdd (dSh (dCall dLen (dCons (dSh (dVar 2)) dNil))) (dSh (dC (.int 1)))))))
  (sSeq (sFor (dEnum (dCons (dSh (dVar 2)) dNil)) (gT 2 (gsCons (gN 5) (gsCons (gN 6) gsNil))) b_with_rounds_2)
  (sAsg 2 (dMove 4))))
def f_with_rounds : Fs := (sSeq (sDrop (dCall0 2 F_need_boxes (dCons (dSh (dVar 0)) (dCons (dSh (dC (.int 0))) dNil))))
  (sSeq (sDrop (dCall0 1 F_need_whole (dCons (dSh (dVar 1)) dNil)))
  (sSeq (sAsg 2 (dLst (dCons (dSh (dC (.int 1))) dNil)))
  (sSeq (sFor (dRng1 (dCons (dSh (dVar 0)) dNil)) (gN 3) b_with_rounds_1)
  (sRet (dIf (dB (dSh (dChain dLe dLe (dSh (dC (.int 0))) (dSh (dVar 1)) (dSh (dVar 0))))) (dOp dIx (dSh (dVar 2)) (dSh (dVar 1))) (dC (.int 0))))))))
def F_with_rounds : List D → Res Rv := runP 7 f_with_rounds
theorem ok_with_rounds {f : Addr} {fd : FuncData} (F : FnP Wr.K "with_rounds" s_with_rounds f fd) (hb : Bn mg) (c_need_whole : Cal0 P w Wr.K mg base 1 "need_whole" (spP 1 EW0 F_need_whole)) (c_need_boxes : Cal0 P w Wr.K mg base 2 "need_boxes" (spP 2 EW0 F_need_boxes)) : FnOk P w Wr.K mg base CX0 3 f fd ["boxes", "many"] (spP 2 EW0 F_with_rounds) :=
  fnP (EW := EW0) (n := 2) (m := 7) (fs := f_with_rounds) F sc_with_rounds rfl rfl fun cdv A outer s H E hr => ⟨_, PSs.nox (pss_cons (ps_expr (pe_c0 c_need_boxes hr (by decide) (by rfl) (pa_cons (pv 0) (pa_cons pe_int pa_nil))))
      (pss_cons (ps_expr (pe_c0 c_need_whole hr (by decide) (by rfl) (pa_cons (pv 1) pa_nil)))
      (pss_cons (ps_set (i := 2) sc_with_rounds.nd rfl (by first | exact .inl rfl | exact .inr rfl) (pe_lst (pa_cons pe_int pa_nil)))
      (pss_cons (ps_for PassesOwn.never rfl (pi_range1 (by rfl) hb.range (pa_cons (pv 0) pa_nil)) (pg_name (i := 3) sc_with_rounds.nd rfl (by first | exact .inl rfl | exact .inr rfl)) (pss_cons (ps_set (i := 4) sc_with_rounds.nd rfl (by first | exact .inl rfl | exact .inr rfl) (pe_op op_mulD (pe_lst (pa_cons pe_int pa_nil)) (pe_op op_addD (pe_callB c_len (by rfl) hb.len b_len (pa_cons (pv 2) pa_nil)) pe_int)))
      (pss_cons (ps_for PassesOwn.never rfl (pi_enumA (by rfl) hb.enumerate (pa_cons (pv 2) pa_nil)) (pg_tup rfl (pgs_cons (pg_name (i := 5) sc_with_rounds.nd rfl (by first | exact .inl rfl | exact .inr rfl)) (pgs_cons (pg_name (i := 6) sc_with_rounds.nd rfl (by first | exact .inl rfl | exact .inr rfl)) pgs_nil))) (pss_cons (ps_augS (pv 4) (pv 5) pget_list (pe_op op_mulD (pv 6) (pv 3)) ip_add set_list)
      (pss_one (ps_augS (pv 4) (pe_op op_addD (pv 5) pe_int) pget_list (pv 6) ip_add set_list))))
      (pss_one (ps_set (i := 2) sc_with_rounds.nd rfl (by first | exact .inl rfl | exact .inr rfl) (pv 4))))))
      (pss_one (ps_ret (pe_ifExp (pt_chain op_leD op_leD pe_int (pv 1) (pv 0)) (pe_ix ix_seq (pv 2) (pv 1) (fun _ _ => rfl)) pe_int))))))),
    (rs_seq (rs_drop (re_call0 (ra_cons ((re_var 0)).sh (ra_cons ((re_int 0)).sh ra_nil))))
      (rs_seq (rs_drop (re_call0 (ra_cons ((re_var 1)).sh ra_nil)))
      (rs_seq (rs_asg 2 (re_lst (ra_cons ((re_int 1)).sh ra_nil)))
      (rs_seq (rs_for (ri_rng1 (ra_cons ((re_var 0)).sh ra_nil)) (rg_name 3) (rs_seq (rs_asg 4 (re_op g_mul ((re_lst (ra_cons ((re_int 0)).sh ra_nil))).sh ((re_op g_add ((re_call g_len (ra_cons ((re_var 2)).sh ra_nil))).sh ((re_int 1)).sh)).sh))
      (rs_seq (rs_for (ri_enum (ra_cons ((re_var 2)).sh ra_nil)) (rg_tup (rgs_cons (rg_name 5) (rgs_cons (rg_name 6) rgs_nil))) (rs_seq (rs_augI 4 ((re_var 5)).sh ((re_op g_mul ((re_var 6)).sh ((re_var 3)).sh)).sh)
      (rs_augI 4 ((re_op g_add ((re_var 5)).sh ((re_int 1)).sh)).sh ((re_var 6)).sh)))
      (rs_asg 2 (re_move 4)))))
      (rs_ret (re_if (rt_test ((re_chain g_le g_le ((re_int 0)).sh ((re_var 1)).sh ((re_var 0)).sh)).sh) (re_op k_ix.g ((re_var 2)).sh ((re_var 1)).sh) (re_int 0)))))))⟩
/-! ### product -/
abbrev s_product : Stmt := topS 9
theorem sc_product : FnScope ["many", "found", "one"] ["many"] (defScope s_product) := ⟨rfl, rfl, rfl, by decide +kernel, rfl, by decide +kernel, by decide +kernel⟩
def b_product_1 : Fs := (sAsg 1 (dOp dMul (dSh (dVar 1)) (dSh (dVar 2))))
def f_product : Fs := (sSeq (sAsg 1 (dC (.int 1)))
  (sSeq (sFor (dRng2 (dCons (dSh (dC (.int 2))) (dCons (dSh (dOp dAdd (dSh (dVar 0)) (dSh (dC (.int 1))))) dNil))) (gN 2) b_product_1)
  (sRet (dVar 1))))
def F_product : List D → Res Rv := runP 3 f_product
theorem ok_product {f : Addr} {fd : FuncData} (F : FnP Wr.K "product" s_product f fd) (hb : Bn mg) : FnOk P w Wr.K mg base CX0 1 f fd ["many"] (spP 1 EW0 F_product) :=
  fnP (EW := EW0) (n := 1) (m := 3) (fs := f_product) F sc_product rfl rfl fun cdv A outer s H E hr => ⟨_, PSs.nox (pss_cons (ps_set (i := 1) sc_product.nd rfl (by first | exact .inl rfl | exact .inr rfl) pe_int)
      (pss_cons (ps_for PassesOwn.never rfl (pi_range2 (by rfl) hb.range (pa_cons pe_int (pa_cons (pe_op op_addD (pv 0) pe_int) pa_nil))) (pg_name (i := 2) sc_product.nd rfl (by first | exact .inl rfl | exact .inr rfl)) (pss_one (ps_set (i := 1) sc_product.nd rfl (by first | exact .inl rfl | exact .inr rfl) (pe_op op_mulD (pv 1) (pv 2)))))
      (pss_one (ps_ret (pv 1))))),
    (rs_seq (rs_asg 1 (re_int 1))
      (rs_seq (rs_for (ri_rng2 (ra_cons ((re_int 2)).sh (ra_cons ((re_op g_add ((re_var 0)).sh ((re_int 1)).sh)).sh ra_nil))) (rg_name 2) (rs_asg 1 (re_op g_mul ((re_var 1)).sh ((re_var 2)).sh)))
      (rs_ret (re_var 1))))⟩
/-! ### with_size -/
abbrev s_with_size : Stmt := topS 10
theorem sc_with_size : FnScope ["boxes", "many"] ["boxes", "many"] (defScope s_with_size) := ⟨rfl, rfl, rfl, by decide +kernel, rfl, by decide +kernel, by decide +kernel⟩
def f_with_size : Fs := (sSeq (sDrop (dCall0 2 F_need_boxes (dCons (dSh (dVar 0)) (dCons (dSh (dC (.int 1))) dNil))))
  (sSeq (sDrop (dCall0 1 F_need_whole (dCons (dSh (dVar 1)) dNil)))
  (sRet (dIf (dB (dSh (dChain dLe dLe (dSh (dC (.int 1))) (dSh (dVar 1)) (dSh (dVar 0))))) (dCall0 1 F_product (dCons (dSh (dOp dSub (dSh (dVar 0)) (dSh (dC (.int 1))))) dNil)) (dC (.int 0))))))
def F_with_size : List D → Res Rv := runP 2 f_with_size
theorem ok_with_size {f : Addr} {fd : FuncData} (F : FnP Wr.K "with_size" s_with_size f fd) (hb : Bn mg) (c_product : Cal0 P w Wr.K mg base 1 "product" (spP 1 EW0 F_product)) (c_need_whole : Cal0 P w Wr.K mg base 1 "need_whole" (spP 1 EW0 F_need_whole)) (c_need_boxes : Cal0 P w Wr.K mg base 2 "need_boxes" (spP 2 EW0 F_need_boxes)) : FnOk P w Wr.K mg base CX0 3 f fd ["boxes", "many"] (spP 2 EW0 F_with_size) :=
  fnP (EW := EW0) (n := 2) (m := 2) (fs := f_with_size) F sc_with_size rfl rfl fun cdv A outer s H E hr => ⟨_, PSs.nox (pss_cons (ps_expr (pe_c0 c_need_boxes hr (by decide) (by rfl) (pa_cons (pv 0) (pa_cons pe_int pa_nil))))
      (pss_cons (ps_expr (pe_c0 c_need_whole hr (by decide) (by rfl) (pa_cons (pv 1) pa_nil)))
      (pss_one (ps_ret (pe_ifExp (pt_chain op_leD op_leD pe_int (pv 1) (pv 0)) (pe_c0 c_product hr (by decide) (by rfl) (pa_cons (pe_op op_sub (pv 0) pe_int) pa_nil)) pe_int))))),
    (rs_seq (rs_drop (re_call0 (ra_cons ((re_var 0)).sh (ra_cons ((re_int 1)).sh ra_nil))))
      (rs_seq (rs_drop (re_call0 (ra_cons ((re_var 1)).sh ra_nil)))
      (rs_ret (re_if (rt_test ((re_chain g_le g_le ((re_int 1)).sh ((re_var 1)).sh ((re_var 0)).sh)).sh) (re_call0 (ra_cons ((re_op g_sub ((re_var 0)).sh ((re_int 1)).sh)).sh ra_nil)) (re_int 0)))))⟩
/-! ### together -/
abbrev s_together : Stmt := topS 11
theorem sc_together : FnScope ["boxes", "many"] ["boxes", "many"] (defScope s_together) := ⟨rfl, rfl, rfl, by decide +kernel, rfl, by decide +kernel, by decide +kernel⟩
def f_together : Fs := (sSeq (sDrop (dCall0 2 F_need_boxes (dCons (dSh (dVar 0)) (dCons (dSh (dC (.int 1))) dNil))))
  (sSeq (sIf (dNot (dB (dSh (dCall0 3 F_is_within (dCons (dSh (dVar 1)) (dCons (dSh (dC (.int 1))) (dCons (dSh (dVar 0)) dNil))))))) (fun _ => .no) sPass)
  (sRet (dOp dDiv (dSh (dCall0 1 F_product (dCons (dSh (dVar 0)) dNil))) (dSh (dVar 1))))))
def F_together : List D → Res Rv := runP 2 f_together
theorem ok_together {f : Addr} {fd : FuncData} (F : FnP Wr.K "together" s_together f fd) (hb : Bn mg) (c_product : Cal0 P w Wr.K mg base 1 "product" (spP 1 EW0 F_product)) (c_is_within : Cal0 P w Wr.K mg base 1 "is_within" (spP 3 EW0 F_is_within)) (c_need_boxes : Cal0 P w Wr.K mg base 2 "need_boxes" (spP 2 EW0 F_need_boxes)) : FnOk P w Wr.K mg base CX0 3 f fd ["boxes", "many"] (spP 2 EW0 F_together) :=
  fnP (EW := EW0) (n := 2) (m := 2) (fs := f_together) F sc_together rfl rfl fun cdv A outer s H E hr => ⟨_, PSs.nox (pss_cons (ps_expr (pe_c0 c_need_boxes hr (by decide) (by rfl) (pa_cons (pv 0) (pa_cons pe_int pa_nil))))
      (pss_cons (ps_if (pt_not (pt_val (pe_c0 c_is_within hr (by decide) (by rfl) (pa_cons (pv 1) (pa_cons pe_int (pa_cons (pv 0) pa_nil)))))) (pss_one ps_never) pss_nil)
      (pss_one (ps_ret (pe_op op_fdiv (pe_c0 c_product hr (by decide) (by rfl) (pa_cons (pv 0) pa_nil)) (pv 1)))))),
    (rs_seq (rs_drop (re_call0 (ra_cons ((re_var 0)).sh (ra_cons ((re_int 1)).sh ra_nil))))
      (rs_seq (rs_if (rt_not (rt_B ((re_call0 (ra_cons ((re_var 1)).sh (ra_cons ((re_int 1)).sh (ra_cons ((re_var 0)).sh ra_nil))))).sh)) rs_never rs_pass)
      (rs_ret (re_op g_div ((re_call0 (ra_cons ((re_var 0)).sh ra_nil))).sh ((re_var 1)).sh))))⟩
/-! ### _law_cell_at -/
abbrev s_Lcell_at : Stmt := topS 13
theorem sc_Lcell_at : FnScope ["script", "k"] ["script", "k"] (defScope s_Lcell_at) := ⟨rfl, rfl, rfl, by decide +kernel, rfl, by decide +kernel, by decide +kernel⟩
def f_Lcell_at : Fs := (sSeq (sIf (dB (dSh (dOp dLt (dSh (dVar 1)) (dSh (dCall dLen (dCons (dSh (dVar 0)) dNil)))))) (sRet (dOp dIx (dSh (dVar 0)) (dSh (dVar 1)))) sPass)
  (sRet (dC (.int 0))))
def F_Lcell_at : List D → Res Rv := runP 2 f_Lcell_at
theorem ok_Lcell_at {f : Addr} {fd : FuncData} (F : FnP Wr.K "_law_cell_at" s_Lcell_at f fd) (hb : Bn mg) : FnOk P w Wr.K mg base CX0 1 f fd ["script", "k"] (spP 2 EW0 F_Lcell_at) :=
  fnP (EW := EW0) (n := 2) (m := 2) (fs := f_Lcell_at) F sc_Lcell_at rfl rfl fun cdv A outer s H E hr => ⟨_, PSs.nox (pss_cons (ps_if (pt_cmpR op_ltD (pv 1) (pe_callB c_len (by rfl) hb.len b_len (pa_cons (pv 0) pa_nil)) (nomark _)) (pss_one (ps_ret (pe_ix ix_seq (pv 0) (pv 1) (fun _ _ => rfl)))) pss_nil)
      (pss_one (ps_ret pe_int))),
    (rs_seq (rs_if (rt_test ((re_op g_lt ((re_var 1)).sh ((re_call g_len (ra_cons ((re_var 0)).sh ra_nil))).sh)).sh) (rs_ret (re_op k_ix.g ((re_var 0)).sh ((re_var 1)).sh)) rs_pass)
      (rs_ret (re_int 0)))⟩
/-! ### _law_draws -/
abbrev s_Ldraws : Stmt := topS 14
theorem sc_Ldraws : FnScope ["cell", "many", "size", "found", "rest", "stirred", "k"] ["cell", "many", "size"] (defScope s_Ldraws) := ⟨rfl, rfl, rfl, by decide +kernel, rfl, by decide +kernel, by decide +kernel⟩
def b_Ldraws_1 : Fs := (sSeq (sAsg 5 (dOp dMod (dSh (dOp dAdd (dSh (dOp dAdd (dSh (dOp dAdd (dSh (dOp dMul (dSh (dVar 5)) (dSh (dVar 5)))) (dSh (dOp dMul (dSh (dC (.int 48271))) (dSh (dVar 5)))))) (dSh (dVar 6)))) (dSh (dC (.int 1))))) (dSh (dC (.int 2305843009213693951)))))
  (sIf (dAnd (dB (dSh (dOp dGt (dSh (dVar 6)) (dSh (dC (.int 2)))))) (dB (dSh (dOp dGt (dSh (dVar 4)) (dSh (dC (.int 0))))))) (sSeq (sApp 3 (dSh (dOp dMod (dSh (dVar 4)) (dSh (dVar 2)))))
  (sAsg 4 (dOp dDiv (dSh (dVar 4)) (dSh (dVar 2))))) (sIf (dB (dSh (dOp dGt (dSh (dVar 6)) (dSh (dC (.int 2)))))) (sApp 3 (dSh (dOp dMod (dSh (dOp dDiv (dSh (dVar 5)) (dSh (dC (.int 4096))))) (dSh (dVar 2))))) sPass)))
def f_Ldraws : Fs := (sSeq (sAsg 3 (dLst dNil))
  (sSeq (sAsg 4 (dOp dMul (dSh (dVar 0)) (dSh (dCall dIntF (dCons (dSh (dOp dGe (dSh (dVar 0)) (dSh (dOp dPow (dSh (dC (.int 10))) (dSh (dC (.int 18))))))) dNil)))))
  (sSeq (sAsg 5 (dOp dMod (dSh (dVar 0)) (dSh (dC (.int 2305843009213693951)))))
  (sSeq (sFor (dRng1 (dCons (dSh (dOp dAdd (dSh (dVar 1)) (dSh (dC (.int 3))))) dNil)) (gN 6) b_Ldraws_1)
  (sRet (dMove 3))))))
def F_Ldraws : List D → Res Rv := runP 7 f_Ldraws
theorem ok_Ldraws {f : Addr} {fd : FuncData} (F : FnP Wr.K "_law_draws" s_Ldraws f fd) (hb : Bn mg) : FnOk P w Wr.K mg base CX0 1 f fd ["cell", "many", "size"] (spP 3 EW0 F_Ldraws) :=
  fnP (EW := EW0) (n := 3) (m := 7) (fs := f_Ldraws) F sc_Ldraws rfl rfl fun cdv A outer s H E hr => ⟨_, PSs.nox (pss_cons (ps_set (i := 3) sc_Ldraws.nd rfl (by first | exact .inl rfl | exact .inr rfl) (pe_lst pa_nil))
      (pss_cons (ps_set (i := 4) sc_Ldraws.nd rfl (by first | exact .inl rfl | exact .inr rfl) (pe_op op_mulD (pv 0) (pe_callTy c_int (by rfl) hb.int b_int (pa_cons (pe_cmpR op_geD (pv 0) (pe_op op_pow pe_int pe_int) (nomark _)) pa_nil))))
      (pss_cons (ps_set (i := 5) sc_Ldraws.nd rfl (by first | exact .inl rfl | exact .inr rfl) (pe_op op_mod (pv 0) pe_int))
      (pss_cons (ps_for PassesOwn.never rfl (pi_range1 (by rfl) hb.range (pa_cons (pe_op op_addD (pv 1) pe_int) pa_nil)) (pg_name (i := 6) sc_Ldraws.nd rfl (by first | exact .inl rfl | exact .inr rfl)) (pss_cons (ps_set (i := 5) sc_Ldraws.nd rfl (by first | exact .inl rfl | exact .inr rfl) (pe_op op_mod (pe_op op_addD (pe_op op_addD (pe_op op_addD (pe_op op_mulD (pv 5) (pv 5)) (pe_op op_mulD pe_int (pv 5))) (pv 6)) pe_int) pe_int))
      (pss_one (ps_if (PW.pt (pw_and (pt_cmpR op_gtD (pv 6) pe_int (nomark _)) (pw_and1 (pt_cmpR op_gtD (pv 4) pe_int (nomark _))))) (pss_cons (ps_expr (pe_bm PySem.F.plainAttrs_list PySem.F.slot_list_append PySem.F.type_list_append mt_append (pv 3) (pa_cons (pe_op op_mod (pv 4) (pv 2)) pa_nil)))
      (pss_one (ps_set (i := 4) sc_Ldraws.nd rfl (by first | exact .inl rfl | exact .inr rfl) (pe_op op_fdiv (pv 4) (pv 2))))) (pss_one (ps_if (pt_cmpR op_gtD (pv 6) pe_int (nomark _)) (pss_one (ps_expr (pe_bm PySem.F.plainAttrs_list PySem.F.slot_list_append PySem.F.type_list_append mt_append (pv 3) (pa_cons (pe_op op_mod (pe_op op_fdiv (pv 5) pe_int) (pv 2)) pa_nil)))) pss_nil))))))
      (pss_one (ps_ret (pv 3))))))),
    (rs_seq (rs_asg 3 (re_lst ra_nil))
      (rs_seq (rs_asg 4 (re_op g_mul ((re_var 0)).sh ((re_call g_int (ra_cons ((re_op g_ge ((re_var 0)).sh ((re_op g_pow ((re_int 10)).sh ((re_int 18)).sh)).sh)).sh ra_nil))).sh))
      (rs_seq (rs_asg 5 (re_op g_mod ((re_var 0)).sh ((re_int 2305843009213693951)).sh))
      (rs_seq (rs_for (ri_rng1 (ra_cons ((re_op g_add ((re_var 1)).sh ((re_int 3)).sh)).sh ra_nil)) (rg_name 6) (rs_seq (rs_asg 5 (re_op g_mod ((re_op g_add ((re_op g_add ((re_op g_add ((re_op g_mul ((re_var 5)).sh ((re_var 5)).sh)).sh ((re_op g_mul ((re_int 48271)).sh ((re_var 5)).sh)).sh)).sh ((re_var 6)).sh)).sh ((re_int 1)).sh)).sh ((re_int 2305843009213693951)).sh))
      (rs_if (rt_and (rt_test ((re_op g_gt ((re_var 6)).sh ((re_int 2)).sh)).sh) (rt_test ((re_op g_gt ((re_var 4)).sh ((re_int 0)).sh)).sh)) (rs_seq (rs_app 3 ((re_op g_mod ((re_var 4)).sh ((re_var 2)).sh)).sh)
      (rs_asg 4 (re_op g_div ((re_var 4)).sh ((re_var 2)).sh))) (rs_if (rt_test ((re_op g_gt ((re_var 6)).sh ((re_int 2)).sh)).sh) (rs_app 3 ((re_op g_mod ((re_op g_div ((re_var 5)).sh ((re_int 4096)).sh)).sh ((re_var 2)).sh)).sh) rs_pass))))
      (rs_ret (re_move 3))))))⟩
/-! ### _law_bag -/
abbrev s_Lbag : Stmt := topS 15
theorem sc_Lbag : FnScope ["script", "k"] ["script", "k"] (defScope s_Lbag) := ⟨rfl, rfl, rfl, by decide +kernel, rfl, by decide +kernel, by decide +kernel⟩
def f_Lbag : Fs := (sRet (dLst (dCons (dSh (dCall0 3 F_Ldraws (dCons (dSh (dCall0 2 F_Lcell_at (dCons (dSh (dVar 0)) (dCons (dSh (dVar 1)) dNil)))) (dCons (dSh (dC (.int 400))) (dCons (dSh (dC (.int 1000))) dNil))))) (dCons (dSh (dC (.int 0))) dNil))))
def F_Lbag : List D → Res Rv := runP 2 f_Lbag
theorem ok_Lbag {f : Addr} {fd : FuncData} (F : FnP Wr.K "_law_bag" s_Lbag f fd) (hb : Bn mg) (c_Ldraws : Cal0 P w Wr.K mg base 1 "_law_draws" (spP 3 EW0 F_Ldraws)) (c_Lcell_at : Cal0 P w Wr.K mg base 1 "_law_cell_at" (spP 2 EW0 F_Lcell_at)) : FnOk P w Wr.K mg base CX0 2 f fd ["script", "k"] (spP 2 EW0 F_Lbag) :=
  fnP (EW := EW0) (n := 2) (m := 2) (fs := f_Lbag) F sc_Lbag rfl rfl fun cdv A outer s H E hr => ⟨_, PSs.nox (pss_one (ps_ret (pe_lst (pa_cons (pe_c0 c_Ldraws hr (by decide) (by rfl) (pa_cons (pe_c0 c_Lcell_at hr (by decide) (by rfl) (pa_cons (pv 0) (pa_cons (pv 1) pa_nil))) (pa_cons pe_int (pa_cons pe_int pa_nil)))) (pa_cons pe_int pa_nil))))),
    (rs_ret (re_lst (ra_cons ((re_call0 (ra_cons ((re_call0 (ra_cons ((re_var 0)).sh (ra_cons ((re_var 1)).sh ra_nil)))).sh (ra_cons ((re_int 400)).sh (ra_cons ((re_int 1000)).sh ra_nil))))).sh (ra_cons ((re_int 0)).sh ra_nil))))⟩
/-! ### _law_bags -/
abbrev s_Lbags : Stmt := topS 16
theorem sc_Lbags : FnScope ["script", "limit", "k"] ["script", "limit"] (defScope s_Lbags) := ⟨rfl, rfl, rfl, by decide +kernel, rfl, by decide +kernel, by decide +kernel⟩
def F_Lbags : List D → Option (List (List D)) := runLL 3 (dRng1 (dCons (dSh (dCall dMax2 (dCons (dSh (dC (.int 1))) (dCons (dSh (dCall dMin2 (dCons (dSh (dVar 1)) (dCons (dSh (dCall dLen (dCons (dSh (dVar 0)) dNil))) dNil)))) dNil)))) dNil)) 2 (dCall0 2 F_Lbag (dCons (dSh (dVar 0)) (dCons (dSh (dVar 2)) dNil))) [2]
theorem ok_Lbags {f : Addr} {fd : FuncData} (F : FnP Wr.K "_law_bags" s_Lbags f fd) (hb : Bn mg) (c_Lbag : Cal0 P w Wr.K mg base 2 "_law_bag" (spP 2 EW0 F_Lbag)) : FnOk P w Wr.K mg base CX0 3 f fd ["script", "limit"] (spLL 2 EW0 F_Lbags) :=
  fnLL (EW := EW0) (n := 2) (m := 3) F sc_Lbags rfl rfl (by decide) fun cdv A outer s H E hr => ⟨_, _, PSs.nox (pss_one (ps_ret (pe_lc (own := [("k", 2)]) (by rfl) sc_Lbags.nd (pi_range1 (by rfl) hb.range (pa_cons (pe_callB (c_max2 rfl) (by rfl) hb.max b_max (pa_cons pe_int (pa_cons (pe_callB (c_min2 rfl) (by rfl) hb.min b_min (pa_cons (pv 1) (pa_cons (pe_callB c_len (by rfl) hb.len b_len (pa_cons (pv 0) pa_nil)) pa_nil))) pa_nil))) pa_nil)) (blkOk_by (own := [("k", 2)]) (by kernel_rfl)) (fun _ _ _ _ _ => (pg_name (i := 2) sc_Lbags.nd rfl (by first | exact .inl rfl | exact .inr rfl))) (fun _ _ _ _ _ => pts_nil) (fun _ _ _ _ _ => (pe_c0 c_Lbag hr (by decide) (by rfl) (pa_cons (pv 0) (pa_cons (pv 2) pa_nil))))))), (ri_rng1 (ra_cons ((re_call g_max2 (ra_cons ((re_int 1)).sh (ra_cons ((re_call g_min2 (ra_cons ((re_var 1)).sh (ra_cons ((re_call g_len (ra_cons ((re_var 0)).sh ra_nil))).sh ra_nil)))).sh ra_nil)))).sh ra_nil)), (re_call0 (ra_cons ((re_var 0)).sh (ra_cons ((re_var 2)).sh ra_nil)))⟩
/-! ### _law_take -/
abbrev s_Ltake : Stmt := topS 17
theorem sc_Ltake : FnScope ["bag", "many"] ["bag", "many"] (defScope s_Ltake) := ⟨rfl, rfl, rfl, by decide +kernel, rfl, by decide +kernel, by decide +kernel⟩
def f_Ltake : Fs := (sSeq (sSet 0 (dSh (dOp dAdd (dSh (dOpO dIx 0 (dSh (dC (.int 1))))) (dSh (dC (.int 1))))) (dSh (dC (.int 1))))
  (sRet (dOp dMod (dSh (dOp dIx (dSh (dOpO dIx 0 (dSh (dC (.int 0))))) (dSh (dOp dMod (dSh (dOpO dIx 0 (dSh (dC (.int 1))))) (dSh (dCall dLen (dCons (dSh (dOpO dIx 0 (dSh (dC (.int 0))))) dNil))))))) (dSh (dVar 1)))))
def F_Ltake : List D → List D → Res (Rv × List D) := runB 2 f_Ltake
theorem ok_Ltake {f : Addr} {fd : FuncData} (F : FnP Wr.K "_law_take" s_Ltake f fd) (hb : Bn mg) : FnOk P w Wr.K mg base CX0 1 f fd ["bag", "many"] (spB 2 EW0 F_Ltake) :=
  fnB (EW := EW0) (n := 2) (m := 2) (fs := f_Ltake) F sc_Ltake rfl rfl fun cdv A outer s H E hr => ⟨_, PSs.nox (pss_cons (ps_asg (pe_op op_addD (pe_ix ix_seq (pv 0) pe_int (fun _ _ => rfl)) pe_int) (pg_sub (pv 0) pe_int set_list))
      (pss_one (ps_ret (pe_op op_mod (pe_ix ix_seq (pe_ix ix_seq (pv 0) pe_int (fun _ _ => rfl)) (pe_op op_mod (pe_ix ix_seq (pv 0) pe_int (fun _ _ => rfl)) (pe_callB c_len (by rfl) hb.len b_len (pa_cons (pe_ix ix_seq (pv 0) pe_int (fun _ _ => rfl)) pa_nil))) (fun _ _ => rfl)) (pv 1))))),
    (rs_seq (rs_set 0 ((re_op g_add ((re_opO k_ix 0 ((re_int 1)).sh)).sh ((re_int 1)).sh)).sh ((re_int 1)).sh)
      (rs_ret (re_op g_mod ((re_op k_ix.g ((re_opO k_ix 0 ((re_int 0)).sh)).sh ((re_op g_mod ((re_opO k_ix 0 ((re_int 1)).sh)).sh ((re_call g_len (ra_cons ((re_opO k_ix 0 ((re_int 0)).sh)).sh ra_nil))).sh)).sh)).sh ((re_var 1)).sh)))⟩
/-! ### law -/
abbrev s_law : Stmt := topS 18
theorem sc_law : FnScope ["script", "bag", "boxes", "every", "one", "rows", "many", "due", "sizes", "ways", "size"] ["script"] (defScope s_law) := ⟨rfl, rfl, rfl, by decide +kernel, rfl, by decide +kernel, by decide +kernel⟩
def b_law_2 : Fs := (sAsg 3 (dOp dMul (dSh (dVar 3)) (dSh (dVar 4))))
def b_law_1 : Fs := (sSeq (sAsg 2 (dCallB0 2 F_Ltake 1 (dCons (dSh (dC (.int 41))) dNil)))
  (sSeq (sAsg 3 (dC (.int 1)))
  (sSeq (sFor (dRng2 (dCons (dSh (dC (.int 2))) (dCons (dSh (dOp dAdd (dSh (dVar 2)) (dSh (dC (.int 1))))) dNil))) (gN 4) b_law_2)
  (sSeq (sAsg 5 (dLc (dRng1 (dCons (dSh (dOp dAdd (dSh (dVar 2)) (dSh (dC (.int 1))))) dNil)) (gN 6) (fun ρ => .ok (true, ρ)) (dSh (dCall0 2 F_with_rounds (dCons (dSh (dVar 2)) (dCons (dSh (dVar 6)) dNil)))) [6]))
  (sSeq (sIf (dOr (dB (dSh (dOp dNe (dSh (dCall dSumF (dCons (dSh (dVar 5)) dNil))) (dSh (dVar 3))))) (dOr (dB (dSh (dOp dNe (dSh (dCall0 2 F_with_rounds (dCons (dSh (dVar 2)) (dCons (dSh (dVar 2)) dNil)))) (dSh (dC (.int 1)))))) (dB (dSh (dOp dNe (dSh (dCall0 2 F_with_rounds (dCons (dSh (dVar 2)) (dCons (dSh (dNegF (dSh (dC (.int 1))))) dNil)))) (dSh (dC (.int 0)))))))) (sRet (dC (.bool false))) sPass)
  (sSeq (sIf (dB (dSh (dOp dNe (dSh (dCall dSumF (dCons (dSh (dLc (dEnum (dCons (dSh (dVar 5)) dNil)) (gT 2 (gsCons (gN 6) (gsCons (gN 9) gsNil))) (fun ρ => .ok (true, ρ)) (dSh (dOp dMul (dSh (dVar 6)) (dSh (dVar 9)))) [6, 9])) dNil))) (dSh (dCall dSumF (dCons (dSh (dLc (dRng2 (dCons (dSh (dC (.int 1))) (dCons (dSh (dOp dAdd (dSh (dVar 2)) (dSh (dC (.int 1))))) dNil))) (gN 10) (fun ρ => .ok (true, ρ)) (dSh (dOp dDiv (dSh (dVar 3)) (dSh (dVar 10)))) [10])) dNil)))))) (sRet (dC (.bool false))) sPass)
  (sIf (dB (dSh (dOp dGt (dSh (dVar 2)) (dSh (dC (.int 0)))))) (sSeq (sAsg 6 (dCallB0 2 F_Ltake 1 (dCons (dSh (dOp dAdd (dSh (dVar 2)) (dSh (dC (.int 2))))) dNil)))
  (sSeq (sAsg 7 (dOp dAdd (dSh (dCall0 2 F_with_rounds (dCons (dSh (dOp dSub (dSh (dVar 2)) (dSh (dC (.int 1))))) (dCons (dSh (dOp dSub (dSh (dVar 6)) (dSh (dC (.int 1))))) dNil)))) (dSh (dOp dMul (dSh (dOp dSub (dSh (dVar 2)) (dSh (dC (.int 1))))) (dSh (dCall0 2 F_with_rounds (dCons (dSh (dOp dSub (dSh (dVar 2)) (dSh (dC (.int 1))))) (dCons (dSh (dVar 6)) dNil))))))))
  (sSeq (sIf (dB (dSh (dOp dNe (dSh (dCall0 2 F_with_rounds (dCons (dSh (dVar 2)) (dCons (dSh (dVar 6)) dNil)))) (dSh (dVar 7))))) (sRet (dC (.bool false))) sPass)
  (sSeq (sAsg 8 (dLc (dRng1 (dCons (dSh (dOp dAdd (dSh (dVar 2)) (dSh (dC (.int 2))))) dNil)) (gN 10) (fun ρ => .ok (true, ρ)) (dSh (dCall0 2 F_with_size (dCons (dSh (dVar 2)) (dCons (dSh (dVar 10)) dNil)))) [10]))
  (sSeq (sIf (dOr (dB (dSh (dOp dNe (dSh (dCall dSumF (dCons (dSh (dVar 8)) dNil))) (dSh (dVar 3))))) (dB (dSh (dOp dNe (dSh (dVar 8)) (dSh (dOp dAdd (dSh (dOp dAdd (dSh (dLst (dCons (dSh (dC (.int 0))) dNil))) (dSh (dOp dMul (dSh (dLst (dCons (dSh (dOp dDiv (dSh (dVar 3)) (dSh (dVar 2)))) dNil))) (dSh (dVar 2)))))) (dSh (dLst (dCons (dSh (dC (.int 0))) dNil))))))))) (sRet (dC (.bool false))) sPass)
  (sSeq (sAsg 6 (dOp dAdd (dSh (dC (.int 1))) (dSh (dCallB0 2 F_Ltake 1 (dCons (dSh (dVar 2)) dNil)))))
  (sIf (dOr (dB (dSh (dOp dNe (dSh (dOp dMul (dSh (dCall0 2 F_together (dCons (dSh (dVar 2)) (dCons (dSh (dVar 6)) dNil)))) (dSh (dVar 6)))) (dSh (dVar 3))))) (dB (dSh (dOp dNe (dSh (dCall0 2 F_together (dCons (dSh (dVar 2)) (dCons (dSh (dVar 2)) dNil)))) (dSh (dCall0 2 F_with_rounds (dCons (dSh (dVar 2)) (dCons (dSh (dC (.int 1))) dNil)))))))) (sRet (dC (.bool false))) sPass))))))) sPass)))))))
def f_law : Fs := (sSeq (sForB 2 F_Lbags (dCons (dSh (dVar 0)) (dCons (dSh (dC (.int 8))) dNil)) 1 b_law_1)
  (sRet (dAndV (dSh (dOp dEq (dSh (dCall0 2 F_with_rounds (dCons (dSh (dC (.int 4))) (dCons (dSh (dC (.int 2))) dNil)))) (dSh (dC (.int 11))))) (dAndV (dSh (dOp dEq (dSh (dCall0 2 F_together (dCons (dSh (dC (.int 5))) (dCons (dSh (dC (.int 2))) dNil)))) (dSh (dC (.int 60))))) (dOp dEq (dSh (dCall0 2 F_with_size (dCons (dSh (dC (.int 6))) (dCons (dSh (dC (.int 3))) dNil)))) (dSh (dC (.int 120))))))))
def F_law : List D → Res Rv := runP 11 f_law
theorem ok_law {f : Addr} {fd : FuncData} (F : FnP Wr.K "law" s_law f fd) (hb : Bn mg) (c_with_size : Cal0 P w Wr.K mg base 3 "with_size" (spP 2 EW0 F_with_size)) (c_together : Cal0 P w Wr.K mg base 3 "together" (spP 2 EW0 F_together)) (c_with_rounds : Cal0 P w Wr.K mg base 3 "with_rounds" (spP 2 EW0 F_with_rounds)) (c_Lbags : Cal0 P w Wr.K mg base 3 "_law_bags" (spLL 2 EW0 F_Lbags)) (c_Ltake : Cal0 P w Wr.K mg base 1 "_law_take" (spB 2 EW0 F_Ltake)) : FnOk P w Wr.K mg base CX0 4 f fd ["script"] (spP 1 EW0 F_law) :=
  fnP (EW := EW0) (n := 1) (m := 11) (fs := f_law) F sc_law rfl rfl fun cdv A outer s H E hr => ⟨_, PSs.nox (pss_cons (ps_for PassesOwn.never rfl (pi_seq (pe_c0 c_Lbags hr (by decide) (by rfl) (pa_cons (pv 0) (pa_cons pe_int pa_nil)))) (pg_name (i := 1) sc_law.nd rfl (by first | exact .inl rfl | exact .inr rfl)) (pss_cons (ps_set (i := 2) sc_law.nd rfl (by first | exact .inl rfl | exact .inr rfl) (pe_c0 c_Ltake hr (by decide) (by rfl) (pa_cons (pv 1) (pa_cons pe_int pa_nil))))
      (pss_cons (ps_set (i := 3) sc_law.nd rfl (by first | exact .inl rfl | exact .inr rfl) pe_int)
      (pss_cons (ps_for PassesOwn.never rfl (pi_range2 (by rfl) hb.range (pa_cons pe_int (pa_cons (pe_op op_addD (pv 2) pe_int) pa_nil))) (pg_name (i := 4) sc_law.nd rfl (by first | exact .inl rfl | exact .inr rfl)) (pss_one (ps_set (i := 3) sc_law.nd rfl (by first | exact .inl rfl | exact .inr rfl) (pe_op op_mulD (pv 3) (pv 4)))))
      (pss_cons (ps_setLc (i := 5) (own := [("many", 6)]) (by rfl) sc_law.nd rfl rfl (sw_true rfl rfl rfl (by decide +kernel)) (pi_range1 (by rfl) hb.range (pa_cons (pe_op op_addD (pv 2) pe_int) pa_nil)) (blkOk_by (own := [("many", 6)]) (by kernel_rfl)) (fun _ _ _ _ _ => (pg_name (i := 6) sc_law.nd rfl (by first | exact .inl rfl | exact .inr rfl))) (fun _ _ _ _ _ => pts_nil) (fun _ _ _ _ _ => (pe_c0 c_with_rounds hr (by decide) (by rfl) (pa_cons (pv 2) (pa_cons (pv 6) pa_nil)))))
      (pss_cons (ps_if (PW.pt (pw_or (pt_cmpR (op_neD hr.units) (pe_callB (cr_sum rfl) (by rfl) hb.sum b_sum (pa_cons (pv 5) pa_nil)) (pv 3) (nomark _)) (pw_or (pt_cmpR (op_neD hr.units) (pe_c0 c_with_rounds hr (by decide) (by rfl) (pa_cons (pv 2) (pa_cons (pv 2) pa_nil))) pe_int (nomark _)) (pw_or1 (pt_cmpR (op_neD hr.units) (pe_c0 c_with_rounds hr (by decide) (by rfl) (pa_cons (pv 2) (pa_cons (pe_un un_neg pe_int) pa_nil))) pe_int (nomark _)))))) (pss_one (ps_ret pe_bl)) pss_nil)
      (pss_cons (ps_if (pt_cmpR (op_neD hr.units) (pe_callB (cr_sum rfl) (by rfl) hb.sum b_sum (pa_cons (pe_lc (own := [("many", 6), ("ways", 9)]) (by rfl) sc_law.nd (pi_enumA (by rfl) hb.enumerate (pa_cons (pv 5) pa_nil)) (blkOk_by (own := [("many", 6), ("ways", 9)]) (by kernel_rfl)) (fun _ _ _ _ _ => (pg_tup rfl (pgs_cons (pg_name (i := 6) sc_law.nd rfl (by first | exact .inl rfl | exact .inr rfl)) (pgs_cons (pg_name (i := 9) sc_law.nd rfl (by first | exact .inl rfl | exact .inr rfl)) pgs_nil)))) (fun _ _ _ _ _ => pts_nil) (fun _ _ _ _ _ => (pe_op op_mulD (pv 6) (pv 9)))) pa_nil)) (pe_callB (cr_sum rfl) (by rfl) hb.sum b_sum (pa_cons (pe_lc (own := [("size", 10)]) (by rfl) sc_law.nd (pi_range2 (by rfl) hb.range (pa_cons pe_int (pa_cons (pe_op op_addD (pv 2) pe_int) pa_nil))) (blkOk_by (own := [("size", 10)]) (by kernel_rfl)) (fun _ _ _ _ _ => (pg_name (i := 10) sc_law.nd rfl (by first | exact .inl rfl | exact .inr rfl))) (fun _ _ _ _ _ => pts_nil) (fun _ _ _ _ _ => (pe_op op_fdiv (pv 3) (pv 10)))) pa_nil)) (nomark _)) (pss_one (ps_ret pe_bl)) pss_nil)
      (pss_one (ps_if (pt_cmpR op_gtD (pv 2) pe_int (nomark _)) (pss_cons (ps_set (i := 6) sc_law.nd rfl (by first | exact .inl rfl | exact .inr rfl) (pe_c0 c_Ltake hr (by decide) (by rfl) (pa_cons (pv 1) (pa_cons (pe_op op_addD (pv 2) pe_int) pa_nil))))
      (pss_cons (ps_set (i := 7) sc_law.nd rfl (by first | exact .inl rfl | exact .inr rfl) (pe_op op_addD (pe_c0 c_with_rounds hr (by decide) (by rfl) (pa_cons (pe_op op_sub (pv 2) pe_int) (pa_cons (pe_op op_sub (pv 6) pe_int) pa_nil))) (pe_op op_mulD (pe_op op_sub (pv 2) pe_int) (pe_c0 c_with_rounds hr (by decide) (by rfl) (pa_cons (pe_op op_sub (pv 2) pe_int) (pa_cons (pv 6) pa_nil))))))
      (pss_cons (ps_if (pt_cmpR (op_neD hr.units) (pe_c0 c_with_rounds hr (by decide) (by rfl) (pa_cons (pv 2) (pa_cons (pv 6) pa_nil))) (pv 7) (nomark _)) (pss_one (ps_ret pe_bl)) pss_nil)
      (pss_cons (ps_setLc (i := 8) (own := [("size", 10)]) (by rfl) sc_law.nd rfl rfl (sw_true rfl rfl rfl (by decide +kernel)) (pi_range1 (by rfl) hb.range (pa_cons (pe_op op_addD (pv 2) pe_int) pa_nil)) (blkOk_by (own := [("size", 10)]) (by kernel_rfl)) (fun _ _ _ _ _ => (pg_name (i := 10) sc_law.nd rfl (by first | exact .inl rfl | exact .inr rfl))) (fun _ _ _ _ _ => pts_nil) (fun _ _ _ _ _ => (pe_c0 c_with_size hr (by decide) (by rfl) (pa_cons (pv 2) (pa_cons (pv 10) pa_nil)))))
      (pss_cons (ps_if (PW.pt (pw_or (pt_cmpR (op_neD hr.units) (pe_callB (cr_sum rfl) (by rfl) hb.sum b_sum (pa_cons (pv 8) pa_nil)) (pv 3) (nomark _)) (pw_or1 (pt_cmpR (op_neD hr.units) (pv 8) (pe_op op_addD (pe_op op_addD (pe_lst (pa_cons pe_int pa_nil)) (pe_op op_mulD (pe_lst (pa_cons (pe_op op_fdiv (pv 3) (pv 2)) pa_nil)) (pv 2))) (pe_lst (pa_cons pe_int pa_nil))) (nomark _))))) (pss_one (ps_ret pe_bl)) pss_nil)
      (pss_cons (ps_set (i := 6) sc_law.nd rfl (by first | exact .inl rfl | exact .inr rfl) (pe_op op_addD pe_int (pe_c0 c_Ltake hr (by decide) (by rfl) (pa_cons (pv 1) (pa_cons (pv 2) pa_nil)))))
      (pss_one (ps_if (PW.pt (pw_or (pt_cmpR (op_neD hr.units) (pe_op op_mulD (pe_c0 c_together hr (by decide) (by rfl) (pa_cons (pv 2) (pa_cons (pv 6) pa_nil))) (pv 6)) (pv 3) (nomark _)) (pw_or1 (pt_cmpR (op_neD hr.units) (pe_c0 c_together hr (by decide) (by rfl) (pa_cons (pv 2) (pa_cons (pv 2) pa_nil))) (pe_c0 c_with_rounds hr (by decide) (by rfl) (pa_cons (pv 2) (pa_cons pe_int pa_nil))) (nomark _))))) (pss_one (ps_ret pe_bl)) pss_nil)))))))) pss_nil)))))))))
      (pss_one (ps_ret (pe_and (pe_cmpR (op_eqD hr.units) (pe_c0 c_with_rounds hr (by decide) (by rfl) (pa_cons pe_int (pa_cons pe_int pa_nil))) pe_int (nomark _)) (pe_and (pe_cmpR (op_eqD hr.units) (pe_c0 c_together hr (by decide) (by rfl) (pa_cons pe_int (pa_cons pe_int pa_nil))) pe_int (nomark _)) (pe_one (pe_cmpR (op_eqD hr.units) (pe_c0 c_with_size hr (by decide) (by rfl) (pa_cons pe_int (pa_cons pe_int pa_nil))) pe_int (nomark _)))))))),
    (rs_seq (rs_forB (ra_cons ((re_var 0)).sh (ra_cons ((re_int 8)).sh ra_nil)) (rs_seq (rs_asg 2 (re_callB0 1 (ra_cons ((re_int 41)).sh ra_nil)))
      (rs_seq (rs_asg 3 (re_int 1))
      (rs_seq (rs_for (ri_rng2 (ra_cons ((re_int 2)).sh (ra_cons ((re_op g_add ((re_var 2)).sh ((re_int 1)).sh)).sh ra_nil))) (rg_name 4) (rs_asg 3 (re_op g_mul ((re_var 3)).sh ((re_var 4)).sh)))
      (rs_seq (rs_asg 5 (re_lc (ri_rng1 (ra_cons ((re_op g_add ((re_var 2)).sh ((re_int 1)).sh)).sh ra_nil)) (rg_name 6) (by decide) rt_yes ((re_call0 (ra_cons ((re_var 2)).sh (ra_cons ((re_var 6)).sh ra_nil)))).sh))
      (rs_seq (rs_if (rt_or (rt_test ((re_op k_ne.g ((re_call g_sum (ra_cons ((re_var 5)).sh ra_nil))).sh ((re_var 3)).sh)).sh) (rt_or (rt_test ((re_op k_ne.g ((re_call0 (ra_cons ((re_var 2)).sh (ra_cons ((re_var 2)).sh ra_nil)))).sh ((re_int 1)).sh)).sh) (rt_test ((re_op k_ne.g ((re_call0 (ra_cons ((re_var 2)).sh (ra_cons ((re_neg ((re_int 1)).sh)).sh ra_nil)))).sh ((re_int 0)).sh)).sh))) (rs_ret (re_bl false)) rs_pass)
      (rs_seq (rs_if (rt_test ((re_op k_ne.g ((re_call g_sum (ra_cons ((re_lc (ri_enum (ra_cons ((re_var 5)).sh ra_nil)) (rg_tup (rgs_cons (rg_name 6) (rgs_cons (rg_name 9) rgs_nil))) (by decide) rt_yes ((re_op g_mul ((re_var 6)).sh ((re_var 9)).sh)).sh)).sh ra_nil))).sh ((re_call g_sum (ra_cons ((re_lc (ri_rng2 (ra_cons ((re_int 1)).sh (ra_cons ((re_op g_add ((re_var 2)).sh ((re_int 1)).sh)).sh ra_nil))) (rg_name 10) (by decide) rt_yes ((re_op g_div ((re_var 3)).sh ((re_var 10)).sh)).sh)).sh ra_nil))).sh)).sh) (rs_ret (re_bl false)) rs_pass)
      (rs_if (rt_test ((re_op g_gt ((re_var 2)).sh ((re_int 0)).sh)).sh) (rs_seq (rs_asg 6 (re_callB0 1 (ra_cons ((re_op g_add ((re_var 2)).sh ((re_int 2)).sh)).sh ra_nil)))
      (rs_seq (rs_asg 7 (re_op g_add ((re_call0 (ra_cons ((re_op g_sub ((re_var 2)).sh ((re_int 1)).sh)).sh (ra_cons ((re_op g_sub ((re_var 6)).sh ((re_int 1)).sh)).sh ra_nil)))).sh ((re_op g_mul ((re_op g_sub ((re_var 2)).sh ((re_int 1)).sh)).sh ((re_call0 (ra_cons ((re_op g_sub ((re_var 2)).sh ((re_int 1)).sh)).sh (ra_cons ((re_var 6)).sh ra_nil)))).sh)).sh))
      (rs_seq (rs_if (rt_test ((re_op k_ne.g ((re_call0 (ra_cons ((re_var 2)).sh (ra_cons ((re_var 6)).sh ra_nil)))).sh ((re_var 7)).sh)).sh) (rs_ret (re_bl false)) rs_pass)
      (rs_seq (rs_asg 8 (re_lc (ri_rng1 (ra_cons ((re_op g_add ((re_var 2)).sh ((re_int 2)).sh)).sh ra_nil)) (rg_name 10) (by decide) rt_yes ((re_call0 (ra_cons ((re_var 2)).sh (ra_cons ((re_var 10)).sh ra_nil)))).sh))
      (rs_seq (rs_if (rt_or (rt_test ((re_op k_ne.g ((re_call g_sum (ra_cons ((re_var 8)).sh ra_nil))).sh ((re_var 3)).sh)).sh) (rt_test ((re_op k_ne.g ((re_var 8)).sh ((re_op g_add ((re_op g_add ((re_lst (ra_cons ((re_int 0)).sh ra_nil))).sh ((re_op g_mul ((re_lst (ra_cons ((re_op g_div ((re_var 3)).sh ((re_var 2)).sh)).sh ra_nil))).sh ((re_var 2)).sh)).sh)).sh ((re_lst (ra_cons ((re_int 0)).sh ra_nil))).sh)).sh)).sh)) (rs_ret (re_bl false)) rs_pass)
      (rs_seq (rs_asg 6 (re_op g_add ((re_int 1)).sh ((re_callB0 1 (ra_cons ((re_var 2)).sh ra_nil))).sh))
      (rs_if (rt_or (rt_test ((re_op k_ne.g ((re_op g_mul ((re_call0 (ra_cons ((re_var 2)).sh (ra_cons ((re_var 6)).sh ra_nil)))).sh ((re_var 6)).sh)).sh ((re_var 3)).sh)).sh) (rt_test ((re_op k_ne.g ((re_call0 (ra_cons ((re_var 2)).sh (ra_cons ((re_var 2)).sh ra_nil)))).sh ((re_call0 (ra_cons ((re_var 2)).sh (ra_cons ((re_int 1)).sh ra_nil)))).sh)).sh)) (rs_ret (re_bl false)) rs_pass))))))) rs_pass))))))))
      (rs_ret (re_and ((re_op k_eq.g ((re_call0 (ra_cons ((re_int 4)).sh (ra_cons ((re_int 2)).sh ra_nil)))).sh ((re_int 11)).sh)).sh (re_and ((re_op k_eq.g ((re_call0 (ra_cons ((re_int 5)).sh (ra_cons ((re_int 2)).sh ra_nil)))).sh ((re_int 60)).sh)).sh (re_op k_eq.g ((re_call0 (ra_cons ((re_int 6)).sh (ra_cons ((re_int 3)).sh ra_nil)))).sh ((re_int 120)).sh)))))⟩
end
end DL

set_option Elab.async false
set_option linter.all false
set_option maxRecDepth 100000
set_option maxHeartbeats 4000000
/-! drawing -/
namespace DL
open PySem PySem.Spec PyProof.Rows L2
variable [Wr]
theorem e_cell (ns : List Int) (k : Nat) : F_Lcell_at [frzD ns, .int k] = .ok (.sh (.int (ns.getD k 0))) := by
  simp [F_Lcell_at, f_Lcell_at, runP, startE]
  by_cases h : k < ns.length <;> simp [h]
/-- what is drawn: numbers of 0 … 999, 400 of them -/
def Drw (dr : List Int) : Prop := dr.length = 400 ∧ ∀ x ∈ dr, 0 ≤ x ∧ x < 1000
theorem range'_cons {j n x : Nat} {xs : List Nat} (e : x :: xs = List.range' j n) : ∃ m, n = m + 1 ∧ x = j ∧ xs = List.range' (j + 1) m := by
  cases n with
  | zero => cases e
  | succ m => rw [List.range'_succ] at e; cases e; exact ⟨m, rfl, rfl, rfl⟩
theorem draw_step (c rest st : Int) (found : List Int) (j : Nat) (s : Sl) (h0 : 0 ≤ st) (h1 : st < 2305843009213693951) (hl : found.length ≤ 1000) :
    ∃ found' rest' st', b_Ldraws_1 [.sh (.int c), .sh (.int 400), .sh (.int 1000), .ow (found.map .int), .sh (.int rest), .sh (.int st), .sh (.int (j : Int))] = .nx [.sh (.int c), .sh (.int 400), .sh (.int 1000), .ow (found'.map .int), .sh (.int rest'), .sh (.int st'), .sh (.int (j : Int))] ∧ 0 ≤ st' ∧ st' < 2305843009213693951 ∧ (j ≤ 2 → found' = found) ∧ (2 < j → ∃ x, found' = found ++ [x] ∧ 0 ≤ x ∧ x < 1000) := by
  have hs : smI st = true := Nat.ble_eq_true_of_le (by omega)
  have hd1 : s30 4096 = true := by decide
  have hd2 : s30 1000 = true := by decide
  have hs2 : smI 48271 = true := by decide
  have hz : szOk found.length = true := szOk_of (by omega)
  unfold b_Ldraws_1
  simp [hs, hs2]
  generalize hst : (st * st + 48271 * st + (j : Int) + 1) % 2305843009213693951 = st'
  have b0 : 0 ≤ st' := by omega
  have b1 : st' < 2305843009213693951 := by omega
  by_cases hj : 2 < j
  · have hj' : (2 : Int) < (j : Int) := by omega
    by_cases hr : 0 < rest
    · simp [hj', hr, isL, updL, hz, hd1, hd2]
      refine ⟨found ++ [rest % 1000], rest / 1000, st', ?_, b0, b1, fun h => by omega, fun _ => ⟨_, rfl, by omega, by omega⟩⟩
      simp
    · simp [hj', hr, isL, updL, hz, hd1, hd2]
      refine ⟨found ++ [st' / 4096 % 1000], rest, st', ?_, b0, b1, fun h => by omega, fun _ => ⟨_, rfl, by omega, by omega⟩⟩
      simp
  · have hj' : ¬ (2 : Int) < (j : Int) := by omega
    simp [hj', hj]
    exact ⟨found, rest, st', by simp, b0, b1, fun _ => rfl⟩
theorem e_draws (c : Int) : ∃ dr, Drw dr ∧ F_Ldraws [.int c, .int 400, .int 1000] = .ok (.fr (dr.map .int)) := by
  have hp : dPow (.int 10) (.int 18) = some (.sh (.int 1000000000000000000)) := by rfl
  have hm : smI (if 1000000000000000000 ≤ c then 1 else 0) = true := by split <;> decide
  unfold F_Ldraws f_Ldraws runP
  simp [startE, hp, szOk_of, hm, s62_of]
  generalize (c * if 1000000000000000000 ≤ c then 1 else 0) = rest
  have h0 : 0 ≤ c % 2305843009213693951 := by omega
  have h1 : c % 2305843009213693951 < 2305843009213693951 := by omega
  generalize c % 2305843009213693951 = st at h0 h1
  have hr : rngD 0 403 = (List.range' 0 403).map fun j : Nat => PyData.int (j : Int) := by simp [rngD, List.range_eq_range']
  rw [hr]
  refine sLoop_map (fun j : Nat => PyData.int (j : Int)) (fun xs ρ => ∃ j n found rest st s6, xs = List.range' j n ∧ j + n = 403 ∧ found.length = j - 3 ∧ 0 ≤ st ∧ st < 2305843009213693951 ∧ (∀ x ∈ found, 0 ≤ x ∧ x < 1000) ∧ ρ = [.sh (.int c), .sh (.int 400), .sh (.int 1000), .ow (found.map .int), .sh (.int rest), .sh (.int st), s6])
    (fun o => ∃ dr, Drw dr ∧ outP (seqO o (sRet (dMove 3))) = Res.ok (Rv.fr (List.map PyData.int dr))) ?_ ?_ _ _ ⟨0, 403, [], rest, st, .no, rfl, rfl, rfl, h0, h1, by simp, rfl⟩
  · rintro x xs ρ ⟨j, n, found, rest, st, s6, e, hn, hl, h0, h1, hx, rfl⟩
    obtain ⟨m, rfl, rfl, rfl⟩ := range'_cons e
    obtain ⟨found', rest', st', e1, e2, e3, e4, e5⟩ := draw_step c rest st found x s6 h0 h1 (by omega)
    refine ⟨_, rfl, ?_⟩
    simp only [List.set_cons_succ, List.set_cons_zero]
    rw [e1]
    refine ⟨x + 1, m, found', rest', st', _, rfl, by omega, ?_, e2, e3, ?_, rfl⟩
    · by_cases hj : 2 < x
      · obtain ⟨y, rfl, _⟩ := e5 hj
        clear e5 e4 e1
        simp; omega
      · rw [e4 (by omega)]; clear e5 e4 e1; omega
    · by_cases hj : 2 < x
      · obtain ⟨y, rfl, hy⟩ := e5 hj
        intro z hz
        rcases List.mem_append.mp hz with hz | hz
        · exact hx z hz
        · rw [List.mem_singleton.mp hz]; exact hy
      · rw [e4 (by omega)]; exact hx
  · rintro ρ ⟨j, n, found, rest, st, s6, e, hn, hl, h0, h1, hx, rfl⟩
    cases n with
    | succ n => rw [List.range'_succ] at e; cases e
    | zero => exact ⟨found, ⟨by omega, hx⟩, rfl⟩
/-- a bag: what is drawn, and how much of it -/
def Bag (bs : List D) : Prop := ∃ (dr : List Int) (t : Nat), Drw dr ∧ bs = [.list (dr.map .int), .int (t : Int)]
theorem e_bag (ns : List Int) (k : Nat) : ∃ bs, Bag bs ∧ F_Lbag [frzD ns, .int k] = .ok (.fr bs) := by
  obtain ⟨dr, h1, h2⟩ := e_draws (ns.getD k 0)
  refine ⟨_, ⟨dr, 0, h1, rfl⟩, ?_⟩
  unfold F_Lbag f_Lbag runP
  simp only [startE]
  simp [e_cell, -List.getD_eq_getElem?_getD, h2, szOk_of]
theorem llLoop_bags (ns : List Int) (fe : Fe) (s : Sl) (lim : D) (he : ∀ k : Nat, ∃ bs, Bag bs ∧ fe [.sh (frzD ns), .sh lim, .sh (.int k)] = .ok (.fr bs, [.sh (frzD ns), .sh lim, .sh (.int k)])) : ∀ ks : List Nat, ∃ bss, llLoop 2 fe [2] (ks.map fun k : Nat => .int (k : Int)) [.sh (frzD ns), .sh lim, .no] = some bss ∧ bss.length = ks.length ∧ ∀ bs ∈ bss, Bag bs
  | [] => ⟨[], rfl, rfl, by simp⟩
  | k :: ks => by
    obtain ⟨bss, h1, h2, h3⟩ := llLoop_bags ns fe s lim he ks
    obtain ⟨bs, h4, h5⟩ := he k
    refine ⟨bs :: bss, ?_, by simp [h2], ?_⟩
    · show llLoop 2 fe [2] (_ :: ks.map _) _ = _
      unfold llLoop
      simp [h5, wipeE, h1]
    · intro b hb
      rcases List.mem_cons.mp hb with rfl | hb
      · exact h4
      · exact h3 b hb
theorem bags_n (a lim : Nat) (hn : a ≤ 63) (hl : lim ≤ 100) : ∃ n : Nat, n ≤ 100 ∧ (if (if a < lim then (a : Int) else (lim : Int)) > 1 then (if a < lim then (a : Int) else (lim : Int)) else 1) = (n : Int) := by
  by_cases h : a < lim
  · by_cases h1 : (a : Int) > 1
    · exact ⟨a, by omega, by rw [if_pos h, if_pos h1]⟩
    · exact ⟨1, by omega, by rw [if_pos h, if_neg h1]; rfl⟩
  · by_cases h1 : (lim : Int) > 1
    · exact ⟨lim, by omega, by rw [if_neg h, if_pos h1]⟩
    · exact ⟨1, by omega, by rw [if_neg h, if_neg h1]; rfl⟩
theorem bags_rng (ns : List Int) (hn : ns.length ≤ 63) (lim : Nat) (hl : lim ≤ 100) : ∃ n : Nat, n ≤ 100 ∧ (dRng1 (dCons (dSh (dCall dMax2 (dCons (dSh (dC (.int 1))) (dCons (dSh (dCall dMin2 (dCons (dSh (dVar 1)) (dCons (dSh (dCall dLen (dCons (dSh (dVar 0)) dNil))) dNil)))) dNil)))) dNil)) [.sh (frzD ns), .sh (.int lim), .no] = .ok ((List.range n).map fun k : Nat => .int (k : Int), [.sh (frzD ns), .sh (.int lim), .no]) := by
  obtain ⟨n, h2, e⟩ := bags_n ns.length lim hn hl
  refine ⟨n, h2, ?_⟩
  have e2 := s62_of (i := (n : Int)) (by omega) (by omega)
  have ha : (dCons (dSh (dCall dMax2 (dCons (dSh (dC (.int 1))) (dCons (dSh (dCall dMin2 (dCons (dSh (dVar 1)) (dCons (dSh (dCall dLen (dCons (dSh (dVar 0)) dNil))) dNil)))) dNil)))) dNil) [.sh (frzD ns), .sh (.int lim), .no] = .ok ([.int n], [.sh (frzD ns), .sh (.int lim), .no]) := by
    simp [-gt_iff_lt, e]
  rw [dRng1_ap, ha, Res.bind_ok, rng1_int, if_pos e2, rngD_nat]
  rfl
theorem e_bags (ns : List Int) (hn : ns.length ≤ 63) (lim : Nat) (hl : lim ≤ 100) : ∃ bss, (∀ bs ∈ bss, Bag bs) ∧ F_Lbags [frzD ns, .int lim] = some bss := by
  obtain ⟨n, hm1, hm2⟩ := bags_rng ns hn lim hl
  obtain ⟨bss, h1, h2, h3⟩ := llLoop_bags ns (dCall0 2 F_Lbag (dCons (dSh (dVar 0)) (dCons (dSh (dVar 2)) dNil))) .no (.int lim) (fun k => by
    obtain ⟨bs, h1, h2⟩ := e_bag ns k
    refine ⟨bs, h1, ?_⟩
    simp [h2]) (List.range n)
  refine ⟨bss, h3, ?_⟩
  have hl : bss.length ≤ 1000 := by simp at h2; omega
  have e : dLL (dRng1 (dCons (dSh (dCall dMax2 (dCons (dSh (dC (.int 1))) (dCons (dSh (dCall dMin2 (dCons (dSh (dVar 1)) (dCons (dSh (dCall dLen (dCons (dSh (dVar 0)) dNil))) dNil)))) dNil)))) dNil)) 2 (dCall0 2 F_Lbag (dCons (dSh (dVar 0)) (dCons (dSh (dVar 2)) dNil))) [2] [.sh (frzD ns), .sh (.int lim), .no] = some bss := by
    unfold dLL
    rw [hm2]
    exact h1
  unfold F_Lbags runLL
  rw [show startE 3 [frzD ns, .int lim] = [.sh (frzD ns), .sh (.int lim), .no] from rfl, e]
  exact if_pos hl
theorem e_take {bs : List D} (h : Bag bs) {m : Int} (hm : 0 < m) : ∃ r bs', F_Ltake bs [.int m] = .ok (.sh (.int r), bs') ∧ 0 ≤ r ∧ r < m ∧ Bag bs' := by
  obtain ⟨dr, t, hd, rfl⟩ := h
  have hlen : 0 < dr.length := by rw [hd.1]; decide
  obtain ⟨x, hx, hx2⟩ : ∃ x, dr[(t + 1) % dr.length]? = some x ∧ 0 ≤ x := by
    have : (t + 1) % dr.length < dr.length := Nat.mod_lt _ (by omega)
    exact ⟨dr[(t + 1) % dr.length], by simp [this], (hd.2 _ (List.getElem_mem this)).1⟩
  have e1 : atI (dr.map PyData.int) (((t : Int) + 1) % (dr.length : Int)) = some (.int x) := by
    have : (((t : Int) + 1) % (dr.length : Int)) = (((t + 1) % dr.length : Nat) : Int) := by simp
    rw [this, atI_cast, List.getElem?_map, hx]
    rfl
  refine ⟨x % m, [.list (dr.map .int), .int ((t + 1 : Nat) : Int)], ?_, Int.emod_nonneg _ (by omega), Int.emod_lt_of_pos _ hm, dr, t + 1, hd, rfl⟩
  have e2 : ixN 2 1 = some 1 := by decide
  unfold F_Ltake f_Ltake runB
  simp only [startB]
  simp [isL, updL, e2, hlen, hm, e1]
end DL

set_option Elab.async false
set_option linter.all false
set_option maxRecDepth 100000
set_option maxHeartbeats 4000000
namespace DL
open PySem PySem.Spec PyProof.Rows L2
variable [Wr]
theorem e_within (a lo hi : Int) : F_is_within [.int a, .int lo, .int hi] = .ok (.sh (.bool (decide (lo ≤ a) && decide (a ≤ hi)))) := by
  simp [F_is_within, f_is_within, runP, startE]
  by_cases h : lo ≤ a <;> simp [h]
theorem e_need_boxes {a lo : Int} (h1 : lo ≤ a) (h2 : a ≤ 40) : F_need_boxes [.int a, .int lo] = .ok (.sh .none) := by
  simp [F_need_boxes, f_need_boxes, runP, startE, e_within, h1, h2]
theorem e_need_whole (a : Int) : F_need_whole [.int a] = .ok (.sh .none) := by
  simp [F_need_whole, f_need_whole, runP, startE]
/-! plain counts -/
def comb (s : Int) (c : Int) : List Int → List Int
  | [] => [c]
  | w :: r => (c + w * s) :: comb s w r
def wrow : Nat → List Int
  | 0 => [1]
  | n + 1 => comb (n : Int) 0 (wrow n)
def fac : Nat → Int
  | 0 => 1
  | n + 1 => fac n * ((n : Int) + 1)
theorem comb_length (s : Int) : ∀ (r : List Int) (c : Int), (comb s c r).length = r.length + 1
  | [], _ => rfl
  | w :: r, c => by show (comb s w r).length + 1 = _; rw [comb_length s r w]; rfl
theorem wrow_length : ∀ n, (wrow n).length = n + 1
  | 0 => rfl
  | n + 1 => by show (comb _ _ _).length = _; rw [comb_length, wrow_length n]
theorem comb_get (s : Int) : ∀ (r : List Int) (c : Int) (i : Nat), (comb s c r).getD i 0 = (c :: r).getD i 0 + r.getD i 0 * s
  | [], c, 0 => by simp [comb]
  | [], c, i + 1 => by simp [comb]
  | w :: r, c, 0 => by simp [comb]
  | w :: r, c, i + 1 => by
    have := comb_get s r w i
    simpa [comb] using this
/-- with_rounds -/
def wr (b : Nat) (m : Int) : Int := if 0 ≤ m ∧ m ≤ b then (wrow b).getD m.toNat 0 else 0
def pairsF (j : Nat) : List Int → List (Nat × Int)
  | [] => []
  | w :: r => (j, w) :: pairsF (j + 1) r
def encP (p : Nat × Int) : D := .tuple [.int (p.1 : Int), .int p.2]
theorem enum_pairs_aux : ∀ (row : List Int) (j : Nat), (List.range row.length).map (fun i => PyData.tuple [.int ((j + i : Nat) : Int), (row.map PyData.int).getD i .none]) = (pairsF j row).map encP
  | [], _ => rfl
  | w :: r, j => by
    have ih := enum_pairs_aux r (j + 1)
    simp only [List.length_cons, List.range_succ_eq_map, List.map_cons, List.map_map, pairsF]
    congr 1
    rw [← ih]
    apply List.map_congr_left
    intro i _
    simp [Nat.add_assoc, Nat.add_comm 1 i]
theorem enum_pairs (row : List Int) : enumD (row.map .int) = (pairsF 0 row).map encP := by
  rw [← enum_pairs_aux]
  simp [enumD]
theorem sAugI_of {i k : Nat} {fk fe : Fd} {ρ : En} {ds : List D} {a v : Int} (h1 : ρ[i]? = some (.ow ds)) (h2 : fk ρ = .ok (.int (k : Int), ρ)) (h3 : ds[k]? = some (.int a)) (h4 : fe ρ = .ok (.int v, ρ)) : sAugI i fk fe ρ = .nx (ρ.set i (.ow (ds.set k (.int (a + v))))) := by
  have hk : k < ds.length := (List.getElem?_eq_some_iff.mp h3).1
  have h5 : atI ds (k : Int) = some (.int a) := by rw [atI_cast, h3]
  unfold sAugI
  simp only [isL, h1, h2, Option.bind_some, lstOf_ow, Option.isSome_some, if_true, onR_ok, h5, h4, updL, ixN_cast, hk, Option.map_some, putSl_ow]
theorem wr_inner (b m s : Int) (hs : smI s = true) (row : List Int) (s5 s6 : Sl) : ∃ t5 t6, sLoop (gT 2 (gsCons (gN 5) (gsCons (gN 6) gsNil))) b_with_rounds_2 (enumD (row.map .int)) [.sh (.int b), .sh (.int m), .sh (.list (row.map .int)), .sh (.int s), .ow ((0 :: List.replicate row.length 0).map .int), s5, s6] = .nx [.sh (.int b), .sh (.int m), .sh (.list (row.map .int)), .sh (.int s), .ow ((comb s 0 row).map .int), t5, t6] := by
  rw [enum_pairs]
  refine sLoop_map encP (fun xs ρ => ∃ j r done c s5 s6, xs = pairsF j r ∧ done.length = j ∧ done ++ comb s c r = comb s 0 row ∧ ρ = [.sh (.int b), .sh (.int m), .sh (.list (row.map .int)), .sh (.int s), .ow ((done ++ c :: List.replicate r.length 0).map .int), s5, s6])
    (fun o => ∃ t5 t6, o = .nx [.sh (.int b), .sh (.int m), .sh (.list (row.map .int)), .sh (.int s), .ow ((comb s 0 row).map .int), t5, t6]) ?_ ?_ _ _ ⟨0, row, [], 0, s5, s6, rfl, rfl, rfl, rfl⟩
  · rintro x xs ρ ⟨j, r, done, c, s5, s6, e, hl, hc, rfl⟩
    cases r with
    | nil => cases e
    | cons w r =>
      cases e
      refine ⟨_, rfl, ?_⟩
      have e1 : (List.map PyData.int (done ++ c :: List.replicate (r.length + 1) 0))[j]? = some (.int c) := by
        rw [List.getElem?_map, List.getElem?_append_right (by omega), hl]; simp
      have e2 : (List.map PyData.int (done ++ c :: List.replicate (r.length + 1) 0)).set j (.int (c + w * s)) = List.map PyData.int (done ++ [c + w * s] ++ 0 :: List.replicate r.length 0) := by
        simp only [List.map_append, List.map_cons]
        rw [List.set_append_right _ _ (by simp [hl]), List.length_map, hl]
        simp [List.replicate_succ]
      have e3 : (List.map PyData.int (done ++ [c + w * s] ++ 0 :: List.replicate r.length 0))[j + 1]? = some (.int 0) := by
        rw [List.getElem?_map, List.getElem?_append_right (by simp [hl]), List.length_append, hl]; simp
      have e4 : (List.map PyData.int (done ++ [c + w * s] ++ 0 :: List.replicate r.length 0)).set (j + 1) (.int (0 + w)) = List.map PyData.int (done ++ [c + w * s] ++ w :: List.replicate r.length 0) := by
        simp only [List.map_append (l₁ := done ++ [c + w * s])]
        rw [List.set_append_right _ _ (by simp [hl]), List.length_map, List.length_append, hl]
        simp
      have hlen : j < done.length + (r.length + 1 + 1) := by omega
      have hlen2 : j + 1 < done.length + (r.length + 1 + 1) := by omega
      have cs : ((j : Int) + 1) = ((j + 1 : Nat) : Int) := rfl
      have st : b_with_rounds_2 [.sh (.int b), .sh (.int m), .sh (.list (row.map .int)), .sh (.int s), .ow ((done ++ c :: List.replicate (r.length + 1) 0).map .int), .sh (.int (j : Int)), .sh (.int w)] = .nx [.sh (.int b), .sh (.int m), .sh (.list (row.map .int)), .sh (.int s), .ow ((done ++ [c + w * s] ++ w :: List.replicate r.length 0).map .int), .sh (.int (j : Int)), .sh (.int w)] := by
        unfold b_with_rounds_2
        rw [sSeq_of (ρ' := [.sh (.int b), .sh (.int m), .sh (.list (row.map .int)), .sh (.int s), .ow (List.map PyData.int (done ++ [c + w * s] ++ 0 :: List.replicate r.length 0)), .sh (.int (j : Int)), .sh (.int w)]) ?_]
        · rw [sAugI_of (k := j + 1) rfl (by simp) e3 (v := w) (by simp), e4]
          rfl
        · rw [sAugI_of (k := j) rfl (by simp) e1 (v := w * s) (by simp [hs]), e2]
          rfl
      have st' := st
      simp only [List.length_cons] at st' ⊢
      simp only [List.set_cons_succ, List.set_cons_zero]
      rw [st']
      exact ⟨j + 1, r, done ++ [c + w * s], w, _, _, rfl, by simp [hl], by rw [← hc]; simp [comb], rfl⟩
  · rintro ρ ⟨j, r, done, c, s5, s6, e, hl, hc, rfl⟩
    cases r with
    | cons w r => cases e
    | nil => exact ⟨s5, s6, by rw [← hc]; rfl⟩
theorem wr_step (b m s : Int) (hs : smI s = true) (row : List Int) (hl : row.length ≤ 100) (s3 s4 s5 s6 : Sl) (sr : Sl) (hsr : sr = .ow (row.map .int)) : ∃ t4 t5 t6, b_with_rounds_1 [.sh (.int b), .sh (.int m), sr, .sh (.int s), s4, s5, s6] = .nx [.sh (.int b), .sh (.int m), .ow ((comb s 0 row).map .int), .sh (.int s), t4, t5, t6] := by
  subst hsr
  obtain ⟨t5, t6, h⟩ := wr_inner b m s hs row s5 s6
  have hr : (List.replicate (row.length + 1) [PyData.int 0]).flatten = (0 :: List.replicate row.length 0).map PyData.int := by
    have : ∀ n : Nat, (List.replicate n [PyData.int 0]).flatten = (List.replicate n (0 : Int)).map PyData.int := by
      intro n
      induction n with
      | zero => rfl
      | succ n ih => rw [List.replicate_succ, List.flatten_cons, ih, List.replicate_succ]; rfl
    rw [this]; rfl
  refine ⟨.no, t5, t6, ?_⟩
  unfold b_with_rounds_1
  rw [sSeq_of (ρ' := [.sh (.int b), .sh (.int m), .sh (.list (row.map .int)), .sh (.int s), .ow ((0 :: List.replicate row.length 0).map .int), s5, s6]) ?_]
  · rw [sSeq_of (ρ' := [.sh (.int b), .sh (.int m), .sh (.list (row.map .int)), .sh (.int s), .ow ((comb s 0 row).map .int), t5, t6]) ?_]
    · simp
    · have ha : dEnum (dCons (dSh (dVar 2)) dNil) [.sh (.int b), .sh (.int m), .sh (.list (row.map .int)), .sh (.int s), .ow ((0 :: List.replicate row.length 0).map .int), s5, s6] = .ok (enumD (row.map .int), [.sh (.int b), .sh (.int m), .sh (.list (row.map .int)), .sh (.int s), .ow ((0 :: List.replicate row.length 0).map .int), s5, s6]) := by simp
      rw [sFor_ap, ha, onR_ok, h]
  · have g : (s62 ((row.length : Int) + 1) && szOk ([PyData.int 0].length * ((row.length : Int) + 1).toNat)) = true := by
      have a1 : s62 ((row.length : Int) + 1) = true := s62_of (by omega) (by omega)
      have a2 : szOk ([PyData.int 0].length * ((row.length : Int) + 1).toNat) = true := szOk_of (by simp; omega)
      rw [a1, a2]; rfl
    have g2 : dMul (.list [.int 0]) (.int ((row.length : Int) + 1)) = some (.fr ((0 :: List.replicate row.length 0).map .int)) := by
      rw [dMul_list, if_pos g, ← hr]; rfl
    simp [-dMul_list, g2, szOk_of]
theorem e_with_rounds (b : Nat) (hb : b ≤ 40) (m : Int) : F_with_rounds [.int b, .int m] = .ok (.sh (.int (wr b m))) := by
  have hs : ∀ j : Nat, j ≤ 40 → smI (j : Int) = true := fun j h => smI_of (by omega) (by omega)
  have loop : ∃ t3 t4 t5 t6, sLoop (gN 3) b_with_rounds_1 (rngD 0 (b : Int)) [.sh (.int b), .sh (.int m), .ow [.int 1], .no, .no, .no, .no] = .nx [.sh (.int b), .sh (.int m), .ow ((wrow b).map .int), t3, t4, t5, t6] := by
    rw [rngD_nat, List.range_eq_range']
    refine sLoop_map (fun i : Nat => PyData.int (i : Int)) (fun xs ρ => ∃ j n s3 s4 s5 s6, xs = List.range' j n ∧ j + n = b ∧ ρ = [.sh (.int b), .sh (.int m), .ow ((wrow j).map .int), s3, s4, s5, s6])
      (fun o => ∃ t3 t4 t5 t6, o = .nx [.sh (.int b), .sh (.int m), .ow ((wrow b).map .int), t3, t4, t5, t6]) ?_ ?_ _ _ ⟨0, b, .no, .no, .no, .no, rfl, by omega, rfl⟩
    · rintro x xs ρ ⟨j, n, s3, s4, s5, s6, e, hj, rfl⟩
      obtain ⟨k, rfl, rfl, rfl⟩ := range'_cons e
      obtain ⟨t4, t5, t6, h⟩ := wr_step b m (x : Int) (hs x (by omega)) (wrow x) (by rw [wrow_length]; omega) .no s4 s5 s6 _ rfl
      refine ⟨_, rfl, ?_⟩
      simp only [List.set_cons_succ, List.set_cons_zero]
      rw [h]
      exact ⟨x + 1, k, _, t4, t5, t6, rfl, by omega, rfl⟩
    · rintro ρ ⟨j, n, s3, s4, s5, s6, e, hj, rfl⟩
      cases n with
      | succ n => rw [List.range'_succ] at e; cases e
      | zero =>
        have : j = b := by omega
        subst this
        exact ⟨_, _, _, _, rfl⟩
  obtain ⟨t3, t4, t5, t6, hloop⟩ := loop
  have hsb : s62 (b : Int) = true := s62_of (by omega) (by omega)
  unfold F_with_rounds f_with_rounds runP
  rw [show startE 7 [PyData.int b, PyData.int m] = [.sh (.int b), .sh (.int m), .no, .no, .no, .no, .no] from rfl]
  rw [sSeq_of (ρ' := [.sh (.int b), .sh (.int m), .no, .no, .no, .no, .no]) (by simp [e_need_boxes (a := (b : Int)) (lo := 0) (by omega) (by omega)])]
  rw [sSeq_of (ρ' := [.sh (.int b), .sh (.int m), .no, .no, .no, .no, .no]) (by simp [e_need_whole])]
  rw [sSeq_of (ρ' := [.sh (.int b), .sh (.int m), .ow [.int 1], .no, .no, .no, .no]) (by simp [szOk_of])]
  rw [sSeq_of (ρ' := [.sh (.int b), .sh (.int m), .ow ((wrow b).map .int), t3, t4, t5, t6]) ?_]
  · unfold wr
    by_cases h0 : 0 ≤ m
    · by_cases h1 : m ≤ b
      · have e : atI (List.map PyData.int (wrow b)) m = some (.int ((wrow b).getD m.toNat 0)) := by
          have e1 : m = ((m.toNat : Nat) : Int) := by omega
          have e2 : m.toNat < (wrow b).length := by rw [wrow_length]; omega
          generalize m.toNat = k at e1 e2
          subst e1
          rw [atI_cast, List.getElem?_map, List.getElem?_eq_getElem e2]
          simp [e2]
        simp [h0, h1, e]
      · simp [h0, h1]
    · simp [h0]
  · have ha : (dRng1 (dCons (dSh (dVar 0)) dNil)) [.sh (.int b), .sh (.int m), .ow [.int 1], .no, .no, .no, .no] = .ok (rngD 0 (b : Int), [.sh (.int b), .sh (.int m), .ow [.int 1], .no, .no, .no, .no]) := by
      simp [hsb]
    rw [sFor_ap, ha, onR_ok, hloop]
end DL

set_option Elab.async false
set_option linter.all false
set_option maxRecDepth 100000
set_option maxHeartbeats 4000000
namespace DL
open PySem PySem.Spec PyProof.Rows L2
variable [Wr]
theorem rngD_two (m : Nat) : rngD 2 ((m : Int) + 1) = (List.range' 0 (m - 1)).map fun i : Nat => PyData.int ((i : Int) + 2) := by
  unfold rngD
  rw [show ((m : Int) + 1 - 2).toNat = m - 1 by omega, List.range_eq_range']
  apply List.map_congr_left
  intro i _
  rw [Int.add_comm]
theorem fac_end {j m : Nat} (h : j + 0 = m - 1) : fac (j + 1) = fac m := by
  cases m with
  | zero => have : j = 0 := by omega
            subst this; rfl
  | succ m => have : j = m := by omega
              rw [this]
theorem e_product (m : Nat) (hm : m ≤ 40) : F_product [.int m] = .ok (.sh (.int (fac m))) := by
  have loop : ∃ t2, sLoop (gN 2) b_product_1 (rngD 2 ((m : Int) + 1)) [.sh (.int m), .sh (.int 1), .no] = .nx [.sh (.int m), .sh (.int (fac m)), t2] := by
    rw [rngD_two]
    refine sLoop_map (fun i : Nat => PyData.int ((i : Int) + 2)) (fun xs ρ => ∃ j n s2, xs = List.range' j n ∧ j + n = m - 1 ∧ ρ = [.sh (.int m), .sh (.int (fac (j + 1))), s2])
      (fun o => ∃ t2, o = .nx [.sh (.int m), .sh (.int (fac m)), t2]) ?_ ?_ _ _ ⟨0, m - 1, .no, rfl, by omega, rfl⟩
    · rintro x xs ρ ⟨j, n, s2, e, hj, rfl⟩
      obtain ⟨k, rfl, rfl, rfl⟩ := range'_cons e
      refine ⟨_, rfl, ?_⟩
      simp only [List.set_cons_succ, List.set_cons_zero]
      have h1 : smI ((x : Int) + 2) = true := smI_of (by omega) (by omega)
      have : b_product_1 [.sh (.int m), .sh (.int (fac (x + 1))), .sh (.int ((x : Int) + 2))] = .nx [.sh (.int m), .sh (.int (fac (x + 2))), .sh (.int ((x : Int) + 2))] := by
        unfold b_product_1
        simp [h1, fac]
        rfl
      rw [this]
      exact ⟨x + 1, k, _, rfl, by omega, rfl⟩
    · rintro ρ ⟨j, n, s2, e, hj, rfl⟩
      cases n with
      | succ n => rw [List.range'_succ] at e; cases e
      | zero => exact ⟨s2, by rw [fac_end hj]⟩
  obtain ⟨t2, hloop⟩ := loop
  have h1 : s62 2 = true := by decide
  have h2 : s62 ((m : Int) + 1) = true := s62_of (by omega) (by omega)
  unfold F_product f_product runP
  rw [show startE 3 [PyData.int m] = [.sh (.int m), .no, .no] from rfl]
  rw [sSeq_of (ρ' := [.sh (.int m), .sh (.int 1), .no]) (by simp)]
  rw [sSeq_of (ρ' := [.sh (.int m), .sh (.int (fac m)), t2]) ?_]
  · simp
  · have ha : (dRng2 (dCons (dSh (dC (.int 2))) (dCons (dSh (dOp dAdd (dSh (dVar 0)) (dSh (dC (.int 1))))) dNil))) [.sh (.int m), .sh (.int 1), .no] = .ok (rngD 2 ((m : Int) + 1), [.sh (.int m), .sh (.int 1), .no]) := by
      simp [h1, h2]
    rw [sFor_ap, ha, onR_ok, hloop]
theorem e_with_size (b : Nat) (h1 : 1 ≤ b) (h2 : b ≤ 40) (m : Int) : F_with_size [.int b, .int m] = .ok (.sh (.int (if 1 ≤ m ∧ m ≤ b then fac (b - 1) else 0))) := by
  have hb : ((b : Int) - 1) = ((b - 1 : Nat) : Int) := by omega
  have hp := e_product (b - 1) (by omega)
  unfold F_with_size f_with_size runP
  rw [show startE 2 [PyData.int b, PyData.int m] = [.sh (.int b), .sh (.int m)] from rfl]
  rw [sSeq_of (ρ' := [.sh (.int b), .sh (.int m)]) (by simp [e_need_boxes (a := (b : Int)) (lo := 1) (by omega) (by omega)])]
  rw [sSeq_of (ρ' := [.sh (.int b), .sh (.int m)]) (by simp [e_need_whole])]
  by_cases h0 : 1 ≤ m
  · by_cases h3 : m ≤ b
    · simp [h0, h3, hb, hp]
    · simp [h0, h3]
  · simp [h0]
theorem e_together (b m : Nat) (h1 : 1 ≤ m) (h2 : m ≤ b) (h3 : b ≤ 40) : F_together [.int b, .int m] = .ok (.sh (.int (fac b / (m : Int)))) := by
  have hp := e_product b h3
  have hs : s30 (m : Int) = true := s30_of (by omega) (by omega)
  have h4 : 0 < m := by omega
  unfold F_together f_together runP
  rw [show startE 2 [PyData.int b, PyData.int m] = [.sh (.int b), .sh (.int m)] from rfl]
  rw [sSeq_of (ρ' := [.sh (.int b), .sh (.int m)]) (by simp [e_need_boxes (a := (b : Int)) (lo := 1) (by omega) (by omega)])]
  rw [sSeq_of (ρ' := [.sh (.int b), .sh (.int m)]) (by
    have a1 : (1 : Int) ≤ (m : Int) := by omega
    simp [e_within, a1, h2])]
  simp [hp, hs, h4]
/-! the counts, over all sizes -/
theorem chk_sum : ∀ b, b < 41 → (wrow b).sum = fac b := by decide +kernel
theorem chk_last : ∀ b, b < 41 → (wrow b).getD b 0 = 1 := by decide +kernel
theorem chk_many : ∀ b, b < 41 → ((pairsF 0 (wrow b)).map fun p => (p.1 : Int) * p.2).sum = ((List.range b).map fun i : Nat => fac b / ((i : Int) + 1)).sum := by decide +kernel
theorem chk_div : ∀ b, b < 41 → ∀ m, m < 41 → m = 0 ∨ b < m ∨ fac b / (m : Int) * (m : Int) = fac b := by decide +kernel
theorem chk_one : ∀ b, b < 41 → b = 0 ∨ fac b / (b : Int) = (wrow b).getD 1 0 := by decide +kernel
theorem chk_size : ∀ b, b < 41 → b = 0 ∨ (fac b / (b : Int) = fac (b - 1) ∧ (b : Int) * fac (b - 1) = fac b) := by decide +kernel
theorem wr_neg (b : Nat) : wr b (-1) = 0 := by simp [wr]
theorem wr_nat (b m : Nat) : wr b (m : Int) = if m ≤ b then (wrow b).getD m 0 else 0 := by
  unfold wr
  by_cases h : m ≤ b
  · rw [if_pos ⟨by omega, by omega⟩, if_pos h]; rfl
  · rw [if_neg (by omega), if_neg h]
theorem wr_out {b m : Nat} (h : b < m) : (wrow b).getD m 0 = 0 := by
  simp [List.getElem?_eq_none (show (wrow b).length ≤ m by rw [wrow_length]; omega)]
theorem wr_nat' (b m : Nat) : wr b (m : Int) = (wrow b).getD m 0 := by
  rw [wr_nat]
  split
  · rfl
  · rw [wr_out (by omega)]
theorem wr_rec (b m : Nat) : wr (b + 1) (m : Int) = wr b ((m : Int) - 1) + (b : Int) * wr b (m : Int) := by
  rw [wr_nat', wr_nat']
  show (comb (b : Int) 0 (wrow b)).getD m 0 = _
  rw [comb_get, Int.mul_comm]
  congr 1
  cases m with
  | zero => simp [wr]
  | succ m =>
    rw [show ((m + 1 : Nat) : Int) - 1 = (m : Int) by omega, wr_nat']
    rfl
end DL

set_option Elab.async false
set_option linter.all false
set_option maxRecDepth 100000
set_option maxHeartbeats 4000000
namespace DL
open PySem PySem.Spec PyProof.Rows L2
variable [Wr]
theorem rows_eq (b : Nat) : (List.range (b + 1)).map (fun m : Nat => PyData.int (wr b m)) = (wrow b).map .int := by
  apply List.ext_getElem
  · simp [wrow_length]
  · intro i h1 h2
    have : i < (wrow b).length := by simpa using h2
    simp [wr_nat', this]
theorem law_every (f : D) (bs : List D) (b : Nat) (hb : b ≤ 40) (s4 s5 s6 s7 s8 s9 s10 : Sl) : ∃ t4, sFor (dRng2 (dCons (dSh (dC (.int 2))) (dCons (dSh (dOp dAdd (dSh (dVar 2)) (dSh (dC (.int 1))))) dNil))) (gN 4) b_law_2 [.sh f, .ow bs, .sh (.int b), .sh (.int 1), s4, s5, s6, s7, s8, s9, s10] = .nx [.sh f, .ow bs, .sh (.int b), .sh (.int (fac b)), t4, s5, s6, s7, s8, s9, s10] := by
  have h1 : s62 2 = true := by decide
  have h2 : s62 ((b : Int) + 1) = true := s62_of (by omega) (by omega)
  have ha : (dRng2 (dCons (dSh (dC (.int 2))) (dCons (dSh (dOp dAdd (dSh (dVar 2)) (dSh (dC (.int 1))))) dNil))) [.sh f, .ow bs, .sh (.int b), .sh (.int 1), s4, s5, s6, s7, s8, s9, s10] = .ok (rngD 2 ((b : Int) + 1), [.sh f, .ow bs, .sh (.int b), .sh (.int 1), s4, s5, s6, s7, s8, s9, s10]) := by
    simp [h1, h2]
  rw [sFor_ap, ha, onR_ok, rngD_two]
  refine sLoop_map (fun i : Nat => PyData.int ((i : Int) + 2)) (fun xs ρ => ∃ j n t4, xs = List.range' j n ∧ j + n = b - 1 ∧ ρ = [.sh f, .ow bs, .sh (.int b), .sh (.int (fac (j + 1))), t4, s5, s6, s7, s8, s9, s10])
    (fun o => ∃ t4, o = .nx [.sh f, .ow bs, .sh (.int b), .sh (.int (fac b)), t4, s5, s6, s7, s8, s9, s10]) ?_ ?_ _ _ ⟨0, b - 1, s4, rfl, by omega, rfl⟩
  · rintro x xs ρ ⟨j, n, t4, e, hj, rfl⟩
    obtain ⟨k, rfl, rfl, rfl⟩ := range'_cons e
    refine ⟨_, rfl, ?_⟩
    simp only [List.set_cons_succ, List.set_cons_zero]
    have h1 : smI ((x : Int) + 2) = true := smI_of (by omega) (by omega)
    have : b_law_2 [.sh f, .ow bs, .sh (.int b), .sh (.int (fac (x + 1))), .sh (.int ((x : Int) + 2)), s5, s6, s7, s8, s9, s10] = .nx [.sh f, .ow bs, .sh (.int b), .sh (.int (fac (x + 2))), .sh (.int ((x : Int) + 2)), s5, s6, s7, s8, s9, s10] := by
      unfold b_law_2
      simp [h1, fac]
      rfl
    rw [this]
    exact ⟨x + 1, k, _, rfl, by omega, rfl⟩
  · rintro ρ ⟨j, n, t4, e, hj, rfl⟩
    cases n with
    | succ n => rw [List.range'_succ] at e; cases e
    | zero => exact ⟨t4, by rw [fac_end hj]⟩
theorem take_nat {bs : List D} (h : Bag bs) {m : Nat} (hm : 0 < m) : ∃ (r : Nat) (bs' : List D), F_Ltake bs [.int (m : Int)] = .ok (.sh (.int (r : Int)), bs') ∧ r < m ∧ Bag bs' := by
  obtain ⟨r, bs', h1, h2, h3, h4⟩ := e_take h (show (0 : Int) < (m : Int) by omega)
  have e : ((r.toNat : Nat) : Int) = r := by omega
  exact ⟨r.toNat, bs', by rw [h1, e], by omega, h4⟩
theorem lc_rows (f : D) (bs : List D) (b : Nat) (hb : b ≤ 40) (e : Int) (s4 s5 s6 s7 s8 s9 s10 : Sl) :
    dLc (dRng1 (dCons (dSh (dOp dAdd (dSh (dVar 2)) (dSh (dC (.int 1))))) dNil)) (gN 6) (fun ρ => .ok (true, ρ)) (dSh (dCall0 2 F_with_rounds (dCons (dSh (dVar 2)) (dCons (dSh (dVar 6)) dNil)))) [6] [.sh f, .ow bs, .sh (.int b), .sh (.int e), s4, s5, s6, s7, s8, s9, s10] = .ok (.fr ((wrow b).map .int), [.sh f, .ow bs, .sh (.int b), .sh (.int e), s4, s5, bkS s6, s7, s8, s9, s10]) := by
  have h2 : s62 ((b : Int) + 1) = true := s62_of (by omega) (by omega)
  rw [dLc_m (fun m : Nat => PyData.int (m : Int)) (fun m : Nat => PyData.int (wr b m)) (List.range (b + 1)) (ρ1 := [.sh f, .ow bs, .sh (.int b), .sh (.int e), s4, s5, s6, s7, s8, s9, s10]) ?_ (by simp; omega) ?_, rows_eq]
  · cases s6 <;> rfl
  · simp [h2]
    exact rngD_nat (b + 1)
  · intro m hm
    refine ⟨_, [.sh f, .ow bs, .sh (.int b), .sh (.int e), s4, s5, .sh (.int m), s7, s8, s9, s10], rfl, ?_, rfl⟩
    simp [wipeE, e_with_rounds b hb]
theorem lc_mul (f : D) (bs : List D) (b : Nat) (hb : b ≤ 40) (e : Int) (s4 s6 s7 s8 s9 s10 : Sl) :
    dLc (dEnum (dCons (dSh (dVar 5)) dNil)) (gT 2 (gsCons (gN 6) (gsCons (gN 9) gsNil))) (fun ρ => .ok (true, ρ)) (dSh (dOp dMul (dSh (dVar 6)) (dSh (dVar 9)))) [6, 9] [.sh f, .ow bs, .sh (.int b), .sh (.int e), s4, .sh (.list ((wrow b).map .int)), s6, s7, s8, s9, s10] = .ok (.fr (((pairsF 0 (wrow b)).map fun p => (p.1 : Int) * p.2).map .int), [.sh f, .ow bs, .sh (.int b), .sh (.int e), s4, .sh (.list ((wrow b).map .int)), bkS s6, s7, s8, bkS s9, s10]) := by
  have hpl : ∀ (r : List Int) (j : Nat), (pairsF j r).length = r.length := by
    intro r
    induction r with
    | nil => intro j; rfl
    | cons w r ih => intro j; simp [pairsF, ih]
  have hpm : ∀ (r : List Int) (j : Nat) (p), p ∈ pairsF j r → p.1 < j + r.length := by
    intro r
    induction r with
    | nil => intro j p h; cases h
    | cons w r ih =>
      intro j p h
      rcases List.mem_cons.mp h with rfl | h
      · simp
      · have := ih (j + 1) p h
        simp; omega
  rw [dLc_m encP (fun p => PyData.int ((p.1 : Int) * p.2)) (pairsF 0 (wrow b)) (ρ1 := [.sh f, .ow bs, .sh (.int b), .sh (.int e), s4, .sh (.list ((wrow b).map .int)), s6, s7, s8, s9, s10]) ?_ (by rw [hpl, wrow_length]; omega) ?_]
  · rw [List.map_map]
    cases s6 <;> cases s9 <;> rfl
  · simp [enum_pairs]
  · intro p hp
    have := hpm _ _ p hp
    rw [wrow_length] at this
    have hs : smI (p.1 : Int) = true := smI_of (by omega) (by omega)
    refine ⟨_, [.sh f, .ow bs, .sh (.int b), .sh (.int e), s4, .sh (.list ((wrow b).map .int)), .sh (.int p.1), s7, s8, .sh (.int p.2), s10], rfl, ?_, rfl⟩
    simp [wipeE, hs]
theorem lc_div (f : D) (bs : List D) (b : Nat) (hb : b ≤ 40) (e : Int) (s4 s5 s6 s7 s8 s9 s10 : Sl) :
    dLc (dRng2 (dCons (dSh (dC (.int 1))) (dCons (dSh (dOp dAdd (dSh (dVar 2)) (dSh (dC (.int 1))))) dNil))) (gN 10) (fun ρ => .ok (true, ρ)) (dSh (dOp dDiv (dSh (dVar 3)) (dSh (dVar 10)))) [10] [.sh f, .ow bs, .sh (.int b), .sh (.int e), s4, s5, s6, s7, s8, s9, s10] = .ok (.fr (((List.range b).map fun i : Nat => e / ((i : Int) + 1)).map .int), [.sh f, .ow bs, .sh (.int b), .sh (.int e), s4, s5, s6, s7, s8, s9, bkS s10]) := by
  have h1 : s62 1 = true := by decide
  have h2 : s62 ((b : Int) + 1) = true := s62_of (by omega) (by omega)
  rw [dLc_m (fun m : Nat => PyData.int ((m : Int) + 1)) (fun m : Nat => PyData.int (e / ((m : Int) + 1))) (List.range b) (ρ1 := [.sh f, .ow bs, .sh (.int b), .sh (.int e), s4, s5, s6, s7, s8, s9, s10]) ?_ (by simp; omega) ?_, List.map_map]
  · cases s10 <;> rfl
  · simp [h1, h2, rngD]
    intro a _
    omega
  · intro m hm
    have hm' := List.mem_range.mp hm
    have h3 : s30 ((m : Int) + 1) = true := s30_of (by omega) (by omega)
    have h4 : (0 : Int) < (m : Int) + 1 := by omega
    refine ⟨_, [.sh f, .ow bs, .sh (.int b), .sh (.int e), s4, s5, s6, s7, s8, s9, .sh (.int ((m : Int) + 1))], rfl, ?_, rfl⟩
    simp [wipeE, h3, h4]
theorem lc_size (f : D) (bs : List D) (b : Nat) (h1 : 1 ≤ b) (hb : b ≤ 40) (e : Int) (s4 s5 s6 s7 s8 s9 s10 : Sl) :
    dLc (dRng1 (dCons (dSh (dOp dAdd (dSh (dVar 2)) (dSh (dC (.int 2))))) dNil)) (gN 10) (fun ρ => .ok (true, ρ)) (dSh (dCall0 2 F_with_size (dCons (dSh (dVar 2)) (dCons (dSh (dVar 10)) dNil)))) [10] [.sh f, .ow bs, .sh (.int b), .sh (.int e), s4, s5, s6, s7, s8, s9, s10] = .ok (.fr ((0 :: List.replicate b (fac (b - 1)) ++ [0]).map .int), [.sh f, .ow bs, .sh (.int b), .sh (.int e), s4, s5, s6, s7, s8, s9, bkS s10]) := by
  have h2 : s62 ((b : Int) + 2) = true := s62_of (by omega) (by omega)
  have hl : (List.range (b + 2)).map (fun m : Nat => PyData.int (if 1 ≤ (m : Int) ∧ (m : Int) ≤ b then fac (b - 1) else 0)) = (0 :: List.replicate b (fac (b - 1)) ++ [0]).map .int := by
    rw [List.range_succ, List.range_succ_eq_map]
    simp only [List.map_append, List.map_cons, List.map_map, List.map_nil, List.map_replicate]
    congr 1
    · congr 1
      apply List.ext_getElem
      · simp
      · intro i h1 h2
        have : i < b := by simpa using h1
        simp
        intro h
        omega
    · simp
      intro h
      omega
  rw [dLc_m (fun m : Nat => PyData.int (m : Int)) (fun m : Nat => PyData.int (if 1 ≤ (m : Int) ∧ (m : Int) ≤ b then fac (b - 1) else 0)) (List.range (b + 2)) (ρ1 := [.sh f, .ow bs, .sh (.int b), .sh (.int e), s4, s5, s6, s7, s8, s9, s10]) ?_ (by simp; omega) ?_, hl]
  · cases s10 <;> rfl
  · simp [h2]
    exact rngD_nat (b + 2)
  · intro m hm
    refine ⟨_, [.sh f, .ow bs, .sh (.int b), .sh (.int e), s4, s5, s6, s7, s8, s9, .sh (.int m)], rfl, ?_, rfl⟩
    simp [wipeE, e_with_size b h1 hb]
end DL

set_option Elab.async false
set_option linter.all false
set_option maxRecDepth 100000
set_option maxHeartbeats 4000000
namespace DL
open PySem PySem.Spec PyProof.Rows L2
variable [Wr]
theorem flat1 (n : Nat) (x : D) : (List.replicate n [x]).flatten = List.replicate n x := by
  induction n with
  | zero => rfl
  | succ n ih => rw [List.replicate_succ, List.flatten_cons, ih, List.replicate_succ]; rfl
theorem law_body (f : D) (bs : List D) (hbag : Bag bs) (s2 s3 s4 s5 s6 s7 s8 s9 s10 : Sl) : ∃ bs' t2 t3 t4 t5 t6 t7 t8 t9 t10, Bag bs' ∧ b_law_1 [.sh f, .ow bs, s2, s3, s4, s5, s6, s7, s8, s9, s10] = .nx [.sh f, .ow bs', t2, t3, t4, t5, t6, t7, t8, t9, t10] := by
  obtain ⟨b, bs1, ht1, hb, hbag1⟩ := take_nat hbag (m := 41) (by decide)
  replace ht1 : F_Ltake bs [.int 41] = .ok (.sh (.int (b : Int)), bs1) := ht1
  have hb' : b ≤ 40 := by omega
  obtain ⟨t4, he⟩ := law_every f bs1 b hb' s4 s5 s6 s7 s8 s9 s10
  unfold b_law_1
  rw [sSeq_of (ρ' := [.sh f, .ow bs1, .sh (.int b), s3, s4, s5, s6, s7, s8, s9, s10]) (by simp [isL, ht1])]
  rw [sSeq_of (ρ' := [.sh f, .ow bs1, .sh (.int b), .sh (.int 1), s4, s5, s6, s7, s8, s9, s10]) (by simp)]
  rw [sSeq_of he]
  rw [sSeq_of (ρ' := [.sh f, .ow bs1, .sh (.int b), .sh (.int (fac b)), t4, .ow ((wrow b).map .int), bkS s6, s7, s8, s9, s10]) (by simp [-dLc_ap, lc_rows f bs1 b hb'])]
  rw [sSeq_of (ρ' := [.sh f, .ow bs1, .sh (.int b), .sh (.int (fac b)), t4, .sh (.list ((wrow b).map .int)), bkS s6, s7, s8, s9, s10]) (by
    have h1 := chk_last b hb
    simp [chk_sum b hb, e_with_rounds b hb', wr_neg, wr_nat', -List.getD_eq_getElem?_getD, h1])]
  rw [sSeq_of (ρ' := [.sh f, .ow bs1, .sh (.int b), .sh (.int (fac b)), t4, .sh (.list ((wrow b).map .int)), bkS (bkS s6), s7, s8, bkS s9, bkS s10]) (by
    simp [-dLc_ap, lc_mul f bs1 b hb', lc_div f bs1 b hb', chk_many b hb, -List.map_map])]
  by_cases hb0 : b = 0
  · subst hb0
    exact ⟨bs1, .sh (.int ((0 : Nat) : Int)), .sh (.int (fac 0)), t4, .sh (.list ((wrow 0).map .int)), bkS (bkS s6), s7, s8, bkS s9, bkS s10, hbag1, by simp⟩
  · have hpos : 0 < b := by omega
    obtain ⟨m, bs2, ht2, hm, hbag2⟩ := take_nat hbag1 (m := b + 2) (by omega)
    obtain ⟨m2, bs3, ht3, hm2, hbag3⟩ := take_nat hbag2 (m := b) hpos
    replace ht2 : F_Ltake bs1 [.int ((b : Int) + 2)] = .ok (.sh (.int (m : Int)), bs2) := ht2
    obtain ⟨c, rfl⟩ : ∃ c, b = c + 1 := ⟨b - 1, by omega⟩
    have hc : (((c + 1 : Nat) : Int) - 1) = (c : Int) := by omega
    have hsc : smI (c : Int) = true := smI_of (by omega) (by omega)
    rw [sIf_ap]
    rw [show (dB (dSh (dOp dGt (dSh (dVar 2)) (dSh (dC (.int 0)))))) [.sh f, .ow bs1, .sh (.int ((c + 1 : Nat) : Int)), .sh (.int (fac (c + 1))), t4, .sh (.list ((wrow (c + 1)).map .int)), bkS (bkS s6), s7, s8, bkS s9, bkS s10] = .ok (true, [.sh f, .ow bs1, .sh (.int ((c + 1 : Nat) : Int)), .sh (.int (fac (c + 1))), t4, .sh (.list ((wrow (c + 1)).map .int)), bkS (bkS s6), s7, s8, bkS s9, bkS s10]) by simp]
    rw [onR_ok, if_pos rfl]
    rw [sSeq_of (ρ' := [.sh f, .ow bs2, .sh (.int ((c + 1 : Nat) : Int)), .sh (.int (fac (c + 1))), t4, .sh (.list ((wrow (c + 1)).map .int)), .sh (.int m), s7, s8, bkS s9, bkS s10]) (by simp only [Int.natCast_add, Int.natCast_one] at ht2; simp [isL, ht2])]
    rw [sSeq_of (ρ' := [.sh f, .ow bs2, .sh (.int ((c + 1 : Nat) : Int)), .sh (.int (fac (c + 1))), t4, .sh (.list ((wrow (c + 1)).map .int)), .sh (.int m), .sh (.int (wr (c + 1) m)), s8, bkS s9, bkS s10]) (by
      rw [wr_rec]
      have e1 := e_with_rounds c (by omega)
      simp [hsc, e1])]
    rw [sSeq_of (ρ' := [.sh f, .ow bs2, .sh (.int ((c + 1 : Nat) : Int)), .sh (.int (fac (c + 1))), t4, .sh (.list ((wrow (c + 1)).map .int)), .sh (.int m), .sh (.int (wr (c + 1) m)), s8, bkS s9, bkS s10]) (by
      have e1 := e_with_rounds (c + 1) hb'
      simp only [Int.natCast_add, Int.natCast_one] at e1
      simp [e1])]
    rw [sSeq_of (ρ' := [.sh f, .ow bs2, .sh (.int ((c + 1 : Nat) : Int)), .sh (.int (fac (c + 1))), t4, .sh (.list ((wrow (c + 1)).map .int)), .sh (.int m), .sh (.int (wr (c + 1) m)), .ow ((0 :: List.replicate (c + 1) (fac c) ++ [0]).map .int), bkS s9, bkS (bkS s10)]) (by
      have e1 := lc_size f bs2 (c + 1) (by omega) hb'
      simp only [Nat.add_sub_cancel] at e1
      rw [sAsg_ap, e1]
      rfl)]
    have hsz := (chk_size (c + 1) hb).resolve_left hb0
    simp only [Nat.add_sub_cancel] at hsz
    have hsum : (0 :: List.replicate (c + 1) (fac c) ++ [0]).sum = fac (c + 1) := by
      have : ∀ (n : Nat) (x : Int), (List.replicate n x).sum = (n : Int) * x := by
        intro n x
        induction n with
        | zero => simp
        | succ n ih => rw [List.replicate_succ, List.sum_cons, ih]; simp [Int.add_mul]; omega
      rw [← hsz.2]
      simp only [List.cons_append, List.sum_cons, List.sum_append, this, List.sum_nil]
      omega
    have hs62 : s62 ((c + 1 : Nat) : Int) = true := s62_of (by omega) (by omega)
    have hs30 : s30 ((c + 1 : Nat) : Int) = true := s30_of (by omega) (by omega)
    have hmul : dMul (.list [.int (fac c)]) (.int ((c + 1 : Nat) : Int)) = some (.fr ((List.replicate (c + 1) (fac c)).map .int)) := by
      rw [dMul_list, hs62, szOk_of (by simp; omega), Int.toNat_natCast, flat1, List.map_replicate]
      rfl
    have hdiv : dDiv (.int (fac (c + 1))) (.int ((c + 1 : Nat) : Int)) = some (.sh (.int (fac c))) := by
      rw [dDiv_int, hs30, decide_eq_true (show (0 : Int) < ((c + 1 : Nat) : Int) by omega), hsz.1]
      rfl
    generalize hcc : ((c + 1 : Nat) : Int) = C at *
    rw [sSeq_of (ρ' := [.sh f, .ow bs2, .sh (.int C), .sh (.int (fac (c + 1))), t4, .sh (.list ((wrow (c + 1)).map .int)), .sh (.int m), .sh (.int (wr (c + 1) m)), .sh (.list ((0 :: List.replicate (c + 1) (fac c) ++ [0]).map .int)), bkS s9, bkS (bkS s10)]) (by
      have e1 : dAdd (.list [.int 0]) (.list ((List.replicate (c + 1) (fac c)).map .int)) = some (.fr ((0 :: List.replicate (c + 1) (fac c)).map .int)) := by
        rw [dAdd_list, szOk_of (by simp; omega)]; rfl
      have e2 : dAdd (.list ((0 :: List.replicate (c + 1) (fac c)).map .int)) (.list [.int 0]) = some (.fr ((0 :: List.replicate (c + 1) (fac c) ++ [0]).map .int)) := by
        rw [dAdd_list, szOk_of (by simp; omega), if_pos rfl, List.map_append]; rfl
      generalize hR : List.replicate (c + 1) (fac c) = R at *
      generalize h0 : 0 :: R = L0 at *
      generalize h1 : L0 ++ [0] = L1 at *
      have e3 := dNe_ints L1 L1
      simp [-dAdd_list, -dMul_list, -dDiv_int, -List.map_append, -List.map_cons, szOk_of, hdiv, hmul, e1, e2, e3, hsum, dSumF_ints])]
    have hts : F_Ltake bs2 [.int C] = .ok (.sh (.int (m2 : Int)), bs3) := ht3
    rw [sSeq_of (ρ' := [.sh f, .ow bs3, .sh (.int C), .sh (.int (fac (c + 1))), t4, .sh (.list ((wrow (c + 1)).map .int)), .sh (.int ((m2 + 1 : Nat) : Int)), .sh (.int (wr (c + 1) m)), .sh (.list ((0 :: List.replicate (c + 1) (fac c) ++ [0]).map .int)), bkS s9, bkS (bkS s10)]) (by
      simp [isL, hts]; omega)]
    have g1 := e_together (c + 1) (m2 + 1) (by omega) (by omega) hb'
    have g2 := e_together (c + 1) (c + 1) (by omega) (by omega) hb'
    have g3 := e_with_rounds (c + 1) hb' 1
    have g4 := ((chk_div (c + 1) hb (m2 + 1) (by omega)).resolve_left (by omega)).resolve_left (by omega)
    have g5 := (chk_one (c + 1) hb).resolve_left (by omega)
    have g6 : wr (c + 1) 1 = (wrow (c + 1)).getD 1 0 := wr_nat' (c + 1) 1
    have hsm : smI ((m2 + 1 : Nat) : Int) = true := smI_of (by omega) (by omega)
    rw [hcc] at g1 g2 g3 g5
    generalize hmm : ((m2 + 1 : Nat) : Int) = M at *
    refine ⟨bs3, .sh (.int C), .sh (.int (fac (c + 1))), t4, .sh (.list ((wrow (c + 1)).map .int)), .sh (.int M), .sh (.int (wr (c + 1) m)), .sh (.list ((0 :: List.replicate (c + 1) (fac c) ++ [0]).map .int)), bkS s9, bkS (bkS s10), hbag3, ?_⟩
    simp [g1, g2, g3, g4, g5, g6, hsm, -List.getD_eq_getElem?_getD]
theorem law_k10 (ns : List Int) (hn : ns.length ≤ 63) : F_law [frzD ns] = .ok (.sh (.bool true)) := by
  obtain ⟨bss, hbss, hF⟩ := e_bags ns hn 8 (by decide)
  replace hF : F_Lbags [frzD ns, .int 8] = some bss := hF
  unfold F_law f_law runP
  rw [show startE 11 [frzD ns] = [.sh (frzD ns), .no, .no, .no, .no, .no, .no, .no, .no, .no, .no] from rfl]
  have loop : ∃ ρ, sLoopB 1 b_law_1 bss [.sh (frzD ns), .no, .no, .no, .no, .no, .no, .no, .no, .no, .no] = .nx ρ := by
    refine sLoopB_rel (fun bss ρ => (∀ bs ∈ bss, Bag bs) ∧ ∃ s1 s2 s3 s4 s5 s6 s7 s8 s9 s10, ρ = [.sh (frzD ns), s1, s2, s3, s4, s5, s6, s7, s8, s9, s10]) (fun o => ∃ ρ, o = .nx ρ) ?_ ?_ _ _ ⟨hbss, _, _, _, _, _, _, _, _, _, _, rfl⟩
    · rintro bs bss ρ ⟨hb, s1, s2, s3, s4, s5, s6, s7, s8, s9, s10, rfl⟩
      obtain ⟨bs', t2, t3, t4, t5, t6, t7, t8, t9, t10, h1, h2⟩ := law_body (frzD ns) bs (hb bs (by simp)) s2 s3 s4 s5 s6 s7 s8 s9 s10
      simp only [List.set_cons_succ, List.set_cons_zero]
      rw [h2]
      exact ⟨fun b hb' => hb b (by simp [hb']), _, _, _, _, _, _, _, _, _, _, rfl⟩
    · rintro ρ ⟨_, _⟩
      exact ⟨ρ, rfl⟩
  obtain ⟨ρ, hloop⟩ := loop
  rw [sSeq_of (ρ' := ρ) (by simp [hF, hloop])]
  have g1 := e_with_rounds 4 (by decide) 2
  have g2 := e_together 5 2 (by decide) (by decide) (by decide)
  have g3 := e_with_size 6 (by decide) (by decide) 3
  have v1 : wr 4 2 = 11 := by decide +kernel
  have v2 : fac 5 / ((2 : Nat) : Int) = 60 := by decide +kernel
  have v3 : (if 1 ≤ (3 : Int) ∧ (3 : Int) ≤ ((6 : Nat) : Int) then fac (6 - 1) else 0) = 120 := by decide +kernel
  rw [v1] at g1
  rw [v2] at g2
  rw [v3] at g3
  replace g1 : F_with_rounds [.int 4, .int 2] = .ok (.sh (.int 11)) := g1
  replace g2 : F_together [.int 5, .int 2] = .ok (.sh (.int 60)) := g2
  replace g3 : F_with_size [.int 6, .int 3] = .ok (.sh (.int 120)) := g3
  simp [g1, g2, g3]
end DL

/-! ### the head -/
namespace Hd
open PySem PySem.Spec PyProof.Rows L2 DL
def d0 : He.DefD := ⟨("is_within", none), "is_within", "is_within", defArgs s_is_within, defBody s_is_within, defScope s_is_within, [], []⟩
def d1 : He.DefD := ⟨("need_boxes", none), "need_boxes", "need_boxes", defArgs s_need_boxes, defBody s_need_boxes, defScope s_need_boxes, [], []⟩
def d2 : He.DefD := ⟨("need_whole", none), "need_whole", "need_whole", defArgs s_need_whole, defBody s_need_whole, defScope s_need_whole, [], []⟩
def d3 : He.DefD := ⟨("with_rounds", none), "with_rounds", "with_rounds", defArgs s_with_rounds, defBody s_with_rounds, defScope s_with_rounds, [], []⟩
def d4 : He.DefD := ⟨("product", none), "product", "product", defArgs s_product, defBody s_product, defScope s_product, [], []⟩
def d5 : He.DefD := ⟨("with_size", none), "with_size", "with_size", defArgs s_with_size, defBody s_with_size, defScope s_with_size, [], []⟩
def d6 : He.DefD := ⟨("together", none), "together", "together", defArgs s_together, defBody s_together, defScope s_together, [], []⟩
def d7 : He.DefD := ⟨("_law_cell_at", none), "_law_cell_at", "_law_cell_at", defArgs s_Lcell_at, defBody s_Lcell_at, defScope s_Lcell_at, [], []⟩
def d8 : He.DefD := ⟨("_law_draws", none), "_law_draws", "_law_draws", defArgs s_Ldraws, defBody s_Ldraws, defScope s_Ldraws, [], []⟩
def d9 : He.DefD := ⟨("_law_bag", none), "_law_bag", "_law_bag", defArgs s_Lbag, defBody s_Lbag, defScope s_Lbag, [], []⟩
def d10 : He.DefD := ⟨("_law_bags", none), "_law_bags", "_law_bags", defArgs s_Lbags, defBody s_Lbags, defScope s_Lbags, [], []⟩
def d11 : He.DefD := ⟨("_law_take", none), "_law_take", "_law_take", defArgs s_Ltake, defBody s_Ltake, defScope s_Ltake, [], []⟩
def d12 : He.DefD := ⟨("law", none), "law", "law", defArgs s_law, defBody s_law, defScope s_law, [], []⟩
def fn : List He.DefD := [d0, d1, d2, d3, d4, d5, d6, d7, d8, d9, d10, d11, d12]
def fa : List He.Fa := [.glo "is_within", .glo "need_boxes", .glo "need_whole", .glo "with_rounds", .glo "product", .glo "with_size", .glo "together", .glo "_law_cell_at", .glo "_law_draws", .glo "_law_bag", .glo "_law_bags", .glo "_law_take", .glo "law", .free "abs", .free "all", .free "any", .free "bool", .free "dict", .free "enumerate", .free "int", .free "isinstance", .free "len", .free "list", .free "max", .free "min", .free "range", .free "repr", .free "set", .free "sorted", .free "str", .free "sum", .free "tuple", .free "zip"]
abbrev R : PySem.W.OpenRow := PySem.W.OpenLaw.row PySem.Challenge.rw_keyswithin_k10_whole_counts_at_any_size
abbrev hk : PySem.W.Hook := He.hookD 4 fa fn
def ob (s : PySem.W.SharedT) : He.AlD := He.obsDG 4 fa fn (HandSHeadRun.getT s)
theorem ob_eq (s : PySem.W.SharedT) : ob s = hk.obs s.abs := He.obsDG_eq (HandSHeadRun.getT_eq s)
def names : List PySem.Str := ["BoxError", "NoNumber", "is_within", "need_boxes", "need_whole", "with_rounds", "product", "with_size", "together", "_law_cell_at", "_law_draws", "_law_bag", "_law_bags", "_law_take"]
set_option maxHeartbeats 0 in
theorem run (w : World) : HandSHeadRun.RunEq R (PySem.W.view R.prog [18]) hk ob 1500 names w := by
  intro os
  kernel_rfl
theorem facts [Wr] {P : Program} {w : World} {h : Heap} {mg : Str → Option Value} {f : Addr} (X : (Wr.K).In h) (G : h.Ns mainGlobals mg) (hfa : mg ("law" : Str) = some (.ref f)) (c : He.SaysD fa fn Wr.K) :
    ∃ fd : FuncData, (∀ (s : Shared) (v : Value), BindsTo s fd ⟨[v], []⟩ [("script", v)]) ∧ ∀ base : Heap, (Wr.K).In base → base.Ns mainGlobals mg → FnOk P w Wr.K mg base CX0 4 f fd ["script"] (spP 1 EW0 F_law) := by
  have hb : Bn mg := ⟨He.free_ok X G (c.fact 13 (f := .free "abs") rfl), He.free_ok X G (c.fact 14 (f := .free "all") rfl), He.free_ok X G (c.fact 15 (f := .free "any") rfl), He.free_ok X G (c.fact 16 (f := .free "bool") rfl), He.free_ok X G (c.fact 17 (f := .free "dict") rfl), He.free_ok X G (c.fact 18 (f := .free "enumerate") rfl), He.free_ok X G (c.fact 19 (f := .free "int") rfl), He.free_ok X G (c.fact 20 (f := .free "isinstance") rfl), He.free_ok X G (c.fact 21 (f := .free "len") rfl), He.free_ok X G (c.fact 22 (f := .free "list") rfl), He.free_ok X G (c.fact 23 (f := .free "max") rfl), He.free_ok X G (c.fact 24 (f := .free "min") rfl), He.free_ok X G (c.fact 25 (f := .free "range") rfl), He.free_ok X G (c.fact 26 (f := .free "repr") rfl), He.free_ok X G (c.fact 27 (f := .free "set") rfl), He.free_ok X G (c.fact 28 (f := .free "sorted") rfl), He.free_ok X G (c.fact 29 (f := .free "str") rfl), He.free_ok X G (c.fact 30 (f := .free "sum") rfl), He.free_ok X G (c.fact 31 (f := .free "tuple") rfl), He.free_ok X G (c.fact 32 (f := .free "zip") rfl)⟩
  obtain ⟨fd0, F0⟩ := c.def_ 0 (d := d0) rfl
  replace F0 : FnP Wr.K "is_within" s_is_within (He.ga Wr.K "is_within") fd0 := F0
  obtain ⟨fd1, F1⟩ := c.def_ 1 (d := d1) rfl
  replace F1 : FnP Wr.K "need_boxes" s_need_boxes (He.ga Wr.K "need_boxes") fd1 := F1
  obtain ⟨fd2, F2⟩ := c.def_ 2 (d := d2) rfl
  replace F2 : FnP Wr.K "need_whole" s_need_whole (He.ga Wr.K "need_whole") fd2 := F2
  obtain ⟨fd3, F3⟩ := c.def_ 3 (d := d3) rfl
  replace F3 : FnP Wr.K "with_rounds" s_with_rounds (He.ga Wr.K "with_rounds") fd3 := F3
  obtain ⟨fd4, F4⟩ := c.def_ 4 (d := d4) rfl
  replace F4 : FnP Wr.K "product" s_product (He.ga Wr.K "product") fd4 := F4
  obtain ⟨fd5, F5⟩ := c.def_ 5 (d := d5) rfl
  replace F5 : FnP Wr.K "with_size" s_with_size (He.ga Wr.K "with_size") fd5 := F5
  obtain ⟨fd6, F6⟩ := c.def_ 6 (d := d6) rfl
  replace F6 : FnP Wr.K "together" s_together (He.ga Wr.K "together") fd6 := F6
  obtain ⟨fd7, F7⟩ := c.def_ 7 (d := d7) rfl
  replace F7 : FnP Wr.K "_law_cell_at" s_Lcell_at (He.ga Wr.K "_law_cell_at") fd7 := F7
  obtain ⟨fd8, F8⟩ := c.def_ 8 (d := d8) rfl
  replace F8 : FnP Wr.K "_law_draws" s_Ldraws (He.ga Wr.K "_law_draws") fd8 := F8
  obtain ⟨fd9, F9⟩ := c.def_ 9 (d := d9) rfl
  replace F9 : FnP Wr.K "_law_bag" s_Lbag (He.ga Wr.K "_law_bag") fd9 := F9
  obtain ⟨fd10, F10⟩ := c.def_ 10 (d := d10) rfl
  replace F10 : FnP Wr.K "_law_bags" s_Lbags (He.ga Wr.K "_law_bags") fd10 := F10
  obtain ⟨fd11, F11⟩ := c.def_ 11 (d := d11) rfl
  replace F11 : FnP Wr.K "_law_take" s_Ltake (He.ga Wr.K "_law_take") fd11 := F11
  obtain ⟨fd12, F12⟩ := c.def_ 12 (d := d12) rfl
  replace F12 : FnP Wr.K "law" s_law (He.ga Wr.K "law") fd12 := F12
  have e := hfa.symm.trans (He.glo_ok X G (c.fact 12 (f := .glo "law") rfl))
  cases e
  have b := FunD.bindsA (ps := ["script"]) F12 fun _ _ _ _ _ _ us hl => match us, hl with | [_], _ => rfl
  refine ⟨fd12, fun s v => b s [v] rfl, fun base _ _ => ?_⟩
  have c_is_within : Cal0 P w Wr.K mg base 1 "is_within" (spP 3 EW0 F_is_within) := calP F0 (ok_is_within F0 hb) (He.glo_ok X G (c.fact 0 (f := .glo "is_within") rfl)) (F0.bindsN fun _ _ _ _ _ _ us hl => match us, hl with | [_, _, _], _ => rfl)
  have c_need_boxes : Cal0 P w Wr.K mg base 2 "need_boxes" (spP 2 EW0 F_need_boxes) := calP F1 (ok_need_boxes F1 hb c_is_within) (He.glo_ok X G (c.fact 1 (f := .glo "need_boxes") rfl)) (F1.bindsN fun _ _ _ _ _ _ us hl => match us, hl with | [_, _], _ => rfl)
  have c_need_whole : Cal0 P w Wr.K mg base 1 "need_whole" (spP 1 EW0 F_need_whole) := calP F2 (ok_need_whole F2 hb) (He.glo_ok X G (c.fact 2 (f := .glo "need_whole") rfl)) (F2.bindsN fun _ _ _ _ _ _ us hl => match us, hl with | [_], _ => rfl)
  have c_with_rounds : Cal0 P w Wr.K mg base 3 "with_rounds" (spP 2 EW0 F_with_rounds) := calP F3 (ok_with_rounds F3 hb c_need_whole c_need_boxes) (He.glo_ok X G (c.fact 3 (f := .glo "with_rounds") rfl)) (F3.bindsN fun _ _ _ _ _ _ us hl => match us, hl with | [_, _], _ => rfl)
  have c_product : Cal0 P w Wr.K mg base 1 "product" (spP 1 EW0 F_product) := calP F4 (ok_product F4 hb) (He.glo_ok X G (c.fact 4 (f := .glo "product") rfl)) (F4.bindsN fun _ _ _ _ _ _ us hl => match us, hl with | [_], _ => rfl)
  have c_with_size : Cal0 P w Wr.K mg base 3 "with_size" (spP 2 EW0 F_with_size) := calP F5 (ok_with_size F5 hb c_product c_need_whole c_need_boxes) (He.glo_ok X G (c.fact 5 (f := .glo "with_size") rfl)) (F5.bindsN fun _ _ _ _ _ _ us hl => match us, hl with | [_, _], _ => rfl)
  have c_together : Cal0 P w Wr.K mg base 3 "together" (spP 2 EW0 F_together) := calP F6 (ok_together F6 hb c_product c_is_within c_need_boxes) (He.glo_ok X G (c.fact 6 (f := .glo "together") rfl)) (F6.bindsN fun _ _ _ _ _ _ us hl => match us, hl with | [_, _], _ => rfl)
  have c_Lcell_at : Cal0 P w Wr.K mg base 1 "_law_cell_at" (spP 2 EW0 F_Lcell_at) := calP F7 (ok_Lcell_at F7 hb) (He.glo_ok X G (c.fact 7 (f := .glo "_law_cell_at") rfl)) (F7.bindsN fun _ _ _ _ _ _ us hl => match us, hl with | [_, _], _ => rfl)
  have c_Ldraws : Cal0 P w Wr.K mg base 1 "_law_draws" (spP 3 EW0 F_Ldraws) := calP F8 (ok_Ldraws F8 hb) (He.glo_ok X G (c.fact 8 (f := .glo "_law_draws") rfl)) (F8.bindsN fun _ _ _ _ _ _ us hl => match us, hl with | [_, _, _], _ => rfl)
  have c_Lbag : Cal0 P w Wr.K mg base 2 "_law_bag" (spP 2 EW0 F_Lbag) := calP F9 (ok_Lbag F9 hb c_Ldraws c_Lcell_at) (He.glo_ok X G (c.fact 9 (f := .glo "_law_bag") rfl)) (F9.bindsN fun _ _ _ _ _ _ us hl => match us, hl with | [_, _], _ => rfl)
  have c_Lbags : Cal0 P w Wr.K mg base 3 "_law_bags" (spLL 2 EW0 F_Lbags) := calP F10 (ok_Lbags F10 hb c_Lbag) (He.glo_ok X G (c.fact 10 (f := .glo "_law_bags") rfl)) (F10.bindsN fun _ _ _ _ _ _ us hl => match us, hl with | [_, _], _ => rfl)
  have c_Ltake : Cal0 P w Wr.K mg base 1 "_law_take" (spB 2 EW0 F_Ltake) := calP F11 (ok_Ltake F11 hb) (He.glo_ok X G (c.fact 11 (f := .glo "_law_take") rfl)) (F11.bindsN fun _ _ _ _ _ _ us hl => match us, hl with | [_, _], _ => rfl)
  exact ok_law F12 hb c_with_size c_together c_with_rounds c_Lbags c_Ltake
end Hd
open PySem PySem.W PySem.Calls PyProof.Rows
theorem PySem.Challenge.cw_keyswithin_k10_whole_counts_at_any_size_holds : PySem.Challenge.rw_keyswithin_k10_whole_counts_at_any_size.Holds := by
  w_on; o_law
  refine HandSHeadRun.head_any (r := OpenLaw.row PySem.Challenge.rw_keyswithin_k10_whole_counts_at_any_size) (q := view (OpenLaw.row PySem.Challenge.rw_keyswithin_k10_whole_counts_at_any_size).prog [18]) (H := Hd.hk) (ob := Hd.ob) (M := 1500) (loose := Hd.names) (d := HandSHeadRun.topDef (OpenLaw.row PySem.Challenge.rw_keyswithin_k10_whole_counts_at_any_size).prog 18) (kwd := []) Hd.ob_eq
    (by kernel_rfl) (fun s => by kernel_rfl) Hd.run (by kernel_rfl) (by kernel_rfl) (by kernel_rfl) (by rfl) (by first | assumption | decide +kernel) (by decide +kernel) ⟨rfl, rfl, rfl, rfl, rfl, by decide +kernel⟩ ?hw ?hc
  case hw => w_witness2
  case hc =>
    refine L2.walk_ofE (l := PySem.Challenge.rw_keyswithin_k10_whole_counts_at_any_size) (n := 63) (k := 4) (x := "script") (CX := L2.CX0) rfl (by decide) (by kernel_rfl) ⟨rfl, by decide, by decide⟩ ?F (fun _ _ _ _ z => z)
    intro w mg fa h Y G hmg0
    obtain ⟨K, KX, c⟩ := Y
    have hmg : mg ("law" : PySem.Str) = some (.ref fa) := by
      have e : (HandSHeadRun.topDef (OpenLaw.row PySem.Challenge.rw_keyswithin_k10_whole_counts_at_any_size).prog 18).name = ("law" : PySem.Str) := by kernel_rfl
      rw [← e]
      exact hmg0
    obtain ⟨fd, hb, hF⟩ := @Hd.facts ⟨K⟩ (PySem.Challenge.rw_keyswithin_k10_whole_counts_at_any_size).prog w h mg fa KX G hmg c
    refine ⟨K, fd, @DL.spP ⟨K⟩ 1 DL.EW0 DL.F_law, KX, hb, fun H a ns hl _ hS => ?_, hF⟩
    letI : DL.Wr := ⟨K⟩
    exact DL.law_end (DL.law_k10 ns hl) hS
