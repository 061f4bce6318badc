import PyProof.Rows.All
import Wide.All
import OpenK.AllK
import Wide.FinOn
import Lean
import HandS.ForMost
import HandS.Hot
import HandS.HotCalls
import HandS.Comp
import HandS.ExcCtx
import HandS.Lambda
import HandS.Nested
import HandS.Iter
import HandS.Dict
import HandS.Walk
import HandS.Set
import HandS.Strs
import HandS.SetFor
import HandS.More
import HandS.Zip
import HandS.SortInts
import HandS.SortRule
import HandS.TupLe
import PyProof.P3Eq
import KE.KStateDown
import HandS.ForExc
import HandS.Defaults
import HandS.IsInst
import HandS.Wide
import HandS.TupAny
import HandS.Codes
import HandS.Deep
import HandS.TupMul
import HandS.Style
import KE.GoesMore
import KE.GoesEnum
import HandS.Conv
import HandS.ExcIs
import HandS.ExcField
import HandS.List
import PyProof.CallFns
import HandS.HeadHook1
import HandS.HeadHook4
import HandS.ExcInit
import HandS.ExcInitHot
import HandS.ClsMeth
import PySem.Challenge.RW_keyswithin_k11_rows_of_exchanges_by_all
import HandS.Head0
import HandS.Head1
import HandS.Head2
import HandS.HeadEnd
import HandS.HeadHook2
import HandS.HeadWalk
set_option Elab.async false
set_option linter.all false
set_option maxRecDepth 100000
set_option maxHeartbeats 4000000
/-! loops over lists while an exception is handled -/
namespace HX
open PySem PySem.Spec PyProof.Rows L2 HotX L2N L2H
section
variable {prog : Program} {w : World} {A : Around} {E : Value → Shared → Prop} {s : Shared}
theorem stop_hot {x1 : Addr} {Q : Fin → Shared → Prop} (hot : HotAt A x1 s.heap)
    (hE : ∀ (h' : Heap) (a : Addr), (∀ b o, s.heap.get? b = some o → h'.get? b = some o) → Shared.TypeIs { s with heap := h' } (.ref a) "StopIteration" → E (.ref a) { s with heap := h' }) :
    wpAny (model prog w) A Builtin.SmallTypes.stopIteration Q E s := by
  obtain ⟨hh, o1, v1, h1, d1, c1⟩ := hot
  show wpAny _ _ (newExc (.type "StopIteration") [] >>= _) _ _ _
  refine wpAny_bind ?_
  unfold newExc newTuple
  refine wpAny_bind (wpAny_newObj_type (wpAny_bind (m := firstArgMember _ _) (wpAny_of_eq (a := Value.none) (by first | rfl | (simp only [firstArgMember]; rfl)) (wpAny_newObj_type ?_ (by size_fits)))) (by size_fits))
  have p1 := Heap.get?_push_of_some { cls := .type "tuple", data := .seq #[] 0 } h1
  refine raiseNew_hot ⟨hh, o1, v1, Heap.get?_push_of_some _ (Heap.get?_push_of_some _ h1), d1, c1⟩ (Nat.ne_of_lt (Heap.lt_size (Heap.get?_push_of_some _ h1))) (Heap.get?_push_size _ rfl) rfl (by first | (simp; done) | (simp; omega)) ?_
  refine hE _ _ (fun b o e => ?_) ⟨_, Heap.get?_update_self _ (Heap.get?_push_size _ rfl) rfl, rfl⟩
  rw [Heap.get?_update_other _ _ (Nat.ne_of_gt (Heap.lt_size (Heap.get?_push_of_some _ e)))]
  exact Heap.get?_push_of_some _ (Heap.get?_push_of_some _ e)
/-- the end of a list's iterator while x1 is handled -/
theorem list_end_hot {it l x1 : Addr} {i : Nat} {items : Array Value} {Q : Option Value → Shared → Prop} (hot : HotAt A x1 s.heap) (hne : x1 ≠ it) (hit : s.heap.IsListIter it l i) (hl : s.heap.IsList l items) (hx : items[i]? = none)
    (hQ : ∀ h', Heap.ExtBut it s.heap h' → Q none { s with heap := h' }) : wpAny (model prog w) A (pyNext (.ref it)) Q E s := by
  obtain ⟨⟨oi, gi, ci, di⟩, ⟨ol, gl, _, nl, dl⟩, ⟨hh, o1, v1, h1, d1, c1⟩⟩ := And.intro (id hit) (And.intro hl hot)
  unfold pyNext
  refine wpAny_bind (wpAny_attempt (wpAny_callSpecial?_slot (name := Str.ofString "__next__") hit.typeIs slot_listiter_next (wpAny_call_entry slot_listiter_next hit.typeIs entry_listiter_next ?_ (args_listiter_next _))))
  show wpAny _ _ (field (.ref it) 0 >>= _) _ _ s; refine wpAny_bind (wpAny_field gi di (x := .ref l) rfl ?_)
  show wpAny _ _ (if (Value.ref l == Value.none) = true then _ else _) _ _ s; rw [if_neg (show (Value.ref l == Value.none) ≠ true from Bool.false_ne_true)]
  show wpAny _ _ (field (.ref it) 1 >>= _) _ _ s; refine wpAny_bind (wpAny_field gi di (x := .int i 0) rfl ?_)
  show wpAny _ _ (seqItems? (.ref l) >>= _) _ _ s; refine wpAny_bind (wpAny_seqItems gl dl ?_)
  simp only [hx, Int.toNat_natCast]
  refine wpAny_bind (wpAny_rule (wpAny_bind (wpAny_setField gi di (by simp) (stop_hot (A := A.in1) (x1 := x1) ⟨hh, o1, v1, ?_, d1, c1⟩ fun h' a k ty => ?_))))
  · exact (Heap.get?_update_other _ _ (Ne.symm hne)).trans h1
  · refine wpAny_bind (wpAny_isInstance (T := "StopIteration") (b := true) ty isSubtype_stop (wpAny_pure (hQ h' fun b o hb e => k b o ?_)))
    exact (Heap.get?_update_other _ _ (Ne.symm hb)).trans e
theorem tup_end_hot {it t x1 : Addr} {i : Nat} {items : Array Value} {Q : Option Value → Shared → Prop} (hot : HotAt A x1 s.heap) (hne : x1 ≠ it) (hit : IsTupIter s.heap it t i) (ht : IsTup s.heap t items) (hx : items[i]? = none)
    (hQ : ∀ h', Heap.ExtBut it s.heap h' → Q none { s with heap := h' }) : wpAny (model prog w) A (pyNext (.ref it)) Q E s := by
  obtain ⟨⟨oi, gi, ci, di⟩, ⟨ol, gl, _, nl, dl⟩, ⟨hh, o1, v1, h1, d1, c1⟩⟩ := And.intro (id hit) (And.intro ht hot)
  unfold pyNext
  refine wpAny_bind (wpAny_attempt (wpAny_callSpecial?_slot (name := Str.ofString "__next__") hit.typeIs slot_tupleiter_next (wpAny_call_entry slot_tupleiter_next hit.typeIs entry_tupleiter_next ?_ (args_tupleiter_next _))))
  show wpAny _ _ (field (.ref it) 0 >>= _) _ _ s; refine wpAny_bind (wpAny_field gi di (x := .ref t) rfl ?_)
  show wpAny _ _ (if (Value.ref t == Value.none) = true then _ else _) _ _ s; rw [if_neg (show (Value.ref t == Value.none) ≠ true from Bool.false_ne_true)]
  show wpAny _ _ (field (.ref it) 1 >>= _) _ _ s; refine wpAny_bind (wpAny_field gi di (x := .int i 0) rfl ?_)
  show wpAny _ _ (seqItems? (.ref t) >>= _) _ _ s; refine wpAny_bind (wpAny_seqItems gl dl ?_)
  simp only [hx, Int.toNat_natCast]
  refine wpAny_bind (wpAny_rule (wpAny_bind (wpAny_setField gi di (by simp) (stop_hot (A := A.in1) (x1 := x1) ⟨hh, o1, v1, ?_, d1, c1⟩ fun h' a k ty => ?_))))
  · exact (Heap.get?_update_other _ _ (Ne.symm hne)).trans h1
  · refine wpAny_bind (wpAny_isInstance (T := "StopIteration") (b := true) ty isSubtype_stop (wpAny_pure (hQ h' fun b o hb e => k b o ?_)))
    exact (Heap.get?_update_other _ _ (Ne.symm hb)).trans e
/-- (a, b, ..) = a tuple, while x1 is handled -/
theorem unpackItems_hot {t x1 : Addr} {items : Array Value} {Q : List Value → Shared → Prop} (hot : HotAt A x1 s.heap) (ht : IsTup s.heap t items)
    (hQ : ∀ h', Heap.ExtBut s.heap.objs.size s.heap h' → Q items.toList { s with heap := h' }) : wpAny (model prog w) A (unpackItems (.ref t) items.size none) Q E s := by
  obtain ⟨hh, o1, v1, h1, d1, c1⟩ := hot
  have nt : t ≠ s.heap.objs.size := by obtain ⟨o, ho, _⟩ := ht; exact Nat.ne_of_lt (Heap.lt_size ho)
  have nx : x1 ≠ s.heap.objs.size := Nat.ne_of_lt (Heap.lt_size h1)
  unfold unpackItems notIterableAtAll
  refine wpAny_bind (wpAny_bind (wpAny_specialOf ht.typeIs slot_tuple_iter.lookup (wpAny_pure ?_)))
  simp only [Bool.false_eq_true, if_false]
  refine wpAny_bind (wpAny_holding (iter_tuple ht (wpAny_bind (wpAny_holding (draw_tuple nt items.size 0 _ _ ⟨_, Heap.get?_push_size _ rfl, rfl, rfl⟩ (ht.push _) (by omega) fun h2 i2 s2 => ?_)))))
  rw [show List.take items.size (List.drop 0 items.toList) = items.toList from by rw [List.drop_zero]; exact List.take_of_length_le (by simp), if_neg (by simp)]
  have x2 : h2.get? x1 = some o1 := (s2.2 x1 nx).trans (Heap.get?_push_of_some _ h1)
  refine wpAny_bind (wpAny_holding (tup_end_hot (x1 := x1) ⟨hh, o1, v1, x2, d1, c1⟩ nx i2 ((ht.push _).extBut s2.extBut nt) (by simp) fun h3 e3 => ?_))
  simp only [Option.isSome_none, Bool.false_eq_true, if_false]
  exact wpAny_pure (hQ h3 fun b o hb e => e3 b o hb (s2.extBut b o hb (Heap.get?_push_of_some _ e)))
theorem assign_tup_hot {env : Env} {elts : List Expr} {k} {pos : Pos} {t x1 : Addr} {items : Array Value} {Q : Unit → Shared → Prop} (hot : HotAt A x1 s.heap) (ht : IsTup s.heap t items)
    (hn : (assignEach elts env).length = items.size) (hs : (assignEach elts env).findIdx? (·.1) = none)
    (h : ∀ h', Heap.ExtBut s.heap.objs.size s.heap h' → wpAny (model prog w) A (assignInOrder ((assignEach elts env).map (·.2)) items.toList) Q E { s with heap := h' }) :
    wpAny (model prog w) A (assign (.Tuple elts k pos) env (.ref t)) Q E s := by
  rw [assign_Tuple]
  refine wpAny_bind (wpAny_standAt ?_)
  unfold unpack
  rw [hn, hs]
  exact wpAny_bind (wpAny_holding (unpackItems_hot hot ht h))
end
/-! ### targets and iterators there -/
section
variable {X : Cx}
theorem pg_tupH {es : List Expr} {k : Nat} {t : TGs} {n : Nat} {pos : Pos} (hc : HotC X) (h : PGs X es t)
    (hn : (assignEach es X.env).length = n := by rfl) (hst : (assignEach es X.env).findIdx? (·.1) = none := by rfl) : PG X (.Tuple es k pos) (gTup X.K n t) := ⟨fun pins s σ H v u Q I r hw => by
  obtain ⟨a, xs, rfl, hq, hl, hw⟩ := hw
  cases r
  obtain ⟨its, rv, ht, hz⟩ := I.tuple hq
  obtain ⟨x1, hot⟩ := hc.at I
  refine assign_tup_hot hot ht (by simp [hn, ← hl, rv.length]) hst fun h' hx => ?_
  exact h.run pins _ σ H xs _ Q (I.kept (t' := s.toks) fun b o e => hx b o (Nat.ne_of_lt (Heap.lt_size e)) e) (by simpa using rv) hw⟩
end
end HX

set_option Elab.async false
set_option linter.all false
set_option maxRecDepth 100000
set_option maxHeartbeats 4000000
/-! comprehensions while an exception is handled -/
namespace HX
open PySem PySem.Spec PyProof.Rows L2 HotX L2H
/-- the block's context, the handled exception pinned -/
abbrev blkH (X : Cx) (p : Addr × Obj) (s : Shared) (H : Hp) (scope : Scope) (ce : Env) (fp : List Addr) : Cx := { X.blk s H scope ce fp with pn := [p] }
theorem hot_blk {X : Cx} {p : Addr × Obj} {s : Shared} {H : Hp} {scope : Scope} {ce : Env} {fp : List Addr} (h : Hot1 X.A p) : HotC (blkH X p s H scope ce fp) := ⟨p, h, List.mem_cons_self⟩
theorem ok_blkH {X : Cx} {p : Addr × Obj} {s : Shared} {H : Hp} {scope : Scope} {ce : Env} {fp : List Addr} (k : (X.blk s H scope ce fp).Ok) : (blkH X p s H scope ce fp).Ok :=
  { mod := k.mod, kind := k.kind, glob := k.glob, blt := k.blt, above := k.above, inj := k.inj, has := k.has, cab := k.cab, hd := k.hd, frames := k.frames, stk := k.stk, exf := k.exf, bs := k.bs, bsz := k.bsz, noex := k.noex, exfs := k.exfs, funs := k.funs, frf := k.frf }
theorem inv_blkH {X : Cx} {p : Addr × Obj} {s s' : Shared} {H H' : Hp} {scope : Scope} {ce : Env} {fp : List Addr} {σ : L2.St} (I : Inv (X.blk s H scope ce fp) [] σ H' s') (g1 : s'.heap.get? p.1 = some p.2) (g2 : H' p.1 = none) (g3 : p.1 ≠ ce.locals) (g4 : p.1 ∉ frs X.stack) (g5 : ∀ v, p.2.data ≠ .cell v) :
    Inv (blkH X p s H scope ce fp) [] σ H' s' :=
  { ok := ok_blkH I.ok, os := I.os, bare := I.bare, base := I.base, loc := I.loc, cell := I.cell, free := I.free, freeC := I.freeC, hok := I.hok, len := I.len
    pin := fun q hq => by
      have e : q = p := by simpa using hq
      subst e
      exact ⟨g1, g2, g3, g4, g5⟩ }
theorem turn_listH {P : Program} {w : World} {K : PySem.W.Frag} {tg : Expr} (a it : Addr) : TurnH P w K tg (Itl K a) [it] it (fun i h => h.IsListIter it a i) := by
  have one : ∀ {b : Addr}, b ∈ [it] → b = it := fun hb => by simpa using hb
  refine ⟨List.mem_cons_self, fun i h st b hb => ?_, fun i h h' st k => st.at fun o e => k it List.mem_cons_self o e, ?_, ?_, fun _ _ _ _ _ st q => wpAny_pyIter_listiter st q⟩
  · rw [one hb]
    obtain ⟨o, g, c, d⟩ := st
    exact ⟨o, g, fun v z => by rw [d] at z; cases z⟩
  · intro X hP hw hK hc i pins s σ H E I hf st hg
    subst hP; subst hw; subst hK
    obtain ⟨xs, x, hq, hx⟩ := hg
    obtain ⟨its, rv, lp, _⟩ := I.list hq
    obtain ⟨u, hu, ru⟩ := rv.get hx
    obtain ⟨z0, z1, z2, z3, z4, z5⟩ := hf it List.mem_cons_self
    refine wpAny_pyNext_list_item st lp.isList (x := u) (by simpa using hu) fun h2 st2 sb2 => ⟨u, rfl, ?_⟩
    obtain ⟨o2, g2, c2, d2⟩ := id st2
    exact go_of (s := { s with heap := h2 }) g2 c2 d2 (by decide) ⟨x, H, I.turned (t' := s.toks) (fun b o nb e => (sb2.2 b nb).trans e) z0 z1 z3 z4 z5, ru, ⟨rfl, fun ys hy => by rw [I.list_inj hy hq]; exact hx⟩, st2, fun b hb => (hf b hb).1⟩
  · intro X hP hw hK hc i pins s σ H E I hf st hg
    subst hP; subst hw; subst hK
    obtain ⟨xs, hq, hx⟩ := hg
    obtain ⟨its, rv, lp, _⟩ := I.list hq
    obtain ⟨z0, z1, z2, z3, z4, z5⟩ := hf it List.mem_cons_self
    have hl := rv.length
    obtain ⟨pp, ⟨hh, v1, e1, c1⟩, hp⟩ := hc
    have P1 := (I.pin pp (List.mem_append_left _ hp)).1
    exact list_end_hot (x1 := pp.1) ⟨hh, pp.2, v1, P1, e1, c1⟩ (z5 pp (List.mem_append_left _ hp)) st lp.isList (by simp; omega) fun h2 eb => ⟨rfl, I.turned (t' := s.toks) (fun b o nb e => eb b o nb e) z0 z1 z3 z4 z5⟩
/-- over a list -/
def iLst (K : PySem.W.Frag) (tl : TE) : TI := fun σ H R => tl σ H fun x H1 => ∃ a, x = .ref a ∧ (∃ xs, SqL K H1 a xs) ∧ R (Itl K a) H1
theorem pi_lstH {X : Cx} {tg e : Expr} {te : TE} (he : PE X e te) : PIH X tg e (iLst X.K te) := ⟨fun pins s σ H R I h => thn (he.run pins s σ H _ I h) fun v s1 q => by
  obtain ⟨x, H1, I1, rx, a, rfl, ⟨xs, hq⟩, q⟩ := q
  obtain rfl : v = Value.ref a := rx
  obtain ⟨its, rv, lp, _⟩ := I1.list hq
  refine wpAny_pyIter_list lp.isList ?_
  have I2 : Inv X pins σ H1 { s1 with heap := s1.heap.push { cls := .type "list_iterator", data := .fields #[.ref a, .int 0 0] } } := I1.kept (t' := s1.toks) fun b o g => Heap.get?_push_of_some _ g
  refine ⟨s1.heap.objs.size, [s1.heap.objs.size], _, _, H1, rfl, I2, turn_listH a s1.heap.objs.size, ?_, fun b hb => ?_, q⟩
  · exact ⟨_, Heap.get?_push_size _ rfl, rfl, rfl⟩
  · have e : b = s1.heap.objs.size := by simpa using hb
    rw [e]
    exact I1.fpOk (Nat.le_refl _) (I1.hok.fresh (Nat.le_refl _))⟩
end HX

set_option Elab.async false
set_option linter.all false
set_option maxRecDepth 100000
set_option maxHeartbeats 4000000
namespace HX
open PySem PySem.Spec PyProof.Rows L2 HotX L2H
/-- [elt for tg in iter if ..] while an exception is handled -/
theorem pe_lcH {X : Cx} {elt tg iter : Expr} {ifs : List Expr} {scope : Scope} {own : List (Str × Nat)} {pos : Pos} {wi : TI} {g : TG} {tt : TT} {te : TE} (hot : HotC X) (hN : X.N.Nodup) (hi : PIH X tg iter wi) (ok : BlkOk X.N X.env.scope scope own)
    (hg : ∀ (p : Addr × Obj) (s : Shared) (H : Hp) (C : Addr) (cl : List (Str × Addr)) (fp : List Addr), Hot1 X.A p → PG (blkH X p s H scope (compEnvC scope cl C X.env) fp) tg g)
    (ht : ∀ (p : Addr × Obj) (s : Shared) (H : Hp) (C : Addr) (cl : List (Str × Addr)) (fp : List Addr), Hot1 X.A p → PTs (blkH X p s H scope (compEnvC scope cl C X.env) fp) ifs tt)
    (he : ∀ (p : Addr × Obj) (s : Shared) (H : Hp) (C : Addr) (cl : List (Str × Addr)) (fp : List Addr), Hot1 X.A p → PE (blkH X p s H scope (compEnvC scope cl C X.env) fp) elt te)
    (hs : ∀ x, foldedSetIterable iter X.env x = pure x := by intro _; rfl) : PE X (.ListComp elt [⟨tg, iter, ifs, 0⟩] scope pos) (tLc wi g tt te (own.map (·.2))) := ⟨fun pins s σ H Q I h => by
  obtain ⟨p, h1, hp⟩ := hot
  rw [eval_ListComp]
  refine wpAny_comprehension_free (use := none) rfl hs (closure_ok fun y hy e => (ok.free y hy e).elim (fun k => I.ok.has _ (.inl k)) fun k => I.ok.has _ (.inr k)) ok.kind (fun y hy e => by rw [ok.uniq y hy, e]) (thn (hi.run pins s σ H _ I h) fun xv s1 hx => thn hx fun itv s2 h2 => ?_)
  obtain ⟨it, fp, tn, J, H2, rfl, I2, T, st2, f2, q⟩ := h2
  refine wpAny_newObj_type (newEnv_comp ?_) (by show 0 ≤ sizeLine; decide)
  have hDn : H2 s2.heap.objs.size = none := I2.hok.fresh (Nat.le_refl _)
  obtain ⟨W, ⟨m0, w0⟩, turn⟩ := q _ hDn
  generalize hD : s2.heap.objs.size = D at *
  generalize hs3 : ({ s2 with heap := s2.heap.push { cls := .type "list", data := .seq ([] : List Value).toArray } } : Shared) = s3
  have h3 : s3.heap = s2.heap.push { cls := .type "list", data := .seq ([] : List Value).toArray } := by rw [← hs3]
  have I3 : Inv X pins σ (upd H2 D (.lst [])) s3 := by
    subst hs3
    exact I2.laid (t' := s2.toks) (fun b o z => Heap.get?_push_of_some _ z) (Nat.le_of_eq hD) ⟨Nat.zero_le _, [], 0, .nil, by rw [← hD]; exact Heap.get?_push_size _ rfl⟩
  have f3 : ∀ b ∈ fp, FpOk X pins (upd H2 D (.lst [])) b ∧ b < s3.heap.objs.size := fun b hb => by
    obtain ⟨o, z, _⟩ := T.obj _ _ st2 b hb
    have hlt := Heap.lt_size z
    have nD : b ≠ D := by rw [← hD]; exact Nat.ne_of_lt hlt
    exact ⟨⟨(upd_ne nD).trans (f2 b hb).1, (f2 b hb).2⟩, by rw [h3, Heap.size_push]; exact Nat.lt_succ_of_lt hlt⟩
  have st3 : tn 0 s3.heap := T.keep _ _ _ st2 fun b _ o z => by rw [h3]; exact Heap.get?_push_of_some _ z
  obtain ⟨P1, P2, P3, P4, P5⟩ := I3.pin p (List.mem_append_left _ hp)
  have I4 := block_start I3 ok hN f3
  generalize hcl : cellsFrom (s3.heap.objs.size + 1) scope.names (cloFrom X.env.cells scope.names []) = cl at I4
  have P4' : p.1 ∉ frs X.stack := fun z => (List.mem_cons.mp (I3.stkSub _ z)).elim P3 P4
  show codeAny _ _ (.compStart (.ListComp elt [⟨tg, iter, ifs, 0⟩] scope pos) 0 (.ref it) (.ref D) (compEnvC scope cl s3.heap.objs.size X.env)) _ { s3 with heap := pushCells (s3.heap.push { cls := .type "dict", data := .dict #[] }) scope.names }
  have pg := hg p s3 (upd H2 D (.lst [])) s3.heap.objs.size cl fp h1
  have pt := ht p s3 (upd H2 D (.lst [])) s3.heap.objs.size cl fp h1
  have pe := he p s3 (upd H2 D (.lst [])) s3.heap.objs.size cl fp h1
  have cL : (compEnvC scope cl s3.heap.objs.size X.env).locals = s3.heap.objs.size := rfl
  generalize compEnvC scope cl s3.heap.objs.size X.env = ce at *
  have nfp : ∀ b ∈ fp, (upd H2 D (.lst [])) b = none := fun b hb => (f3 b hb).1.1
  generalize hH3 : upd H2 D (.lst []) = H3 at *
  have kp : ∀ b o, s3.heap.get? b = some o → (pushCells (s3.heap.push { cls := .type "dict", data := .dict #[] }) scope.names).get? b = some o := fun b o z => pushCells_keeps _ _ _ _ (Heap.get?_push_of_some _ z)
  have J4 : Inv (blkH X p s3 H3 scope ce fp) [] (wipe σ (own.map (·.2))) H3 { s3 with heap := pushCells (s3.heap.push { cls := .type "dict", data := .dict #[] }) scope.names } :=
    inv_blkH I4 (kp _ _ P1) P2 (by rw [cL]; exact Nat.ne_of_lt (Heap.lt_size P1)) P4' P5
  have st4 : tn 0 (pushCells (s3.heap.push { cls := .type "dict", data := .dict #[] }) scope.names) := T.keep _ _ _ st3 fun b _ o z => kp b o z
  generalize hs4 : ({ s3 with heap := pushCells (s3.heap.push { cls := .type "dict", data := .dict #[] }) scope.names } : Shared) = s4 at *
  have st4' : tn 0 s4.heap := by rw [← hs4]; exact st4
  have nP : ∀ b ∈ fp, p.1 ≠ b := fun b hb => (f3 b hb).1.2.2.2.2.2 p (List.mem_append_left _ hp)
  have stat : ∀ {σ' : L2.St} {H' : Hp} {s' : Shared}, Inv (blkH X p s3 H3 scope ce fp) [] σ' H' s' → (∀ b ∈ fp, H' b = none) → ∀ b ∈ fp, FpOk (blkH X p s3 H3 scope ce fp) [] H' b := fun {σ' H' s'} I' hn b hb =>
    ⟨hn b hb, (I'.ok.exf b hb).1, I'.ok.exfs b hb, .inl hb, fun x c z => (I'.ok.exf b hb).2 x c z, fun r hr => by
      have e : r = p := by simpa using hr
      rw [e]; exact nP b hb⟩
  have hotB : HotC (blkH X p s3 H3 scope ce fp) := hot_blk h1
  have loop : codeAny (model X.prog X.w) X.A (.compLoop (.ListComp elt [⟨tg, iter, ifs, 0⟩] scope pos) 0 (.ref it) (.ref D) ce) (compPost (model X.prog X.w) X.A X.xe none (fun v s' => ∃ x H', Inv X pins σ H' s' ∧ RelV x v ∧ Q x H') (.ref D) s3.heap.objs.size) s4 := by
    refine compLoop_any (fun n t => ∃ i Hi, Inv (blkH X p s3 H3 scope ce fp) [] (wipe σ (own.map (·.2))) Hi t ∧ tn i t.heap ∧ (∀ b ∈ fp, Hi b = none) ∧ W i n Hi) ?_ m0 ⟨0, H3, J4, st4', nfp, w0⟩
    rintro n s5 ⟨i, H5, I5, st5, n5, w5⟩
    rcases turn i n H5 w5 with ⟨stop, qq⟩ | ⟨go, Nx, hNx, step⟩
    · refine thnF (T.done (blkH X p s3 H3 scope ce fp) rfl rfl rfl hotB i [] s5 _ H5 (fun _ _ => False) I5 (stat I5 n5) st5 stop) fun r s6 ⟨hr, I6⟩ => ?_
      subst hr
      have I7 : Inv X pins σ H5 s6 := I3.call' (ch := fp) I6.os I6.base I6.hok I6.bare fun b hb => ⟨(f3 b hb).1.2.2.2.1, (f3 b hb).1.2.1, (f3 b hb).1.2.2.2.2.1, (f3 b hb).1.2.2.2.2.2⟩
      have nC : H5 s3.heap.objs.size = none := by rw [← cL]; exact I6.free
      obtain ⟨m, hn, _⟩ := I6.loc
      replace hn : s6.heap.Ns ce.locals m := hn
      rw [cL] at hn
      obtain ⟨z0, z1, z2, z3, z4, z5⟩ := I3.fpOk (H' := H5) (Nat.le_refl _) nC
      exact ⟨m, hn, fun h'' sb => ⟨.ref D, H5, I7.turned (t' := s6.toks) (fun b o nb z => (sb.2 b nb).trans z) z0 z1 z3 z4 z5, rfl, qq⟩⟩
    · refine thnF (T.item (blkH X p s3 H3 scope ce fp) rfl rfl rfl hotB i [] s5 _ H5 (fun _ _ => False) I5 (stat I5 n5) st5 go) fun r s6 ⟨u, hr, h6⟩ => ?_
      subst hr
      refine thnF h6 fun _ s7 ⟨x, H7, I7, r7, y7, st7, n7⟩ => ?_
      refine thnF (pg.run _ s7 _ H7 x u _ (I7.pinned (stat I7 n7) (T.obj _ _ st7)) r7 (step x H7 y7)) fun _ s8 ⟨σ8, H8, I8, hw8, q8⟩ => ?_
      refine thnF (pt.run _ s8 σ8 H8 _ I8 q8) fun b s9 ⟨H9, I9, q9⟩ => ?_
      have fin : ∀ {t : Shared} {Ht : Hp}, Inv (blkH X p s3 H3 scope ce fp) ([] ++ pinsAt fp s7.heap) σ8 Ht t → Nx Ht → ∃ m, m < n ∧ ∃ i Hi, Inv (blkH X p s3 H3 scope ce fp) [] (wipe σ (own.map (·.2))) Hi t ∧ tn i t.heap ∧ (∀ b ∈ fp, Hi b = none) ∧ W i m Hi := fun {t Ht} It nx => by
        obtain ⟨m', hm, w'⟩ := hNx Ht nx
        have pn : ∀ b ∈ fp, ∀ o, s7.heap.get? b = some o → t.heap.get? b = some o ∧ Ht b = none := fun b hb o z => ⟨(It.pin (b, o) (List.mem_append_right _ (List.mem_append_right _ (mem_pinsAt hb z)))).1, (It.pin (b, o) (List.mem_append_right _ (List.mem_append_right _ (mem_pinsAt hb z)))).2.1⟩
        refine ⟨m', hm, i + 1, Ht, (It.unpinned (pins := [])).weak (by rw [← hw8, wipe_length]) (fun j v z => ?_), T.keep _ _ _ st7 fun b hb o z => (pn b hb o z).1, fun b hb => ?_, w'⟩
        · rw [← hw8] at z
          exact (wipe_some z).1
        · obtain ⟨o, z, _⟩ := T.obj _ _ st7 b hb
          exact (pn b hb o z).2
      cases b with
      | false =>
        rw [if_neg Bool.false_ne_true] at q9
        exact fin I9 q9
      | true =>
        rw [if_pos rfl] at q9
        exact thnF (pe.run _ s9 σ8 H9 _ I9 q9) fun z s10 ⟨yv, H10, I10, r10, acc, hD10, hz10, nx⟩ => app_ok (X := blkH X p s3 H3 scope ce fp) I10 hD10 hz10 r10 fun s11 I11 => fin I11 nx
  exact codeAny_compStart_list loop (T.self X.A 0 _ _ _ st4' loop)⟩
end HX

set_option Elab.async false
set_option linter.all false
set_option maxRecDepth 100000
set_option maxHeartbeats 4000000
/-! several except clauses, each with a name -/
namespace HX
open PySem PySem.Spec PyProof.Rows L2 L2N HotX L2H PXN
/-- what the clauses «except c as n» wish of an exception of the body; slot i is n's -/
def wNm (K : PySem.W.Frag) (i : Nat) (Wout : WX) (D : Ends) : List (Value × (Addr → Value → Option Addr → TS)) → WX
  | [] => Wout
  | (c, ts) :: r => fun cls d σ H => ∃ b, PySem.W.exmOne K cls c = some b ∧
      (b = true → ∀ a, H a = none → ts a cls d { nx := fun σ' H' => D.nx (σ'.set i none) H', rt := D.rt, bk := fun σ' H' => D.bk (σ'.set i none) H', ct := fun σ' H' => D.ct (σ'.set i none) H' } (σ.set i (some (.ref a))) H) ∧ (b = false → wNm K i Wout D r cls d σ H)
inductive NmOk (X : Cx) (n : Str) : List ExceptHandler → List (Value × (Addr → Value → Option Addr → TS)) → Prop
  | nil : NmOk X n [] []
  | cons {x : Str} {c : Value} {ts : Addr → Value → Option Addr → TS} {b1 : Stmt} {su : List Stmt} {np pos' : Pos} {hds : List ExceptHandler} {l : List (Value × (Addr → Value → Option Addr → TS))} (hc : Names X x c)
      (hsu : ∀ (a : Addr) (oe : Obj) (cls : Value) (d : Option Addr) (pn : List (Addr × Obj)), Zn cls d oe → (∃ vs, oe.data = .fields vs) → PSs (X.suite a ((a, oe) :: pn)) (b1 :: su) (ts a cls d)) (r : NmOk X n hds l) :
      NmOk X n (.ExceptHandler (some (.Name x np)) (some n) (b1 :: su) pos' :: hds) ((c, ts) :: l)
theorem hot_suite {X : Cx} {a : Addr} {oe : Obj} {cls : Value} {d : Option Addr} {pn : List (Addr × Obj)} (z : Zn cls d oe) (h : ∃ vs, oe.data = .fields vs) : HotC (X.suite a ((a, oe) :: pn)) := by
  obtain ⟨vs, e⟩ := h
  exact ⟨(a, oe), ⟨rfl, vs, e, z.2.2 vs e⟩, List.mem_cons_self⟩
theorem ps_try_nm {X : Cx} {n : Str} {i : Nat} {body : List Stmt} {h0 : ExceptHandler} {hds : List ExceptHandler} {l : List (Value × (Addr → Value → Option Addr → TS))} {pos : Pos} {tb : WX → TS} {Wout : WX}
    (hs : X.stack = X.env :: X.outer) (hf : X.env.frame = some X.env.locals) (hN : X.N.Nodup) (hi : X.N[i]? = some n) (hln : X.env.kindOf n = some .local) (tk : L2N.Takes X Wout)
    (hb : ∀ (W : WX) (pn : List (Addr × Obj)) (xe : Value → Shared → Prop), L2N.Takes (X.tr pn xe) W → PassesOwn (model X.prog X.w) X.A X.env xe → PSs (X.tr pn xe) body (tb W))
    (hh : NmOk X n (h0 :: hds) l) : PS X (.Try body (h0 :: hds) [] [] pos) (fun D σ H => tb (wNm X.K i Wout D l) D σ H) := ⟨fun pins s σ H D I h => by
  have ok := I.ok
  have hfr : X.A.frames = some (X.env :: X.outer) := ok.frames.trans (congrArg some hs)
  refine wpAny_Try_except (wpAny_mono ((hb (wNm X.K i Wout D l) (X.pn ++ pins) (fun e t1 => wpAny (model X.prog X.w) X.A (noteFrame e X.env) (fun _ t2 => wpAny (model X.prog X.w) X.A (setFlight e none) (fun _ t3 => wpAny (model X.prog X.w) X.A (handleBy e X.env (h0 :: hds)) (SP X pins D) X.xe t3) X.xe t2) X.xe t1) (fun u s' xx => ?_) PassesOwn.looking).run [] s σ H D (I.toTry _) h) (fun f s1 hsp => ?_) (fun _ _ z => z))
  · obtain ⟨a, B, sI, pins', σ', H', cls, d, rfl, J', nb, up, sky, na, os, ag, w⟩ := xx
    have J : Inv X pins σ' H' sI := J'.ofTry ok
    rw [show (X.tr (X.pn ++ pins) _).stack = X.env :: X.outer from hs] at sky
    show wpAny (model X.prog X.w) X.A (noteFrame (.ref a) X.env) _ _ _
    refine Sky.land Zn.steady hfr hf sky fun h3 fl3 up3 => ?_
    have J3 : Inv X pins σ' H' { s' with heap := h3 } := J.landed nb fl3.1 (up.trans up3) os ag
    obtain ⟨oe3, vs3, he3, hz3, hd3⟩ := fl3.there
    have nfr : a ∉ frs (X.env :: X.outer) := fun hm => by
      obtain ⟨_, o', e', hnf⟩ := fl3.2.2.1.mem hm
      cases he3.symm.trans e'
      exact hnf _ hd3
    have nL : a ≠ X.env.locals := fun z => nfr (List.mem_filterMap.mpr ⟨X.env, List.mem_cons_self, hf.trans (congrArg some z.symm)⟩)
    have nF : a ∉ X.fs := fun hm => by
      obtain ⟨e, he, q⟩ := List.mem_filterMap.mp hm
      exact nfr (List.mem_filterMap.mpr ⟨e, List.mem_cons_of_mem _ he, q⟩)
    have S3 := J3.suite he3 hd3 na nL nF
    have go : ∀ {hd' : List ExceptHandler} {l' : List (Value × (Addr → Value → Option Addr → TS))}, NmOk X n hd' l' → wNm X.K i Wout D l' cls d σ' H' → wpAny (model X.prog X.w) X.A (handleBy (.ref a) X.env hd') (SP X pins D) X.xe { s' with heap := h3 } := by
      intro hd' l' hk
      induction hk with
      | nil =>
        intro w
        refine wpAny_handleBy_nil ?_
        obtain ⟨k1, k2, k3, oe, vs, T, oT, ts', he, hz, hd, h1, hr⟩ := id fl3
        unfold PySem.passOn
        refine wpAny_bind (wpAny_field he hd h1 ?_)
        rw [if_neg (show (Value.ref T == Value.none) ≠ true from by simp)]
        have fin : wpAny (model X.prog X.w) X.A (setFlight (.ref a) X.env.frame) (fun _ t4 => wpAny (model X.prog X.w) X.A (throw (.ref a) : Sem Flow) (SP X pins D) X.xe t4) X.xe { s' with heap := h3 } := by
          rw [hf]
          exact HandSPX.setFlight_upZ fl3 fun h4 hh4 up4 => wpAny_throw (tk _ _ ⟨a, B, sI, pins, σ', H', cls, d, rfl, J, nb, (up.trans up3).trans up4, .inr (.inr (by rw [hs]; exact hh4)), na, os, ag, w⟩)
        first
          | exact wpAny_bind (wpAny_pure (wpAny_bind fin))
          | exact wpAny_bind fin
      | @cons x c ts b1 su np pos' hds2 l2 hc hsu r ih =>
        rintro ⟨b, hb1, hyes, hno⟩
        refine wpAny_handleBy_cons (codeAny_handlers_test ?_) (by intro q; cases q)
        have LT : PySem.W.Looks (model X.prog X.w) h3 (typeOf (.ref a)) cls := fun _ _ _ _ k q => wpAny_typeOf_ref (k _ _ he3) (by rw [hz3.1]; exact q)
        have LM := PySem.W.exm_one (M := model X.prog X.w) (J3.kIn) LT hb1
        have test : ∀ {Q : Value → Shared → Prop} {E : Value → Shared → Prop}, Q c { s' with heap := h3 } → wpAny (model X.prog X.w) (X.A.mark (some (.ref a))) (eval (.Name x np) X.env) Q E { s' with heap := h3 } := fun {Q E} q => by
          rcases hc with ⟨hg, hdbg, hm | ⟨hm, hv, hnn⟩⟩
          · exact ld_glob (X := X.suite a ((a, oe3) :: (X.pn ++ pins))) S3 hg hm q hdbg
          · exact ld_blt (X := X.suite a ((a, oe3) :: (X.pn ++ pins))) S3 hg hm hv q hnn hdbg
        refine test (LM.here ?_)
        cases b with
        | false =>
          show wpAny _ X.A (handleBy (.ref a) X.env hds2) _ _ _
          exact ih (hno rfl)
        | true =>
          refine codeAny_handlers_suite_as (HandSPX.lands_againZ fl3 fun h4 fl4 up4 => ?_)
          have J4 : Inv X pins σ' H' { s' with heap := h4 } := J.landed nb fl4.1 ((up.trans up3).trans up4) os ag
          obtain ⟨oe4, vs4, he4, hz4, hd4⟩ := fl4.there
          refine store_ok (X := X.suite a ((a, oe4) :: (X.pn ++ pins))) (v := .ref a) (J4.suite he4 hd4 na nL nF) hN hi (.inl hln) rfl (fun s5 S5 => ?_) (.inr hln)
          refine wpAny_mono ((hsu a oe4 cls d (X.pn ++ pins) hz4 ⟨_, hd4⟩).run [] s5 _ H' _ S5 (hyes rfl a na)) (fun f s6 hsp => ?_) (fun _ _ z => False.elim z)
          cases f with
          | next => obtain ⟨σ6, H6, S6, q6⟩ := hsp; exact gone_ok (S6.unsuite ok) hN hi hln fun s7 J7 => ⟨_, _, J7, q6⟩
          | brk => obtain ⟨σ6, H6, S6, q6⟩ := hsp; exact gone_ok (S6.unsuite ok) hN hi hln fun s7 J7 => ⟨_, _, J7, q6⟩
          | cont => obtain ⟨σ6, H6, S6, q6⟩ := hsp; exact gone_ok (S6.unsuite ok) hN hi hln fun s7 J7 => ⟨_, _, J7, q6⟩
          | ret u => obtain ⟨v6, σ6, H6, S6, r6, q6⟩ := hsp; exact gone_ok (S6.unsuite ok) hN hi hln fun s7 J7 => ⟨_, _, _, J7, r6, q6⟩
    exact go hh w
  · cases f with
    | next => obtain ⟨σ', H', J', q⟩ := hsp; exact wpAny_execs_nil ⟨σ', H', J'.ofTry ok, q⟩
    | brk => obtain ⟨σ', H', J', q⟩ := hsp; exact ⟨σ', H', J'.ofTry ok, q⟩
    | cont => obtain ⟨σ', H', J', q⟩ := hsp; exact ⟨σ', H', J'.ofTry ok, q⟩
    | ret u => obtain ⟨v, σ', H', J', r, q⟩ := hsp; exact ⟨v, σ', H', J'.ofTry ok, r, q⟩⟩
end HX

set_option Elab.async false
set_option linter.all false
set_option maxRecDepth 100000
set_option maxHeartbeats 4000000
/-! lambdas with parameters and nothing captured: made, handed on, called -/
namespace HX
open PySem PySem.Spec PyProof.Rows L2 LamX NdefX
structure LF where
  qual : Str
  params : Arguments
  body : Expr
  scope : Scope
  c : Addr
abbrev LF.fd (L : LF) (pm ctv : Value) : FuncData := PySem.W.kla_fn "<lambda>" L.qual L.params L.body L.scope [] pm (.ref L.c) ctv
/-- the object at f is the lambda L -/
def LmO (f : Addr) (L : LF) : HO := .ext fun h => ∃ (od : Option Addr) (sl : Array (Option Value)) (pm ctv : Value), h.get? f = some (⟨.type "function", od, .func (L.fd pm ctv), sl⟩ : Obj)
theorem lmO_ne {f : Addr} {L : LF} (ps : Array Value) : LmO f L ≠ .tbl ps := fun z => by
  unfold LmO at z
  cases z
theorem clo_nil {cells : List (Str × Addr)} : ∀ {names : List (Str × NameKind)}, (∀ y ∈ names, y.2 ≠ .free) → cloFrom cells names [] = [] := by
  intro names h
  cases e : cloFrom cells names [] with
  | nil => rfl
  | cons p r =>
    have hm : p ∈ cloFrom cells names [] := by rw [e]; exact List.mem_cons_self
    obtain ⟨y, c⟩ := p
    rcases cloFrom_mem hm with z | ⟨z, _⟩
    · cases z
    · exact absurd rfl (h _ z)
def tLamV (T : List (Addr × Str)) (mk : Addr → LF) : TE := fun _ H Q => Tabs T H ∧ ∀ (f c' : Addr) (H1 : Hp), ExtN H H1 → (∀ b, H1 b = none → H b = none) → Tabs T H1 → H f = none → H1 f = some (LmO f (mk c')) → H1 c' = some (CodeO c' (mk c').qual) → Q (.ref f) H1
theorem inv_lam {X : Cx} {pins : List (Addr × Obj)} {σ : L2.St} {H : Hp} {s : Shared} {L : LF} {t' : Nat} {pm ctv : Value} (I : Inv X pins σ H s) :
    Inv X pins σ (upd H s.heap.objs.size (LmO s.heap.objs.size L)) { s with heap := s.heap.push { cls := .type "function", data := .func (L.fd pm ctv) }, toks := t' } := by
  refine I.laid (a := s.heap.objs.size) (fun b u e => Heap.get?_push_of_some _ e) (Nat.le_refl _) ?_
  have e : (s.heap.push ({ cls := .type "function", data := .func (L.fd pm ctv) } : Obj)).get? s.heap.objs.size = some ({ cls := .type "function", data := .func (L.fd pm ctv) } : Obj) := Heap.get?_push_size _ rfl
  exact ⟨⟨_, _, pm, ctv, e⟩, ⟨_, e⟩, fun h1 h2 ⟨od, sl, p, t, z⟩ st => ⟨od, sl, p, t, st _ z⟩⟩
theorem pe_lam {X : Cx} {T : List (Addr × Str)} {c P : Addr} {params : Arguments} {body : Expr} {scope : Scope} {pos : Pos} (TB : TabB X.base X.mg c P) (hcode : X.env.code = .ref c) (hm : (P, X.env.qual ++ "<lambda>") ∈ T) (hu : ∀ p ∈ T, p.1 = P → p.2 = X.env.qual ++ "<lambda>")
    (hdef : defaultsOf params X.env = ([], [])) (hfree : ∀ y ∈ scope.names, y.2 ≠ .free) : PE X (.Lambda params body scope pos) (tLamV T fun c' => ⟨X.env.qual ++ "<lambda>", params, body, scope, c'⟩) := ⟨fun pins s σ H Q I h => by
  obtain ⟨hT, h⟩ := h
  obtain ⟨ps, hP, ht, ha⟩ := (show TabS H P (X.env.qual ++ "<lambda>") from hT _ hm)
  have bP : s.heap.BuiltinsAt X.mg P := TB.bm.keeps I.bk
  have hP' : s.heap.get? P = some { cls := .none, data := .fields ps } := I.hok P _ hP
  have hcl : closureFor scope X.env = pure [] := by
    rw [closure_ok fun y hy e => absurd e (hfree y hy), clo_nil hfree]
  refine PySem.W.kla_eval hdef ?_
  cases hc : codeAmong pos ps.toList with
  | none =>
    refine PySem.W.kla_makeFunction (mg := X.mg) (c := c) (P := P) (ps := ps) hcl I.ok.glob (I.mod.glob.keeps I.bk) hcode (TB.code.keeps I.bk) hP' ht hc TB.gP bP fun c' ctv h' tk hx hge hlt hrec htb => ?_
    obtain ⟨c2, oc, vs, t, e2, hoc, hd, hv⟩ := hrec
    cases e2
    have nC : H c' = none := I.hok.fresh hge
    have I1 := inv_table (q := X.env.qual ++ "<lambda>") (t' := tk) (more := #[rawInt pos.line, rawInt pos.col, .ref c']) (h' := h') I hP (fun b o hb e => hx b o hb e) htb hge ⟨oc, vs, t, hoc, hd, hv⟩
    have hE : ExtN H (upd (upd H P (.tbl (ps ++ #[rawInt pos.line, rawInt pos.col, .ref c']))) c' (CodeO c' (X.env.qual ++ "<lambda>"))) := fun b o e n =>
      (upd_ne (ne_of_none e nC)).trans ((upd_ne fun z => n ps (Option.some.inj (e.symm.trans (by rw [z]; exact hP)))).trans e)
    have T1 : Tabs T (upd (upd H P (.tbl (ps ++ #[rawInt pos.line, rawInt pos.col, .ref c']))) c' (CodeO c' (X.env.qual ++ "<lambda>"))) := fun p hp => by
      by_cases hb : p.1 = P
      · rw [hu p hp hb, hb]
        have eL : (ps ++ #[rawInt pos.line, rawInt pos.col, .ref c']).toList = ps.toList ++ [rawInt pos.line, rawInt pos.col, .ref c'] := by simp
        refine ⟨_, (upd_ne (ne_of_none hP nC)).trans upd_same, by rw [eL]; exact PySem.TriplesOk_snoc _ _ _ _ ht, fun p' cv hcv => ?_⟩
        rcases among_app _ ht (by rw [eL] at hcv; exact hcv) with z | z
        · obtain ⟨c0, z1, z2⟩ := ha p' cv z
          exact ⟨c0, z1, hE _ _ z2 codeO_ne⟩
        · exact ⟨c', z, upd_same⟩
      · obtain ⟨ps', a1, a2, a3⟩ := hT p hp
        refine ⟨ps', (upd_ne (ne_of_none a1 nC)).trans ((upd_ne hb).trans a1), a2, fun p' cv hcv => ?_⟩
        obtain ⟨c0, z1, z2⟩ := a3 p' cv hcv
        exact ⟨c0, z1, hE _ _ z2 codeO_ne⟩
    have nF := I1.hok.fresh (Nat.le_refl _)
    have I2 := inv_lam (L := ⟨X.env.qual ++ "<lambda>", params, body, scope, c'⟩) (t' := tk) (pm := (X.mg "__name__").getD .none) (ctv := ctv) I1
    refine ⟨.ref h'.objs.size, _, I2, rfl, h h'.objs.size c' _ (fun b o e n => ?_) (fun b e => upd_none (upd_none (upd_none e))) (T1.ext fun b o e => (upd_ne (ne_of_none e nF)).trans e) (I.hok.fresh (Nat.le_trans hge (Nat.le_of_lt hlt))) upd_same ((upd_ne (Nat.ne_of_lt hlt)).trans upd_same)⟩
    have e1 := hE b o e n
    exact (upd_ne (ne_of_none e1 nF)).trans e1
  | some cv =>
    obtain ⟨c', e, hco⟩ := ha pos cv hc
    subst e
    refine PySem.W.kla_makeFunctionHit (mg := X.mg) (c := c) (P := P) (ps := ps) hcl I.ok.glob (I.mod.glob.keeps I.bk) hcode (TB.code.keeps I.bk) hP' ht hc bP fun ctv h' tk hx hsz => ?_
    have I1 : Inv X pins σ H { s with heap := h', toks := tk } := I.kept hx
    have nF : H h'.objs.size = none := I1.hok.fresh (Nat.le_refl _)
    have I2 := inv_lam (L := ⟨X.env.qual ++ "<lambda>", params, body, scope, c'⟩) (t' := tk) (pm := (X.mg "__name__").getD .none) (ctv := ctv) I1
    exact ⟨.ref h'.objs.size, _, I2, rfl, h h'.objs.size c' _ (fun b o e n => (upd_ne (ne_of_none e nF)).trans e) (fun b e => upd_none e) (hT.ext fun b o e => (upd_ne (ne_of_none e nF)).trans e) nF upd_same ((upd_ne (ne_of_none hco nF)).trans hco)⟩⟩
end HX

set_option Elab.async false
set_option linter.all false
set_option maxRecDepth 100000
set_option maxHeartbeats 4000000
/-! lambdas called by a local name -/
namespace HX
open PySem PySem.Spec PyProof.Rows L2 LamX NdefX
abbrev LF.nf (L : LF) : NF := ⟨"<lambda>", L.qual, L.params, [], L.scope, [], L.c⟩
theorem cells_none {h : Heap} {H : Hp} : CellsAt [] [] [] h H where
  len := rfl
  all := fun y c e => by cases e
  inj := fun x y c e => by cases e
  has := fun i y e => by cases e
/-- the promise of the lambda L at f -/
structure LOk (P : Program) (w : World) (K : PySem.W.Frag) (mg : Str → Option Value) (base : Heap) (CX : CXT) (k : Nat) (L : LF) (ps : List Str) (sp : Sp) : Prop where
  len : ∀ vs H Q E, sp vs H Q E → vs.length = ps.length
  run : ∀ (f : Addr) (A : Around) (outer : List Env) (s : Shared) (H : Hp) (us : List Value) (vs : List V) (Q : VK) (E : XK), Room k A → Env0 P w K mg base A outer s H → H f = some (LmO f L) → H L.c = some (CodeO L.c L.qual) → Vals vs us → sp vs H Q E →
    codeAny (model P w) A (.call (.ref f) ⟨us, []⟩) (CR CX outer P w H s Q E) s
theorem lok_of {P : Program} {w : World} {K : PySem.W.Frag} {mg : Str → Option Value} {base : Heap} {CX : CXT} {k : Nat} {L : LF} {ps : List Str} {sp : Sp} (S : NScope ps ps [] L.scope)
    (hb : ∀ (pm ctv : Value) (us : List Value), us.length = ps.length → bindArgs (L.fd pm ctv) ⟨us, []⟩ = pure (ps.zip us)) (len : ∀ vs H Q E, sp vs H Q E → vs.length = ps.length)
    (hbody : ∀ (f : Addr) (A : Around) (outer : List Env) (s : Shared) (H : Hp) (vs : List V) (Q : VK) (E : XK), Room k (A.deeper (envF L.nf f s.heap.objs.size)) → sp vs H Q E → ∃ t, PE (ncx CX P w K mg base ps L.nf f A outer s H E) L.body t ∧ t (startF ps vs []) H Q) :
    LOk P w K mg base CX (k + 1) L ps sp := by
  refine ⟨len, fun f A outer s H us vs Q E hr e0 hf hc r hsp => ?_⟩
  have hl := len _ _ _ _ hsp
  have lim : s.heap.NoLimit := e0.mod.nolimit.keeps fun b o e => (e0.bs b o e).1
  obtain ⟨⟨od, sl, pm, ctv, ho⟩, _, _⟩ := e0.hok f _ hf
  refine PySem.W.kla_callFunE hr.depth ho rfl S.co S.gen rfl (codeO_at e0.hok hc) ?_
  rw [hb pm ctv us (by rw [← r.length]; exact hl)]
  refine wpAny_pure (wpAny_newFunctionEnv S.nocell (fun ⟨n, _⟩ hy => S.par n (List.of_mem_zip hy).1) (fun h1 hns hsb => ⟨lim.fresh _ hsb, ?_⟩) S.kind)
  show codeAny _ _ (.expr L.body (envF L.nf f s.heap.objs.size)) _ _
  have kp : ∀ b o, s.heap.get? b = some o → h1.get? b = some o := fun b o e => hsb.extBut b o (Nat.ne_of_lt (Heap.lt_size e)) (Heap.get?_push_of_some _ e)
  obtain ⟨t, ht, hq⟩ := hbody f A outer s H vs Q E (hr.deeper _) hsp
  have I : Inv (ncx CX P w K mg base ps L.nf f A outer s H E) [] (startF ps vs []) H { s with heap := h1, toks := s.toks + (ps.zip us).length } := inv_startN S hr.hd e0 hl r cells_none hns kp
  refine PySem.W.kla_codeExpr (wpAny_mono (ht.run [] _ (startF ps vs []) H Q I hq) (fun v s' z => ?_) fun _ _ z => z)
  obtain ⟨x, H', J, rv, q⟩ := z
  exact ⟨x, H', J.os, J.bare, J.base, J.hok, rv, q⟩
/-- x(..): x holds one of the lambdas mk -/
def tCallL (mk : Nat → Addr → LF) (i : Nat) (sp : Nat → Sp) (E : XK) (t : TA) : TE := fun σ H Q => ∃ f j c', σ[i]? = some (some (.ref f)) ∧ H f = some (LmO f (mk j c')) ∧
  t σ H fun vs H1 => H1 f = some (LmO f (mk j c')) ∧ H1 (mk j c').c = some (CodeO (mk j c').c (mk j c').qual) ∧ sp j vs H1 Q E
theorem pe_callLm {X : Cx} {CX : CXT} {mk : Nat → Addr → LF} {ps : List Str} {i k m : Nat} {x : Str} {sp : Nat → Sp} {E : XK} {t : TA} {e : Expr} {es : List Expr} {p pos : Pos} (Fn : ∀ j c', LOk X.prog X.w X.K X.mg X.base CX k (mk j c') ps (sp j)) (hr : Room m X.A) (hk : k ≤ m) (hx : Passes CX X E) (hN : X.N[i]? = some x) (hv : Vis X.env.scope x) (ha : PA X (e :: es) t)
    (hd : (x == ("__debug__" : Str)) = false := by decide) (hcd : (x == ("__classdict__" : Str)) = false := by decide)
    (he : starEach (e :: es) X.env = (false, eval e X.env) :: starEach es X.env := by rfl) (hpl : (backTo pos (starEach es X.env)).any (·.1) = false := by rfl) :
    PE X (.Call (.Name x p) (e :: es) [] pos) (tCallL mk i sp E t) := ⟨fun pins s σ H Q I h => by
  obtain ⟨f, j, c', hs, hf, ht⟩ := h
  have at_ : ∀ {H' : Hp} {s' : Shared}, Inv X pins σ H' s' → H' f = some (LmO f (mk j c')) → PySem.W.FnAt f s'.heap := fun J q => by
    obtain ⟨⟨od, sl, pm, ctv, ho⟩, _, _⟩ := J.hok f _ q
    exact ⟨_, od, _, sl, ho⟩
  refine wpAny_Call_Name_kw (thn ((pe_var (pos := p) hN hv hd hcd).run pins s σ H (fun v H1 => v = .ref f ∧ H1 = H) I ⟨.ref f, hs, rfl, rfl⟩) fun u s1 ⟨v, H1, I1, r1, ev, eH⟩ => ?_)
  subst ev
  rw [eH] at I1
  obtain rfl : u = Value.ref f := r1
  refine PySem.W.callWith_F (first := []) (at_ I1 hf) (thn (ha.run pos pins s1 σ H _ I1 ht) fun us s2 ⟨vs, H2, I2, r, h1, h2, q⟩ => ⟨at_ I2 h1, ?_⟩) he hpl
  show wpAny _ _ (call (.ref f) us) _ _ _
  refine wpAny_call (codeAny_mono ((Fn j c').run f X.A X.stack s2 H2 us vs Q E (hr.mono hk) I2.env0 h1 h2 r q) fun z s' hq => ?_)
  cases z with
  | error e => exact hx pins σ H2 s2 e s' I2 hq
  | ok fl =>
    cases fl with
    | ret u => exact I2.after hq
    | next => exact False.elim hq
    | brk => exact False.elim hq
    | cont => exact False.elim hq⟩
end HX

set_option Elab.async false
set_option linter.all false
set_option maxRecDepth 100000
set_option maxHeartbeats 4000000
/-! dicts whose keys are known tuples of ints (the values ints): by what is true of the one object -/
namespace HX
open PySem PySem.Spec PyProof.Rows L2
def tdE (x : List Int × Addr × Value) : DictEntry := ⟨reduceHash (Builtin.Tuple.tupleHashOf (x.1.map hashInt)), .ref x.2.1, x.2.2⟩
def TdO (a : Addr) (xs : List (List Int × Addr × Value)) : HO := .ext fun h => ∃ o es ep, h.get? a = some o ∧ o.ExactDict ∧ o.data = .dict es ep ∧ es.toList = xs.map tdE ∧ (xs.map (·.1)).Nodup ∧ (a == sysModules) = false ∧ xs.length ≤ sizeLine
theorem tdE_eq (P : Program) (w : World) (x : List Int × Addr × Value) : entryOfKey (tupleKind (intKind P w)) x = tdE x := rfl
/-- the tuple at b is known, and holds these ints -/
def KnT (H : Hp) (b : Addr) (k : List Int) : Prop := ∃ o : Obj, H b = some (.frz o (.tup (k.map V.int))) ∧ o.cls = .type "tuple" ∧ o.dict = none
def KX (H : Hp) : List (List Int × Int) → List (List Int × Addr × Value) → Prop := Paired fun p q => p.1 = q.1 ∧ KnT H q.2.1 p.1 ∧ RelV (.int p.2) q.2.2
theorem KnT.mono {H H' : Hp} {b : Addr} {k : List Int} (h : KnT H b k) (e : ∀ b o, H b = some o → H' b = some o) : KnT H' b k := let ⟨o, h1, h2⟩ := h; ⟨o, e _ _ h1, h2⟩
theorem KX.mono {H H' : Hp} {kvs : List (List Int × Int)} {xs : List (List Int × Addr × Value)} (r : KX H kvs xs) (e : ∀ b o, H b = some o → H' b = some o) : KX H' kvs xs := Paired.mapP r fun _ _ z => ⟨z.1, z.2.1.mono e, z.2.2⟩
theorem KX.mono' {H H' : Hp} {kvs : List (List Int × Int)} {xs : List (List Int × Addr × Value)} (r : KX H kvs xs) (e : ∀ b k, KnT H b k → KnT H' b k) : KX H' kvs xs := Paired.mapP r fun _ _ z => ⟨z.1, e _ _ z.2.1, z.2.2⟩
theorem ints_are {P : Program} {w : World} : ∀ {ks : List Int} {us : List Value}, Vals (ks.map V.int) us → ItemsAre (intKind P w) ks us
  | [], _, r => by rw [List.map_nil] at r; cases r; exact .nil
  | k :: ks, _, r => by
    rw [List.map_cons] at r
    cases r with
    | cons h t =>
      obtain ⟨tk, rfl⟩ := h
      exact .cons (by simp [intKind, Value.isInt]) (ints_are t)
theorem KnT.is {P : Program} {w : World} {H : Hp} {h : Heap} {b : Addr} {k : List Int} (ok : HOk P w H h) (e : KnT H b k) : (tupleKind (intKind P w)).is h k b := by
  obtain ⟨o, e1, hc, _⟩ := e
  obtain ⟨ho, _, its, r, o', h1, h2, n, h3⟩ := ok b _ e1
  exact ⟨o', its.toArray, n, h1, h2, h3, by simpa using ints_are r⟩
/-- the value at a key -/
def valT (kvs : List (List Int × Int)) (k : List Int) : Option Int := (kvs.find? fun p => decide (p.1 = k)).map (·.2)
theorem KX.val {H : Hp} {kvs : List (List Int × Int)} {xs : List (List Int × Addr × Value)} (r : KX H kvs xs) (k : List Int) : RelO ((valT kvs k).map V.int) ((atKey xs k).map (·.2)) := by
  unfold KX at r
  induction r with
  | nil => exact True.intro
  | @cons p q ps qs h t ih =>
    obtain ⟨h1, _, h2⟩ := h
    by_cases e : p.1 = k
    · have e' : q.1 = k := h1.symm.trans e
      have b : atKey (q :: qs) k = some q.2 := by simp [atKey, List.find?_cons, e']
      have c : valT (p :: ps) k = some p.2 := by simp [valT, List.find?_cons, e]
      rw [b, c]; exact h2
    · have e' : ¬ q.1 = k := fun z => e (h1.trans z)
      have b : atKey (q :: qs) k = atKey qs k := by simp [atKey, List.find?_cons, e']
      have c : valT (p :: ps) k = valT ps k := by simp [valT, List.find?_cons, e]
      rw [b, c]; exact ih
theorem relO_some {a : Option V} {b : Option Value} (h : RelO a b) : a.isSome = b.isSome := by
  cases a <;> cases b <;> first | rfl | exact h.elim
section
variable {X : Cx} {pins : List (Addr × Obj)} {σ : L2.St} {H : Hp} {s : Shared} {a : Addr} {kvs : List (List Int × Int)} {xs : List (List Int × Addr × Value)}
/-- the dict, known or not -/
def TdAt (H : Hp) (a : Addr) (xs : List (List Int × Addr × Value)) : Prop := Rd H a (TdO a xs)
theorem td_of (I : Inv X pins σ H s) (e : TdAt H a xs) (k : KX H kvs xs) : (a == sysModules) = false ∧ xs.length ≤ sizeLine ∧ s.heap.DictOfH (tupleKind (intKind X.prog X.w)) a xs := by
  obtain ⟨⟨o, es, ep, h1, h2, h3, h4, h5, h6, h7⟩, _⟩ := (show ObjOk X.prog X.w H s.heap a (TdO a xs) from e.ok I.hok)
  refine ⟨h6, h7, o, es, ep, h1, h2, h3, h4, fun x hx => ?_, h5⟩
  have all : ∀ {l : List (List Int × Int)} {m : List (List Int × Addr × Value)}, KX H l m → ∀ x ∈ m, (tupleKind (intKind X.prog X.w)).is s.heap x.1 x.2.1 := by
    intro l m q
    unfold KX at q
    induction q with
    | nil => intro x hx; exact nomatch hx
    | @cons p q ps qs hq t ih =>
      intro x hx
      rcases List.mem_cons.mp hx with z | hx
      · subst z
        rw [← hq.1]
        exact hq.2.1.is I.hok
      · exact ih x hx
  exact all k x hx
end
/-! readings -/
def tTGet (td ty : TE) : TE := fun σ H Q => td σ H fun x H1 => ty σ H1 fun y H2 => ∃ a b xs kvs k v, x = .ref a ∧ y = .ref b ∧ TdAt H2 a xs ∧ KX H2 kvs xs ∧ KnT H2 b k ∧ valT kvs k = some v ∧ Q (.int v) H2
def tTNotIn (ty td : TE) : TE := fun σ H Q => ty σ H fun y H1 => td σ H1 fun x H2 => ∃ a b xs kvs k, x = .ref a ∧ y = .ref b ∧ TdAt H2 a xs ∧ KX H2 kvs xs ∧ KnT H2 b k ∧ Q (.bl (!(valT kvs k).isSome)) H2
def sTPut (td ty tv : TE) : TS := fun D σ H => tv σ H fun v H1 => td σ H1 fun x H2 => ty σ H2 fun y H3 => ∃ a b xs kvs k z, x = .ref a ∧ y = .ref b ∧ v = .int z ∧ H3 a = some (TdO a xs) ∧ KX H3 kvs xs ∧ KnT H3 b k ∧ valT kvs k = none ∧ xs.length < sizeLine ∧
  ∀ u, RelV (.int z) u → D.nx σ (upd H3 a (TdO a (xs ++ [(k, b, u)])))
section
variable {X : Cx} {o i value : Expr} {pos pos' : Pos} {td ty tv : TE}
theorem pe_tget (hu : X.A.units + 1 < cLine) (ho : PE X o td) (hi : PE X i ty) (hs : L2.NoSl i) : PE X (.Subscript o i pos) (tTGet td ty) := by
  constructor
  intro pins s σ H Q I h
  refine subD_of PySem.F.slot_dict_getitem.lookup hs (thn (ho.run pins s σ H _ I h) fun u sa ⟨x, Ha, Ia, rx, qa⟩ => thn (hi.run pins sa σ Ha _ Ia qa) fun iv sb ⟨y, Hb, Ib, ry, a, b, xs, kvs, k, v, ex, ey, ta, kx, kn, hv, qb⟩ => ?_)
  subst ex ey
  obtain rfl : u = Value.ref a := rx
  obtain rfl : iv = Value.ref b := ry
  obtain ⟨_, _, dd⟩ := td_of Ib ta kx
  refine ⟨dd.typeIs, ?_⟩
  have rv := kx.val k
  rw [hv] at rv
  cases hp : atKey xs k with
  | none => rw [hp] at rv; exact rv.elim
  | some p =>
    rw [hp] at rv
    exact wpAny_getItem_heap (tupleKind_room_in1 hu) (kn.is Ib.hok) dd hp ⟨.int v, Hb, Ib.tok _, rv, qb⟩
theorem pc_tnotin (hu : X.A.units + 1 < cLine) (hi : PE X i ty) (ho : PE X o td) : PC X .NotIn i o (tTNotIn ty td) := by
  constructor
  intro pins s σ H Q I h
  refine thn (hi.run pins s σ H _ I h) fun iv sa ⟨y, Ha, Ia, ry, qa⟩ => thn (ho.run pins sa σ Ha _ Ia qa) fun u sb ⟨x, Hb, Ib, rx, a, b, xs, kvs, k, ex, ey, ta, kx, kn, qb⟩ => ?_
  subst ex ey
  obtain rfl : u = Value.ref a := rx
  obtain rfl : iv = Value.ref b := ry
  obtain ⟨hd, _, dd⟩ := td_of Ib ta kx
  refine wpAny_notIn_heap (tupleKind_room_in1 hu) (kn.is Ib.hok) hd dd ?_
  have e := relO_some (kx.val k)
  rw [Option.isSome_map, Option.isSome_map] at e
  rw [← e]
  exact ⟨.bl (!(valT kvs k).isSome), Hb, Ib.tok _, rfl, qb⟩
theorem ps_tput (hu : X.A.units + 1 < cLine) (ho : PE X o td) (hi : PE X i ty) (hv : PE X value tv) (hs : swapsWith value (some (.Subscript o i pos')) pos.line X.env = pure false) :
    PS X (.Assign [.Subscript o i pos'] value pos) (sTPut td ty tv) := by
  constructor
  intro pins s σ H D I h
  refine wpAny_Assign_Subscript (thn (hv.run pins s σ H _ I h) fun r sa ⟨v, Ha, Ia, rv, qa⟩ => thn (ho.run pins sa σ Ha _ Ia qa) fun u sb ⟨x, Hb, Ib, rx, qb⟩ => thn (hi.run pins sb σ Hb _ Ib qb) fun iv sc ⟨y, Hc, Ic, ry, a, b, xs, kvs, k, z, ex, ey, ev, ta, kx, kn, hn, hl, qc⟩ => ?_) hs
  subst ex ey ev
  obtain rfl : u = Value.ref a := rx
  obtain rfl : iv = Value.ref b := ry
  obtain ⟨hd, hz, dd⟩ := td_of Ic (.inl ta) kx
  have hat : atKey xs k = none := by
    have e := relO_some (kx.val k)
    rw [hn, Option.isSome_map] at e
    cases q : atKey xs k with
    | none => rfl
    | some p => rw [q] at e; cases e
  refine wpAny_setItem_heap (hsz := hz) (tupleKind_room_in1 hu) (kn.is Ic.hok) dd fun h' dd' hs' => ⟨σ, _, ?_, qc r rv⟩
  rw [storedH_new hat] at dd'
  obtain ⟨q, es, ep, hq, g2, g3, g4, _, g5⟩ := dd'
  refine d_write Ic (by rw [ta]; exact True.intro) hs' ⟨q, hq⟩ ⟨⟨q, es, ep, hq, g2, g3, g4, g5, hd, by rw [List.length_append]; simp; omega⟩, ⟨q, hq⟩, fun h1 h2 p e => ?_⟩
  obtain ⟨o1, es1, ep1, w1, w2⟩ := p
  exact ⟨o1, es1, ep1, e o1 w1, w2⟩
end
/-- {k: v} -/
def tDisp1 (tk tv : TE) : TE := fun σ H Q => ∀ p, H p = none → tk σ (upd H p (TdO p [])) fun x H1 => tv σ H1 fun y H2 => H2 p = some (TdO p []) ∧ ∃ b k z, x = .ref b ∧ y = .int z ∧ KnT H2 b k ∧ ∀ u, RelV (.int z) u → Q (.ref p) (upd H2 p (TdO p [(k, b, u)]))
theorem tdo_stay (a : Addr) (xs : List (List Int × Addr × Value)) : ∀ h1 h2 : Heap, (∃ o es ep, h1.get? a = some o ∧ o.ExactDict ∧ o.data = .dict es ep ∧ es.toList = xs.map tdE ∧ (xs.map (·.1)).Nodup ∧ (a == sysModules) = false ∧ xs.length ≤ sizeLine) → (∀ o, h1.get? a = some o → h2.get? a = some o) →
    (∃ o es ep, h2.get? a = some o ∧ o.ExactDict ∧ o.data = .dict es ep ∧ es.toList = xs.map tdE ∧ (xs.map (·.1)).Nodup ∧ (a == sysModules) = false ∧ xs.length ≤ sizeLine) := fun h1 h2 p e => by
  obtain ⟨o1, es1, ep1, w1, w2⟩ := p
  exact ⟨o1, es1, ep1, e o1 w1, w2⟩
theorem pe_disp1 {X : Cx} {pos : Pos} {k v : Expr} {tk tv : TE} (hu : X.A.units + 1 < cLine) (hk : PE X k tk) (hv : PE X v tv) : PE X (.Dict [some k] [v] pos) (tDisp1 tk tv) := by
  constructor
  intro pins s σ H Q I h
  have hn := I.hok.fresh (Nat.le_refl s.heap.objs.size)
  have hsys : (s.heap.objs.size == sysModules) = false := beq_eq_false_iff_ne.mpr (Ne.symm (Nat.ne_of_lt I.big))
  have I1 := I.laid (a := s.heap.objs.size) (o := TdO s.heap.objs.size []) (h' := s.heap.push { cls := .type "dict", data := .dict #[] }) (t' := s.toks) (fun _ _ q => Heap.get?_push_of_some _ q) (Nat.le_refl _)
    ⟨⟨_, #[], 0, Heap.get?_push_size _ rfl, ⟨rfl, rfl, rfl⟩, rfl, rfl, List.nodup_nil, hsys, Nat.zero_le _⟩, ⟨_, Heap.get?_push_size _ rfl⟩, tdo_stay _ _⟩
  rw [arm_eval_Dict, zip_pairTrees [some k] [v] X.env pos rfl rfl, dictDisplay_pairs (pairTrees [some k] [v] X.env pos) (by simp [pairTrees]) (by simp [pairTrees])]
  refine wpAny_bind (wpAny_standAt (wpAny_bind ?_))
  unfold subDict
  refine wpAny_bind (wpAny_alloc ?_)
  refine wpAny_bind (wpAny_holding ?_)
  rw [if_pos (by simp [pairTrees])]
  refine wpAny_bind (pairTrees_cons_walk (thn (hk.run pins _ σ _ _ I1 (h _ hn)) fun u sa ⟨x, Ha, Ia, rx, qa⟩ => thn (hv.run pins sa σ Ha _ Ia qa) fun r sb ⟨y, Hb, Ib, ry, hp, b, ks, z, ex, ey, kn, qb⟩ => pairTrees_nil_walk ?_))
  subst ex ey
  obtain rfl : u = Value.ref b := rx
  obtain ⟨hd, hz, dd⟩ := td_of (kvs := []) Ib (.inl hp) .nil
  refine wpAny_holding ?_
  rw [List.forIn_cons]
  refine wpAny_bind (wpAny_bind (wpAny_bind (wpAny_dictSet_heap (hsz := by simp) (show (tupleKind (intKind X.prog X.w)).room X.A from Nat.lt_of_succ_lt hu) (kn.is Ib.hok) dd fun h' dd' hs' => wpAny_pure ?_)))
  rw [storedH_new rfl] at dd'
  obtain ⟨q, es, ep, hq, g2, g3, g4, _, g5⟩ := dd'
  have I2 : Inv X pins σ (upd Hb s.heap.objs.size (TdO s.heap.objs.size [(ks, b, r)])) { sb with heap := h', toks := sb.toks + (tupleKind (intKind X.prog X.w)).draws ks } :=
    d_write Ib (by rw [hp]; exact True.intro) hs' ⟨q, hq⟩ ⟨⟨q, es, ep, hq, g2, g3, g4, g5, hd, by simp [sizeLine_eq]⟩, ⟨q, hq⟩, tdo_stay _ _⟩
  show wpAny (model X.prog X.w) X.A (forIn ([] : List (Value × Value)) PUnit.unit _) _ _ _
  rw [List.forIn_nil]
  exact wpAny_pure (wpAny_pure (wpAny_pure (wpAny_pure ⟨.ref s.heap.objs.size, _, I2, rfl, qb r ry⟩)))
/-! the keys, walked: the dict is known -/
def Ikt (d : Addr) (o : Obj) (xs : List (List Int × Addr × Value)) : It :=
  ⟨fun i H => H d = some (.frz o (TdO d xs)) ∧ i < xs.length, fun i H x H' => H' = H ∧ ∃ e, xs[i]? = some e ∧ x = .ref e.2.1, fun i H => H d = some (.frz o (TdO d xs)) ∧ xs.length ≤ i⟩
theorem walk_kt {d : Addr} {o : Obj} {xs : List (List Int × Addr × Value)} : Walk (Ikt d o xs) xs.length (fun H => H d = some (.frz o (TdO d xs))) (fun i H x H' => H' = H ∧ ∃ e, xs[i]? = some e ∧ x = .ref e.2.1) :=
  ⟨fun i _ hi q => ⟨q, hi⟩, fun _ q => ⟨q, Nat.le_refl _⟩, fun i H v H' _ q y => y⟩
theorem td_frz {X : Cx} {pins : List (Addr × Obj)} {σ : L2.St} {H : Hp} {s : Shared} {d : Addr} {o : Obj} {xs : List (List Int × Addr × Value)} (I : Inv X pins σ H s) (h : H d = some (.frz o (TdO d xs))) :
    (d == sysModules) = false ∧ s.heap.get? d = some o ∧ o.ExactDict ∧ ∃ (es : Array DictEntry) (ep : Nat), o.data = .dict es ep ∧ es.size = xs.length ∧ ∀ (i : Nat) (e : List Int × Addr × Value), xs[i]? = some e → ∃ en : DictEntry, es[i]? = some en ∧ en.key = .ref e.2.1 := by
  obtain ⟨hd, ⟨o', es, ep, h1, h2, h3, h4, h5, h6, h7⟩, _⟩ := I.hok d _ h
  rw [hd] at h1
  cases h1
  refine ⟨h6, hd, h2, es, ep, h3, ?_, fun i e he => ?_⟩
  · have := congrArg List.length h4
    simpa using this
  · have q : es.toList[i]? = some (tdE e) := by rw [h4, List.getElem?_map, he]; rfl
    exact ⟨tdE e, by simpa using q, rfl⟩
section
variable {P : Program} {w : World} {K : PySem.W.Frag} {tg : Expr} {d : Addr} {o : Obj} {es : Array DictEntry} {ep : Nat}
theorem turn_kt {xs : List (List Int × Addr × Value)} (it : Addr) (hod : o.data = .dict es ep) : Turn P w K tg (Ikt d o xs) [it] it (fun i h => h.IsKeyIter it d i xs.length ep) where
  mem := by simp
  obj := fun i h st b hb => by
    have z : b = it := by simpa using hb
    subst z
    obtain ⟨oi, e, c, dd⟩ := st
    exact ⟨oi, e, fun v z => by rw [dd] at z; cases z⟩
  keep := fun i h h' st k => st.at fun oi e => k it (by simp) oi e
  item := by
    intro X hP hw hK hc i pins s σ H E I hf st hg
    subst hP hw hK
    obtain ⟨hd, hi⟩ := hg
    obtain ⟨f0, f1, f2, f3, f4, f5⟩ := hf it (by simp)
    obtain ⟨hs, hgd, hx, es', ep', hdt, hsz, ent⟩ := td_frz I hd
    obtain ⟨rfl, rfl⟩ := dict_ep hod hdt
    obtain ⟨e, he⟩ : ∃ p, xs[i]? = some p := ⟨xs[i], List.getElem?_eq_getElem hi⟩
    obtain ⟨en, hen, hkey⟩ := ent i e he
    refine next_key_item st hgd hdt hsz hen fun h' st' sb => ?_
    have Ia : Inv X pins σ H { s with heap := h' } := I.turned (t' := s.toks) (fun b ob hb z => (sb.2 b hb).trans z) f0 f1 f3 f4 f5
    obtain ⟨oi, w1, w2, w3⟩ := id st'
    exact ⟨en.key, rfl, go_of (s := { s with heap := h' }) w1 w2 w3 (by decide) ⟨.ref e.2.1, H, Ia, hkey, ⟨rfl, e, he, rfl⟩, st', fun b hb => (hf b hb).1⟩⟩
  done := by
    intro X hP hw hK hc i pins s σ H E I hf st hg
    subst hP hw hK
    obtain ⟨hd, hi⟩ := hg
    obtain ⟨f0, f1, f2, f3, f4, f5⟩ := hf it (by simp)
    obtain ⟨hs, hgd, hx, es', ep', hdt, hsz, ent⟩ := td_frz I hd
    obtain ⟨rfl, rfl⟩ := dict_ep hod hdt
    exact next_key_end (I.ok.hd hc) st hgd hdt hsz hi fun h' eb => ⟨rfl, I.turned (t' := s.toks) (fun b ob hb z => eb b ob hb z) f0 f1 f3 f4 f5⟩
  self := fun A i s Q E st h => by
    refine wpAny_pyIter_slot st.typeIs F.slot_dict_keyiterator_iter (wpAny_call_entry F.slot_dict_keyiterator_iter st.typeIs F.entry_dict_keyiterator_iter ?_ (F.args_dict_keyiterator_iter_1 _))
    show wpAny _ _ (ret (.ref it)) _ _ s
    exact wpAny_pure ⟨_, rfl, "dict_keyiterator", _, st.typeIs, F.slot_dict_keyiterator_next.lookup, h⟩
end
def iKt (td : TE) : TI := fun σ H R => td σ H fun x H1 => ∃ d o xs, x = .ref d ∧ H1 d = some (.frz o (TdO d xs)) ∧ R (Ikt d o xs) H1
theorem pi_kt {X : Cx} {tg e : Expr} {td : TE} (he : PE X e td) : PI X tg e (iKt td) := by
  constructor
  intro pins s σ H R I h
  refine thn (he.run pins s σ H _ I h) fun u sa ⟨x, Ha, Ia, rx, d, o, xs, ex, hd, qa⟩ => ?_
  subst ex
  obtain rfl : u = Value.ref d := rx
  obtain ⟨hs, hgd, hx, es, ep, hdt, hsz, ent⟩ := td_frz Ia hd
  refine iter_keys hs hgd hx hdt (pi_one (tk := sa.toks) Ia _ (turn_kt _ hdt) ⟨_, Heap.get?_push_size _ rfl, rfl, ?_⟩ qa)
  rw [hsz] <;> rfl
/-- a name that is read, its dict known from then on -/
def tVarK (i : Nat) : TE := fun σ H Q => ∃ a xs, σ[i]? = some (some (.ref a)) ∧ H a = some (TdO a xs) ∧ ∀ o, Q (.ref a) (upd H a (.frz o (TdO a xs)))
theorem pe_varK {X : Cx} {x : Str} {i : Nat} {pos : Pos} (h : PE X (.Name x pos) (tVar i)) : PE X (.Name x pos) (tVarK i) := by
  constructor
  intro pins s σ H Q I hq
  obtain ⟨a, xs, e, ha, q⟩ := hq
  refine thn (h.run pins s σ H (fun v H1 => v = .ref a ∧ H1 = H) I ⟨.ref a, e, rfl, rfl⟩) fun u sa ⟨v, Ha, Ia, rv, e1, e2⟩ => ?_
  subst e1 e2
  obtain ⟨od, Ib⟩ := Ia.lock ha True.intro
  exact ⟨.ref a, _, Ib, rv, q od⟩
end HX

set_option Elab.async false
set_option linter.all false
set_option maxRecDepth 100000
set_option maxHeartbeats 2000000
/-! sets of texts: set(t) of a tuple of texts, walked and sorted; turned from the worked ones for ints -/
namespace SX
open PySem PySem.Spec PyProof.Rows L2
def keyS (e : Int × Value) : Str := match e.2 with | .str k _ => k | _ => Str.empty
def GoodS (w : World) (e : Int × Value) : Prop := ∃ k tk, e.2 = Value.str k tk ∧ e.1 = hashStr w k

/-- the set of ints at a: S its members, n their number; its table rises and can be walked -/
def SetS (w : World) (h : Heap) (a : Addr) (S : Str → Bool) (n : Nat) : Prop :=
  ∃ o fs ee t, h.get? a = some o ∧ o.ExactSet ∧ o.data = .set fs ee t ∧ (∀ e ∈ fs.toList, GoodS w e) ∧ (fs.toList.map keyS).Nodup ∧ (∀ k, S k = true ↔ k ∈ fs.toList.map keyS) ∧
    fs.size < scanBound ∧ t.fits fs.size = true ∧ fs.size = n ∧ Ris t.place.toList ∧ (w.params.followText "set-order" = true ∨ t.led = true)

section
variable {P : Program} {w : World} {h h' : Heap} {a : Addr} {S : Str → Bool} {n : Nat}

theorem SetS.at (R : SetS w h a S n) (k : ∀ o, h.get? a = some o → h'.get? a = some o) : SetS w h' a S n := by
  obtain ⟨o, fs, ee, t, eo, r⟩ := R
  exact ⟨o, fs, ee, t, k o eo, r⟩
theorem SetS.lt (R : SetS w h a S n) : a < h.objs.size := by
  obtain ⟨o, fs, ee, t, eo, r⟩ := R
  exact Heap.lt_size eo
theorem SetS.congr {S' : Str → Bool} (R : SetS w h a S n) (e : ∀ k, S' k = S k) : SetS w h a S' n := by
  have q : S' = S := funext e
  rw [q]; exact R
theorem goodS_elems {l : List (Int × Value)} (gd : ∀ e ∈ l, GoodS w e) : ElemsOf (strKind P w) l := fun e he => by
  obtain ⟨k, tk, h1, h2⟩ := gd e he
  exact ⟨⟨k, by rw [h1]; exact strKind_is P w k tk, h2⟩, by rw [h1] <;> rfl⟩
theorem goodS_is {e : Int × Value} (gd : GoodS w e) (k : Str) : (strKind P w).is k e.2 = true ↔ keyS e = k := by
  obtain ⟨k0, tk, h1, _⟩ := gd
  unfold keyS
  rw [h1]
  show (Value.isStrOf k (.str k0 tk) = true) ↔ k0 = k
  exact beq_iff_eq
theorem goodS_mem {l : List (Int × Value)} (gd : ∀ e ∈ l, GoodS w e) (k : Str) : k ∈ l.map keyS ↔ ∃ e ∈ l, (strKind P w).is k e.2 = true := by
  rw [List.mem_map]
  constructor
  · rintro ⟨e, he, q⟩
    exact ⟨e, he, (goodS_is (gd e he) k).2 q⟩
  · rintro ⟨e, he, q⟩
    exact ⟨e, he, (goodS_is (gd e he) k).1 q⟩
theorem SetS.setOf (R : SetS w h a S n) : h.SetOf (strKind P w) a S n := by
  obtain ⟨o, fs, ee, t, eo, hx, ed, gd, ndp, mm, bd, ft, nn, _⟩ := R
  exact ⟨o, fs, ee, t, eo, hx, ed, goodS_elems gd, fun k => (mm k).trans (goodS_mem gd k), bd, ft, nn⟩
end

section
variable {P : Program} {w : World} {A : Around} {E : Value → Shared → Prop} {s : Shared} {a : Addr} {S : Str → Bool} {n : Nat}

/-! ### add -/
theorem storeS_at {h : Heap} {a : Addr} {o : Obj} {fs es' : Array (Int × Value)} {ee : Nat} {t t' : SetTable} (eo : h.get? a = some o) (ed : o.data = .set fs ee t) :
    (h.update a (Obj.putSet es' t')).get? a = some { o with data := .set es' (ee + 1) t' } := by
  have q := Heap.get?_update_self (Obj.putSet es' t') eo (by rw [putSet_of es' t' ed]; rfl)
  rw [putSet_of es' t' ed] at q
  exact q

theorem setS_add_tail {gd : Bool → Sem Unit} (hg : ∀ (b : Bool) (s₁ : Shared) (Q' : Unit → Shared → Prop), Q' () s₁ → wpAny (model P w) A (gd b) Q' E s₁)
    {o : Obj} {fs : Array (Int × Value)} {ee : Nat} {t : SetTable} (eo : s.heap.get? a = some o) (ex : o.ExactSet) (ed : o.data = .set fs ee t)
    {fs1 : Array (Int × Value)} {tt2 : SetTable} {S' : Str → Bool} (gd1 : ∀ e ∈ fs1.toList, GoodS w e) (ndp1 : (fs1.toList.map keyS).Nodup) (mm1 : ∀ k, S' k = true ↔ k ∈ fs1.toList.map keyS)
    (bd1 : fs1.size < scanBound) (ft2 : tt2.fits fs1.size = true) (rs : Ris tt2.place.toList) (ld : w.params.followText "set-order" = true ∨ tt2.led = true) {wasDummy : Bool} {R : Option Bool → Shared → Prop}
    (kR : ∀ h', Heap.SameBut a s.heap h' → SetS w h' a S' fs1.size → R (some true) { s with heap := h' }) :
    wpAny (model P w) A (do
        storeSet a fs1 tt2
        if (!wasDummy && tt2.tooFull) = true then do
            gd (relayAll tt2 fs1 (SetTable.grown fs1.size)).2.2
            storeSet a (relayAll tt2 fs1 (SetTable.grown fs1.size)).1 (relayAll tt2 fs1 (SetTable.grown fs1.size)).2.1
            pure (some true)
          else pure (some true)) R E s := by
  refine wpAny_bind (wpAny_storeSet_of eo ed ?_ (fits_of_scanBound bd1))
  have eo1 := storeS_at (es' := fs1) (t' := tt2) eo ed
  have sm1 := Heap.SameBut.update s.heap a (Obj.putSet fs1 tt2)
  split
  · have pe := relayAll_perm tt2 fs1 (SetTable.grown fs1.size)
    have ft3 := relayAll_fits tt2 fs1 (SetTable.grown fs1.size)
    have rs3 := relayAll_ris tt2 fs1 (SetTable.grown fs1.size)
    have ld3 := relayAll_led tt2 fs1 (SetTable.grown fs1.size)
    generalize relayAll tt2 fs1 (SetTable.grown fs1.size) = Z at pe ft3 rs3 ld3 ⊢
    obtain ⟨fs2, tt3, gave⟩ := Z
    dsimp only at pe ft3 rs3 ld3 ⊢
    have zz : fs2.size = fs1.size := by rw [← Array.length_toList, pe.length_eq, Array.length_toList]
    have bd2 : fs2.size < scanBound := by rw [zz]; exact bd1
    refine wpAny_bind (hg _ _ _ ?_)
    refine wpAny_bind (wpAny_storeSet_of eo1 rfl ?_ (fits_of_scanBound bd2))
    have eo2 := storeS_at (es' := fs2) (t' := tt3) eo1 rfl
    refine wpAny_pure (kR _ (sm1.trans (Heap.SameBut.update _ a _)) ?_)
    exact ⟨_, fs2, _, tt3, eo2, ex, rfl, fun e he => gd1 e (pe.mem_iff.mp he), (pe.map keyS).nodup_iff.mpr ndp1, fun k => (mm1 k).trans (pe.map keyS).mem_iff.symm, bd2, ft3, zz, rs3,
      ld.imp id fun z => by rw [ld3]; exact z⟩
  · exact wpAny_pure (kR _ sm1 ⟨_, fs1, _, tt2, eo1, ex, rfl, gd1, ndp1, mm1, bd1, ft2, rfl, rs, ld⟩)

theorem setS_add_hashed {k : Str} {tk : Tok} {Q : Bool → Shared → Prop} (R : SetS w s.heap a S n) (room : n + 1 < scanBound)
    (kQ : ∀ h', Heap.SameBut a s.heap h' → SetS w h' a (fun j => S j || decide (j = k)) (if S k = true then n else n + 1) → Q (!S k) { s with heap := h' }) :
    wpAny (model P w) A (setAddHashed a (.str k tk) ((strKind P w).hash k)) Q E s := by
  obtain ⟨o, fs, ee, t, eo, ex, ed, gd, ndp, mm, bd, ft, nn, rs, ld⟩ := R
  have kk : (strKind P w).is k (.str k tk) = true := strKind_is P w k tk
  have sc : (Value.str k tk).scannable = true := rfl
  have el : ElemsOf (strKind P w) fs.toList := goodS_elems gd
  unfold setAddHashed setAddHashedIn
  refine wpAny_holding (wpAny_bind (wpAny_setState_of eo ed ft ?_))
  dsimp only
  rw [byScan_of sc bd el]
  simp only [↓reduceIte]
  unfold setAddByScan
  refine wpAny_bind ?_
  refine wpAny_bind (wpAny_rule ?_)
  refine wpAny_bind (wpAny_setScan_of kk eo ed ft el ?_)
  cases fi : List.findIdx? (fun e => (strKind P w).is k e.2) fs.toList with
  | some j =>
    dsimp only
    obtain ⟨jj, pjj, _⟩ := List.findIdx?_eq_some_iff_getElem.mp fi
    have sK : S k = true := (mm k).2 ((goodS_mem (P := P) (w := w) gd k).2 ⟨fs.toList[j], List.getElem_mem jj, pjj⟩)
    refine wpAny_pure (wpAny_pure ?_)
    have q := kQ s.heap (Heap.SameBut.refl a s.heap) ⟨o, fs, ee, t, eo, ex, ed, gd, ndp, fun i => by
      rw [Bool.or_eq_true, decide_eq_true_eq, ← mm i]
      exact ⟨fun z => z.elim id (fun e => e ▸ sK), .inl⟩, bd, ft, by rw [if_pos sK]; exact nn, rs, ld⟩
    rw [sK] at q
    exact q
  | none =>
    dsimp only
    have nK : k ∉ fs.toList.map keyS := fun z => by
      obtain ⟨e, he, q⟩ := (goodS_mem (P := P) (w := w) gd k).1 z
      have c := List.findIdx?_eq_none_iff.mp fi e he
      rw [q] at c
      cases c
    have sK : S k = false := by
      cases q : S k with
      | false => rfl
      | true => exact absurd ((mm k).1 q) nK
    have gw : ∀ (b : Bool) {s₁ : Shared} {Q' : Unit → Shared → Prop}, Q' () s₁ → wpAny (model P w) A (match b with | true => rule "set.scan.the-table-gave-way" | false => pure ()) Q' E s₁ :=
      fun b s₁ Q' q => by cases b <;> first | exact wpAny_pure q | exact wpAny_rule q
    have pe := layNew_perm t fs ((strKind P w).hash k) (.str k tk)
    have ft1 := layNew_fits t fs ((strKind P w).hash k) (.str k tk)
    have rs1 := layNew_ris t fs ((strKind P w).hash k) (.str k tk) rs
    have ld1 := layNew_led t fs ((strKind P w).hash k) (.str k tk)
    generalize layNew t fs ((strKind P w).hash k) (.str k tk) = Z at pe ft1 rs1 ld1 ⊢
    obtain ⟨fs1, tt1, wasDummy, gave⟩ := Z
    dsimp only at pe ft1 rs1 ld1 ⊢
    rw [Array.toList_push] at pe
    have pd : fs1.toList.Perm (((strKind P w).hash k, Value.str k tk) :: fs.toList) := pe.trans (List.perm_append_singleton _ _)
    have pq : (fs1.toList.map keyS).Perm (k :: fs.toList.map keyS) := pd.map keyS
    have gd1 : ∀ e ∈ fs1.toList, GoodS w e := fun e he => by
      rcases List.mem_cons.mp (pd.mem_iff.mp he) with z | z
      · rw [z]; exact ⟨k, tk, rfl, rfl⟩
      · exact gd e z
    have ndp1 : (fs1.toList.map keyS).Nodup := pq.nodup_iff.mpr (List.nodup_cons.mpr ⟨nK, ndp⟩)
    have mm1 : ∀ i, (S i || decide (i = k)) = true ↔ i ∈ fs1.toList.map keyS := fun i => by
      rw [Bool.or_eq_true, decide_eq_true_eq, mm i, pq.mem_iff, List.mem_cons]
      exact Or.comm
    have zz : fs1.size = n + 1 := by rw [← Array.length_toList, pd.length_eq, List.length_cons, Array.length_toList, nn]
    have bd1 : fs1.size < scanBound := by rw [zz]; exact room
    have lled : w.params.followText "set-order" = true ∨ tt1.led = true := ld.imp id fun z => by rw [ld1]; exact z
    have fn : ∀ h', Heap.SameBut a s.heap h' → SetS w h' a (fun j => S j || decide (j = k)) fs1.size → Q true { s with heap := h' } := fun h' sb r => by
      have q := kQ h' sb
      rw [sK] at q
      rw [zz] at r
      exact q r
    refine wpAny_bind (gw _ ?_)
    split
    · refine wpAny_bind ?_
      rw [hashByValue_scannable 8 sc]
      refine wpAny_pure ?_
      refine setS_add_tail ?_ eo ex ed gd1 ndp1 mm1 bd1 ?_ ?_ ?_ ?_
      · intro b s₁ Q' q; cases b <;> first | exact wpAny_pure q | exact wpAny_rule q
      · first | (split <;> first | exact ft1 | exact SetTable.fits_plain_off ft1) | exact ft1
      · first | (split <;> exact rs1) | exact rs1
      · first | (split <;> exact lled) | exact lled
      · intro h' sb r; dsimp only; exact wpAny_pure (fn h' sb r)
    · refine wpAny_bind (wpAny_pure ?_)
      simp only [↓reduceIte]
      refine setS_add_tail ?_ eo ex ed gd1 ndp1 mm1 bd1 ft1 rs1 lled ?_
      · intro b s₁ Q' q; cases b <;> first | exact wpAny_pure q | exact wpAny_rule q
      · intro h' sb r; dsimp only; exact wpAny_pure (fn h' sb r)

end
/-! ### set(t) of a tuple of ints -/
theorem setS_new_at {w : World} {h : Heap} {a : Addr} {ns : List Str} (eo : h.get? a = some { cls := .type "set", dict := none, data := .set #[] 0 (.fresh 0 0 (!w.params.followText "set-order")) }) : SetS w h a (fun j => decide (j ∈ ns.take 0)) 0 :=
  ⟨_, #[], 0, _, eo, ⟨rfl, rfl, rfl⟩, rfl, (fun e he => by simp at he), (by simp), (fun k => by simp), (by decide), (by rfl), rfl, List.Pairwise.nil, by
    show _ ∨ (!w.params.followText "set-order") = true
    cases w.params.followText "set-order"
    · exact .inr rfl
    · exact .inl rfl⟩
section
variable {P : Program} {w : World} {A : Around} {E : Value → Shared → Prop} {s : Shared}
theorem set_update_strs {I : Addr} {fp wr : List Addr} {G : Array GenState → Array GenState → Prop} {n : Nat} {Pv : Nat → Value → Prop} {St : Nat → Shared → Prop} {R : Result → Shared → Prop}
    (W : WalksS P w A.in1 I fp wr G n Pv St) (S : Addr) (sf : S ∉ fp) (ns : List Str) (nn : n = ns.length) (bd : ns.length + 1 < scanBound) (vl : ∀ i v, Pv i v → ∃ k t, ns[i]? = some k ∧ v = .str k t) :
    ∀ (k i : Nat) (s : Shared), n - i = k → i ≤ n → St i s → (∃ c, c ≤ i ∧ SetS w s.heap S (fun j => decide (j ∈ ns.take i)) c) →
      (∀ s' c, Moved (S :: wr) G s s' → c ≤ n → SetS w s'.heap S (fun j => decide (j ∈ ns)) c → R (.ok (.ret .none)) s') →
      codeAny (model P w) A (.builtin "set.update.loop" ⟨[.ref S, .ref I], []⟩) R s := by
  have sw : S ∉ wr := fun h => sf (W.sub _ h)
  have sb : ∀ b ∈ wr, b ∈ S :: wr := fun b bd => List.mem_cons_of_mem _ bd
  intro k
  induction k with
  | zero =>
    intro i s kk2 ii st1 ⟨c, cc, sS⟩ kR
    have in1 : i = n := by omega
    subst in1
    refine codeAny_builtin F.entry_set_update_loop ?_
    rw [Around.under_plainId F.plain_set_update_loop _]
    show wpAny _ A.in1 (pyNext (.ref I) >>= _) _ _ s
    refine wpAny_bind (W.done s _ _ st1 fun s' mm => ?_)
    show wpAny _ A.in1 (ret Value.none) _ _ s'
    have e : ns.take i = ns := List.take_of_length_le (by omega)
    rw [e] at sS
    exact wpAny_pure (kR s' c (mm.mono sb) cc (sS.at fun o e => mm.heap S o sw e))
  | succ k ih =>
    intro i s kk2 ii st1 ⟨c, cc, sS⟩ kR
    have lt1 : i < n := by omega
    refine codeAny_builtin F.entry_set_update_loop ?_
    rw [Around.under_plainId F.plain_set_update_loop _]
    show wpAny _ A.in1 (pyNext (.ref I) >>= _) _ _ s
    refine wpAny_bind (W.item i s _ _ lt1 st1 fun v s' pP st' mm => ?_)
    obtain ⟨z, t, z1, rfl⟩ := vl i v pP
    have sS' : SetS w s'.heap S (fun j => decide (j ∈ ns.take i)) c := sS.at fun o e => mm.heap S o sw e
    show wpAny _ A.in1 (holding [Value.str z t] (setAdd S (.str z t)) >>= _) _ _ s'
    refine wpAny_bind (wpAny_holding ?_)
    unfold setAdd
    refine wpAny_holding ?_
    refine wpAny_bind ((strKind P w).pyHash (k := z) (strKind_is _ _ _ _) ?_)
    refine setS_add_hashed (s := { s' with toks := s'.toks + 1 }) sS' (by omega) fun h' smb sS2 => ?_
    have sS3 : SetS w h' S (fun j => decide (j ∈ ns.take (i + 1))) (if decide (z ∈ ns.take i) = true then c else c + 1) := sS2.congr fun j => by
      rw [List.take_add_one, z1]
      simp [List.mem_append]
    have cc3 : (if decide (z ∈ ns.take i) = true then c else c + 1) ≤ i + 1 := by
      split <;> omega
    refine wpAny_pure ⟨plainId_quiet F.plain_set_update_loop _, ih (i + 1) _ (by omega) lt1 (W.frame _ s' _ _ st' (Nat.le_succ _) fun b bd o e => ?_) ⟨_, cc3, sS3⟩ fun s'' c2 hm'' hc'' hS'' => ?_⟩
    · rw [smb.2 b (fun h : b = S => sf (by rw [← h]; exact bd))]; exact e
    · refine kR s'' c2 (Moved.trans W.gtrans ((mm.mono sb).then_heap (Nat.le_succ _) fun b o bd e => ?_) hm'') hc'' hS''
      rw [smb.2 b (fun h : b = S => bd (by rw [h]; exact List.mem_cons_self))]; exact e

end
section
variable {P : Program} {w : World} {A : Around} {E : Value → Shared → Prop} {s : Shared}
set_option maxRecDepth 100000 in
set_option maxHeartbeats 3200000 in
theorem call_set_tupT {l : Addr} {items : Array Value} (ns : List Str) {Q : Value → Shared → Prop} (eh : A.handled = none) (ld : s.heap.IsTuple l items) (it : StrsAre items.toList ns) (bd : ns.length + 1 < scanBound)
    (h : ∀ (h' : Heap) (tk c : Nat), SetS w h' s.heap.objs.size (fun j => decide (j ∈ ns)) c → c ≤ ns.length → (∀ b o, s.heap.get? b = some o → h'.get? b = some o) → Q (.ref s.heap.objs.size) { s with heap := h', toks := tk }) :
    wpAny (model P w) A (call (.type "set") [.ref l]) Q E s := by
  have iz : items.size = ns.length := by
    have q := StrsAre.length it
    rw [Array.length_toList] at q
    exact q
  obtain ⟨c, tl, mr⟩ := F.called_set.mro
  have md := F.called_set.made
  have sb := F.called_set.sub
  refine wpAny_call (codeAny_of_tree ?_)
  show wpAny _ _ (callAny (.type "set") _) _ _ _
  refine wpAny_pure ⟨Code.quiet_builtin _ (by decide +kernel), codeAny_builtin F.entry_type_call ?_⟩
  rw [Around.under_plain (weight_type_call_type "set" [.ref l] []) rfl]
  have h1 := F.called_set.notType
  have h2 := F.called_set.canCreate
  have ct := F.typeCall_set_1 (.ref l)
  repeat (any_goals (first | assumption | wp_step))

  refine codeAny_mono (code_set_led1 (.ref l) (E := E) (Q₁ := fun obj s₁ => obj = .ref s.heap.objs.size ∧ s₁ = { s with heap := s.heap.push { cls := .type "set", dict := none, data := .set #[] 0 (.fresh 0 0 (!w.params.followText "set-order")) } }) ⟨rfl, rfl⟩) fun r s₁ rs => ?_
  cases r with
  | error e => exact rs
  | ok fl =>
    cases fl with
    | ret obj =>
      obtain ⟨rfl, rfl⟩ := rs
      have sS : (s.heap.push { cls := .type "set", dict := none, data := .set #[] 0 (.fresh 0 0 (!w.params.followText "set-order")) }).get? s.heap.objs.size = some { cls := .type "set", dict := none, data := .set #[] 0 (.fresh 0 0 (!w.params.followText "set-order")) } := Heap.get?_push_size _ rfl
      have tT : Shared.TypeIs { s with heap := s.heap.push { cls := .type "set", dict := none, data := .set #[] 0 (.fresh 0 0 (!w.params.followText "set-order")) } } (.ref s.heap.objs.size) "set" := ⟨_, sS, rfl⟩
      have li := F.called_set.init.lookup
      have bi := F.called_set.init.bind (.ref s.heap.objs.size)
      repeat (any_goals (first | assumption | wp_step))

      refine codeAny_mono (codeAny_call_builtin (R := wants (fun r s₂ => r = .none ∧ ∃ h' tk c, s₂ = { s with heap := h', toks := tk } ∧ SetS w h' s.heap.objs.size (fun j => decide (j ∈ ns)) c ∧ c ≤ ns.length ∧
          (∀ b o, s.heap.get? b = some o → h'.get? b = some o)) E) F.called_set.init.plain F.entry_set_init (check_set_init_1 tT ?_)) fun r₂ s₂ hr₂ => ?_
      · obtain ⟨ol, ol1, cl1, nl, dl1⟩ := ld
        obtain ⟨ocls, odict, odata, oslots⟩ := ol
        simp only at cl1 dl1
        subst cl1; subst dl1
        have ol' : (s.heap.push { cls := .type "set", dict := none, data := .set #[] 0 (.fresh 0 0 (!w.params.followText "set-order")) }).get? l = some { cls := .type "tuple", dict := odict, data := .seq items nl, slots := oslots } := Heap.get?_push_of_some _ ol1
        have sls := F.sub_tuple_set
        have slf := F.sub_tuple_frozenset
        have ne1 : (Value.type "tuple" == Value.type "dict") = false := by decide
        have ld1 : (s.heap.push { cls := .type "set", dict := none, data := .set #[] 0 (.fresh 0 0 (!w.params.followText "set-order")) }).IsTuple l items := ⟨_, ol', rfl, nl, rfl⟩
        unfold Builtin.«set.__init__» noKeywords Builtin.Frozenset.updateFrom
        generalize ppi : pyIter = PI
        wp_walk
        subst ppi

        refine wpAny_pyIter_tuple ld1 ?_
        refine wpAny_bind (wpAny_runValue ?_)
        have lS : l < s.heap.objs.size := Heap.lt_size ol1
        have eh3 : A.in1.in1.in1.handled = none := by simp [eh]
        have zz1 : (s.heap.push { cls := .type "set", dict := none, data := .set #[] 0 (.fresh 0 0 (!w.params.followText "set-order")) }).objs.size = s.heap.objs.size + 1 := Heap.size_push ..
        have neI : l ≠ (s.heap.push { cls := .type "set", dict := none, data := .set #[] 0 (.fresh 0 0 (!w.params.followText "set-order")) }).objs.size := by
          rw [Heap.size_push]; exact Nat.ne_of_lt (Nat.lt_succ_of_lt lS)
        have sf : s.heap.objs.size ∉ [(s.heap.push { cls := .type "set", dict := none, data := .set #[] 0 (.fresh 0 0 (!w.params.followText "set-order")) }).objs.size, l] := by
          rw [Heap.size_push]; simp only [List.mem_cons, List.mem_singleton, List.not_mem_nil, or_false, not_or]
          exact ⟨Nat.ne_of_lt (Nat.lt_succ_self _), Nat.ne_of_gt lS⟩
        have vl : ∀ (i : Nat) (v : Value), items[i]? = some v → ∃ k t, ns[i]? = some k ∧ v = .str k t := fun i v hv => by
          have ii : i < ns.length := by rw [← iz]; exact (Array.getElem?_eq_some_iff.mp hv).1
          obtain ⟨t, e⟩ := SS.strs_at it i v (by rw [Array.getElem?_toList]; exact hv)
          refine ⟨ns[i], t, List.getElem?_eq_getElem ii, ?_⟩
          rw [e, List.getD_eq_getElem?_getD, List.getElem?_eq_getElem ii] <;> rfl
        refine set_update_strs ((Walks.tuple eh3 _ l neI items).toS) s.heap.objs.size
          sf ns iz bd vl (items.size - 0) 0 _ (by omega) (Nat.zero_le _)
          ⟨⟨_, Heap.get?_push_size _ rfl, rfl, rfl⟩, (ld1.push _)⟩ ?hS0 ?kR
        case hS0 =>
          have gt : ((s.heap.push { cls := .type "set", dict := none, data := .set #[] 0 (.fresh 0 0 (!w.params.followText "set-order")) }).push { cls := .type "tuple_iterator", data := .fields #[.ref l, .int 0 0] }).get? s.heap.objs.size
              = some { cls := .type "set", dict := none, data := .set #[] 0 (.fresh 0 0 (!w.params.followText "set-order")) } := Heap.get?_push_of_some _ sS
          exact ⟨0, Nat.le_refl 0, setS_new_at gt⟩
        case kR =>
          intro s' c' mm cc' sS'
          obtain ⟨h', g2, d', tk', os'⟩ := s'
          have eg : g2 = s.gens := mm.gens
          have ed : d' = s.drawn := mm.drawn
          have eo : os' = s.os := mm.os
          subst eg; subst ed; subst eo
          show wpAny _ _ _ _ _ _
          refine wpAny_pure ?_
          show wpAny _ _ (ret Value.none) _ _ _
          rw [iz] at cc'
          refine wpAny_pure ⟨rfl, h', tk', c', rfl, sS', cc', fun b o e => ?_⟩
          have hb0 : b < s.heap.objs.size := Heap.lt_size e
          have bd1 : b ≠ s.heap.objs.size := Nat.ne_of_lt hb0
          have bd2 : b ≠ (s.heap.push { cls := .type "set", dict := none, data := .set #[] 0 (.fresh 0 0 (!w.params.followText "set-order")) }).objs.size := by
            rw [Heap.size_push]; exact Nat.ne_of_lt (Nat.lt_succ_of_lt hb0)
          exact mm.heap b o (by simp only [List.mem_cons, List.mem_singleton, List.not_mem_nil, or_false, not_or]; exact ⟨bd1, bd2⟩) (Heap.get?_push_of_some _ (Heap.get?_push_of_some _ e))

      · cases r₂ with
        | error e => exact hr₂
        | ok fl₂ =>
          cases fl₂ with
          | ret r =>
            obtain ⟨rfl, h', tk, c', rfl, sS', cc', kk2⟩ := hr₂
            repeat (any_goals (first | assumption | wp_step))
            exact h _ _ _ sS' cc' kk2
          | _ => exact hr₂.elim
    | _ => exact rs.elim

end
end SX

set_option Elab.async false
set_option linter.all false
set_option maxRecDepth 100000
set_option maxHeartbeats 2000000
/-! sorted(set(t)), len(set(t)) -/
namespace SX
open PySem PySem.Spec PyProof.Rows L2
theorem strs_of : ∀ (l : List Value), (∀ v ∈ l, ∃ k tk, v = Value.str k tk) → StrsAre l (l.map fun v => keyS (0, v))
  | [], _ => .nil
  | v :: l, h => by
    obtain ⟨k, tk, rfl⟩ := h v List.mem_cons_self
    exact .cons k tk (strs_of l fun u hu => h u (List.mem_cons_of_mem _ hu))
section
variable {P : Program} {w : World} {A : Around} {E : Value → Shared → Prop} {s : Shared} {a : Addr}
theorem sorted_setS {S : Str → Bool} {n : Nat} {Q : Value → Shared → Prop} (R : SetS w s.heap a S n) (eh : A.handled = none) (n64 : n < 64)
    (kQ : ∀ s' p (out : Array Value) (c : Nat) (ys : List Str), (∀ b o, s.heap.get? b = some o → s'.heap.get? b = some o) → s'.gens = s.gens → s'.os = s.os → s.heap.objs.size ≤ p →
      s'.heap.get? p = some (seqObj "list" out c) → StrsAre out.toList ys → sortedS ys = true → ys.Nodup → (∀ k, k ∈ ys ↔ S k = true) → ys.length = n → Q (.ref p) s') :
    wpAny (model P w) A (call (.builtin "sorted") [.ref a]) Q E s := by
  obtain ⟨o, fs, ee, t, eo, ex, ed, gd, ndp, mm, bd, ft, nn, rs, ld⟩ := R
  refine Calls.call_function_entry PyProof.Rows.kind_sorted PyProof.Rows.plain_sorted PyProof.Rows.entry_sorted (PyProof.Rows.args_sorted1 _) ?_
  unfold Builtin.«sorted»
  refine wpAny_bind (m := checkCount "sorted" 1 1 _) (wpAny_pure ?_)
  refine wpAny_bind (collect_set (A := A.in1) eh ⟨o, eo, ex.1, ed⟩ ft bd rs ld fun s1 vs k1 zz g1 o1 pm => ?_)
  have vl : vs.length = n := by rw [pm.length_eq, List.length_map, Array.length_toList]; exact nn
  have hI : StrsAre vs (vs.map fun v => keyS (0, v)) := strs_of vs fun v hv => by
    obtain ⟨e, he, q⟩ := List.mem_map.mp (pm.mem_iff.mp hv)
    obtain ⟨k, tk, h1, _⟩ := gd e he
    exact ⟨k, tk, by rw [← q]; exact h1⟩
  have pk : (vs.map fun v => keyS (0, v)).Perm (fs.toList.map keyS) := by
    have q := pm.map fun v => keyS (0, v)
    rw [List.map_map] at q
    exact q
  refine wpAny_bind (wpAny_newList ?_ (by rw [vl, sizeLine_eq]; omega))
  have oL : (s1.heap.push (seqObj "list" vs.toArray 0)).get? s1.heap.objs.size = some (seqObj "list" vs.toArray 0) := Heap.get?_push_size _ rfl
  refine wpAny_bind (wpAny_holding (wpAny_call_entry PyProof.Rows.slot_list_sort ⟨_, oL, rfl⟩ PyProof.Rows.entry_list_sort
    (list_sort_treeK strKind_oneLt oL hI.keysOf (fun v₁ v₂ rest e => keyKind_strs (by rw [← e]; exact hI)) (by rw [vl]; exact n64) fun st' hp hs => ⟨_, rfl, ?_⟩) (PyProof.Rows.args_list_sort _)))
  obtain ⟨ys, g1', g2, g3⟩ := sorted_out_str hI hp hs
  obtain ⟨c, hc⟩ := PyProof.Rows.sortedHeap_at (vs := vs) (out := (arrOf st').map (·.2)) oL
  have pn : ys.Perm (fs.toList.map keyS) := g2.trans pk
  refine wpAny_pure ⟨_, rfl, kQ _ s1.heap.objs.size _ c ys (fun b u e => ?_) g1 o1 zz hc g1' g3 (pn.nodup_iff.mpr ndp) (fun k => by rw [pn.mem_iff, ← mm k]) ?_⟩
  · have q := k1 b u e
    have hlt := Heap.lt_size q
    show (PyProof.Rows.sortedHeap (s1.heap.push (seqObj "list" vs.toArray 0)) s1.heap.objs.size vs _).get? b = some u
    rw [PyProof.Rows.sortedHeap_old (Nat.ne_of_lt hlt) (by rw [size_push']; exact Nat.lt_succ_of_lt hlt)]
    exact Heap.get?_push_of_some _ q
  · rw [pn.length_eq, List.length_map, Array.length_toList]; exact nn
end
section
variable {X : Cx} {pins : List (Addr × Obj)} {σ : L2.St} {H : Hp} {s : Shared} {a : Addr} {E : Value → Shared → Prop}
theorem sort_endS {S : Str → Bool} {n : Nat} {Q : VK} (I : L2.Inv X pins σ H s) (R : SetS X.w s.heap a S n) (eh : X.A.handled = none) (n64 : n < 64)
    (kQ : ∀ (ys : List Str) (p : Addr), sortedS ys = true → ys.Nodup → (∀ k, k ∈ ys ↔ S k = true) → H p = none → Q (.ref p) (upd H p (.lst (ys.map V.str)))) :
    wpAny (model X.prog X.w) X.A (call (.builtin "sorted") [.ref a]) (EP X pins σ Q) E s := by
  refine sorted_setS R eh n64 fun s' p out c ys k g o hp hg hi hs hnd hm hl => ?_
  have hlen : (ys.map V.str).length ≤ sizeLine := by rw [List.length_map, hl, sizeLine_eq]; omega
  have hn : H p = none := I.hok.fresh hp
  have J : L2.Inv X pins σ (upd H p (.lst (ys.map V.str))) { s with heap := s'.heap, gens := s'.gens, drawn := s'.drawn, toks := s'.toks } :=
    I.call (ch := []) (Un.laid k hp hn) (I.hok.laid k hp ⟨hlen, out.toList, c, vals_of_strs hi, hg⟩) (by rw [g]; exact I.bare) (fun _ z => nomatch z)
  have e : s' = { s with heap := s'.heap, gens := s'.gens, drawn := s'.drawn, toks := s'.toks } := by
    cases s'
    cases s
    cases o
    rfl
  rw [e]
  exact ⟨.ref p, _, J, rfl, kQ ys p hs hnd hm hn⟩
theorem sort_endI {S : Int → Bool} {n : Nat} {Q : VK} (I : L2.Inv X pins σ H s) (R : SetR X.w s.heap a S n) (eh : X.A.handled = none) (n64 : n < 64)
    (kQ : ∀ (ys : List Int) (p : Addr), ys.Pairwise (· < ·) → (∀ k, k ∈ ys ↔ S k = true) → H p = none → Q (.ref p) (upd H p (.lst (ys.map V.int)))) :
    wpAny (model X.prog X.w) X.A (call (.builtin "sorted") [.ref a]) (EP X pins σ Q) E s := by
  refine sorted_set R eh n64 fun s' p out c ys k g o hp hg hi hs hm hl => ?_
  have hlen : (ys.map V.int).length ≤ sizeLine := by rw [List.length_map, hl, sizeLine_eq]; omega
  have hn : H p = none := I.hok.fresh hp
  have J : L2.Inv X pins σ (upd H p (.lst (ys.map V.int))) { s with heap := s'.heap, gens := s'.gens, drawn := s'.drawn, toks := s'.toks } :=
    I.call (ch := []) (Un.laid k hp hn) (I.hok.laid k hp ⟨hlen, out.toList, c, vals_of_ints hi, hg⟩) (by rw [g]; exact I.bare) (fun _ z => nomatch z)
  have e : s' = { s with heap := s'.heap, gens := s'.gens, drawn := s'.drawn, toks := s'.toks } := by
    cases s'
    cases s
    cases o
    rfl
  rw [e]
  exact ⟨.ref p, _, J, rfl, kQ ys p hs hm hn⟩
end
/-- sorted(set(t)), len(set(t)), a tuple of texts or of ints -/
def tSortSet (K : PySem.W.Frag) (ta : TE) : TE := fun σ H Q => ta σ H fun x H1 => ∃ l, x = V.ref l ∧
  ((∃ ns : List Str, SqT K H1 l (ns.map V.str) ∧ ns.length < 64 ∧ ∀ (ys : List Str) (p : Addr), sortedS ys = true → ys.Nodup → (∀ k, k ∈ ys ↔ k ∈ ns) → H1 p = none → Q (.ref p) (upd H1 p (.lst (ys.map V.str)))) ∨
   ∃ ns : List Int, SqT K H1 l (ns.map V.int) ∧ ns.length < 64 ∧ ∀ (ys : List Int) (p : Addr), ys.Pairwise (· < ·) → (∀ k, k ∈ ys ↔ k ∈ ns) → H1 p = none → Q (.ref p) (upd H1 p (.lst (ys.map V.int))))
def tLenSetT (K : PySem.W.Frag) (ta : TE) : TE := fun σ H Q => ta σ H fun x H1 => ∃ l, x = V.ref l ∧ ∃ ns : List Int, SqT K H1 l (ns.map V.int) ∧ ns.length < 64 ∧
  ∀ ys : List Int, ys.Nodup → (∀ k, k ∈ ys ↔ k ∈ ns) → Q (.int (ys.length : Nat)) H1
section
variable {X : Cx} {a : Expr} {ta : TE} {p p2 q pos : Pos}
theorem pe_lenSetT (hg : Gl X "len") (hm : X.mg "len" = none) (hg2 : Gl X "set") (hm2 : X.mg "set" = none) (ha : PE X a ta) (hc : X.calm = true := by rfl)
    (na : starEach [a] X.env = (false, eval a X.env) :: starEach [] X.env := by rfl) : PE X (.Call (.Name "len" p) [.Call (.Name "set" p2) [a] [] q] [] pos) (tLenSetT X.K ta) := by
  refine ⟨fun pins s σ H Q I h => ?_⟩
  refine Call_ (ld_blt I hg hm boot_len ?_)
  refine PyProof.Rows.callWith_builtin1 (PyProof.Rows.args_cons ?_ rfl) rfl rfl
  refine Call_ (ld_blt I hg2 hm2 boot_set ?_)
  refine PyProof.Rows.callWith_type1 (PyProof.Rows.args_cons (thn (ha.run pins s σ H _ I h) fun v s1 ⟨x, H1, I1, r1, q1⟩ => PyProof.Rows.args_nil ?_) na) na rfl
  obtain ⟨l, rfl, ns, hq, hl, q1⟩ := q1
  cases r1
  obtain ⟨its, r, pl, hz⟩ := I1.tuple hq
  refine call_set_tupI ns (I1.ok.hd hc) pl (by simpa using r.ints) (by unfold scanBound; omega) fun h' tk c hS hcl hk => ?_
  refine PyProof.Rows.args_nil ?_
  obtain ⟨o, es, ep, t, ho, hex, hd, g, nd, hmm, hb, hf, hn, _⟩ := hS
  have I2 : Inv X pins σ H1 { s1 with heap := h', toks := tk } := I1.kept hk
  have q2 := q1 (es.toList.map L2.keyOf) nd (fun k => by rw [← hmm k]; simp)
  rw [List.length_map, Array.length_toList] at q2
  exact call_len_set ho hex hd hf (by omega) ⟨.int (es.size : Nat), H1, I2.tok _, ⟨_, rfl⟩, q2⟩
theorem pe_sortSet (hg : Gl X "sorted") (hm : X.mg "sorted" = none) (hg2 : Gl X "set") (hm2 : X.mg "set" = none) (ha : PE X a ta) (hc : X.calm = true := by rfl)
    (na : starEach [a] X.env = (false, eval a X.env) :: starEach [] X.env := by rfl) : PE X (.Call (.Name "sorted" p) [.Call (.Name "set" p2) [a] [] q] [] pos) (tSortSet X.K ta) := by
  have boot : bootBuiltins "sorted" = some (.builtin "sorted") := by decide +kernel
  refine ⟨fun pins s σ H Q I h => ?_⟩
  refine Call_ (ld_blt I hg hm boot ?_)
  refine PyProof.Rows.callWith_builtin1 (PyProof.Rows.args_cons ?_ rfl) rfl rfl
  refine Call_ (ld_blt I hg2 hm2 boot_set ?_)
  refine PyProof.Rows.callWith_type1 (PyProof.Rows.args_cons (thn (ha.run pins s σ H _ I h) fun v s1 ⟨x, H1, I1, r1, q1⟩ => PyProof.Rows.args_nil ?_) na) na rfl
  obtain ⟨l, rfl, ⟨ns, hq, hl, q1⟩ | ⟨ns, hq, hl, q1⟩⟩ := q1
  · cases r1
    obtain ⟨its, r, pl, hz⟩ := I1.tuple hq
    refine call_set_tupT ns (I1.ok.hd hc) pl (by simpa using r.strs) (by unfold scanBound; omega) fun h' tk c hS hcl hk => ?_
    refine PyProof.Rows.args_nil ?_
    have I2 : Inv X pins σ H1 { s1 with heap := h', toks := tk } := I1.kept hk
    exact sort_endS I2 hS (I2.ok.hd hc) (by omega) fun ys p h1 h2 h3 h4 => q1 ys p h1 h2 (fun k => by rw [h3 k]; simp) h4
  · cases r1
    obtain ⟨its, r, pl, hz⟩ := I1.tuple hq
    refine call_set_tupI ns (I1.ok.hd hc) pl (by simpa using r.ints) (by unfold scanBound; omega) fun h' tk c hS hcl hk => ?_
    refine PyProof.Rows.args_nil ?_
    have I2 : Inv X pins σ H1 { s1 with heap := h', toks := tk } := I1.kept hk
    exact sort_endI I2 hS (I2.ok.hd hc) (by omega) fun ys p h1 h2 h3 => q1 ys p h1 (fun k => by rw [h2 k]; simp) h3
end
end SX

set_option Elab.async false
set_option linter.all false
set_option maxRecDepth 100000
set_option maxHeartbeats 2000000
/-! sorted of rows of ints, and of numbers with rows of ints -/
namespace SX
open PySem PySem.Spec PyProof.Rows L2
/-! the order of rows -/
theorem lex_asym : ∀ (a b : List Int), HT.lexLt a b = true → HT.lexLt b a = false
  | [], [], h => by cases h
  | [], _ :: _, _ => rfl
  | _ :: _, [], h => by cases h
  | x :: xs, y :: ys, h => by
    rw [HT.lexLt_cons] at h ⊢
    by_cases e : x = y
    · rw [if_pos e] at h
      rw [if_pos e.symm]
      exact lex_asym xs ys h
    · rw [if_neg e, decide_eq_true_eq] at h
      rw [if_neg (fun q => e q.symm), decide_eq_false_iff_not]
      omega
theorem lex_anti : ∀ (a b : List Int), HT.lexLt a b = false → HT.lexLt b a = false → a = b
  | [], [], _, _ => rfl
  | [], _ :: _, h, _ => by cases h
  | _ :: _, [], _, h => by cases h
  | x :: xs, y :: ys, h, h' => by
    rw [HT.lexLt_cons] at h h'
    by_cases e : x = y
    · rw [if_pos e] at h
      rw [if_pos e.symm] at h'
      rw [e, lex_anti xs ys h h']
    · rw [if_neg e, decide_eq_false_iff_not] at h
      rw [if_neg (fun q => e q.symm), decide_eq_false_iff_not] at h'
      omega
theorem lex_tr : ∀ (x y z : List Int), HT.lexLt y x = false → HT.lexLt z y = false → HT.lexLt z x = false
  | [], [], [], _, _ => rfl
  | [], [], _ :: _, _, h => h
  | [], _ :: _, [], _, _ => rfl
  | [], _ :: _, _ :: _, h, _ => by rfl
  | _ :: _, [], _, h, _ => by cases h
  | _ :: _, _ :: _, [], _, h => by cases h
  | x :: xs, y :: ys, z :: zs, h1, h2 => by
    rw [HT.lexLt_cons] at h1 h2 ⊢
    by_cases e1 : y = x
    · rw [if_pos e1] at h1
      by_cases e2 : z = y
      · rw [if_pos e2] at h2
        rw [if_pos (e2.trans e1)]
        exact lex_tr xs ys zs h1 h2
      · rw [if_neg e2] at h2
        rw [if_neg (fun q => e2 (q.trans e1.symm)), ← e1]
        exact h2
    · rw [if_neg e1, decide_eq_false_iff_not] at h1
      by_cases e2 : z = y
      · rw [if_neg (fun q => e1 (e2.symm.trans q)), decide_eq_false_iff_not, e2]
        exact h1
      · rw [if_neg e2, decide_eq_false_iff_not] at h2
        rw [if_neg (by omega), decide_eq_false_iff_not]
        omega
theorem lex_swo : SrtO.Swo HT.lexLt := ⟨lex_asym, lex_tr⟩
/-- numbers with rows: by the number, then by the row -/
def lexN (p q : Int × List Int) : Bool := if p.1 = q.1 then HT.lexLt p.2 q.2 else decide (p.1 < q.1)
theorem lexN_cons (p q : Int × List Int) : lexN p q = HT.lexLt (p.1 :: p.2) (q.1 :: q.2) := rfl
theorem lexN_swo : SrtO.Swo lexN := ⟨fun x y => lex_asym (x.1 :: x.2) (y.1 :: y.2), fun x y z => lex_tr (x.1 :: x.2) (y.1 :: y.2) (z.1 :: z.2)⟩
theorem lexN_anti (a b : Int × List Int) (h : lexN a b = false) (h' : lexN b a = false) : a = b := by
  have := lex_anti (a.1 :: a.2) (b.1 :: b.2) h h'
  exact Prod.ext (List.cons.inj this).1 (List.cons.inj this).2
section
variable {prog : Program} {w : World} {A : Around} {E : Value → Shared → Prop} {s : Shared}
theorem reads_ints {h : Heap} : ∀ {vs : List Value} {ns : List Int}, IntsAre vs ns → ReadsAll h vs (ns.map .int) []
  | _, _, .nil => .nil
  | _, _, .cons n t r => ReadsAll.cons (as := []) (Reads.int n t) (reads_ints r)
theorem lay_ints : ∀ ns : List Int, PyData.canLayAll0 (ns.map .int) = true ∧ PyData.depthAll (ns.map .int) = 0
  | [] => ⟨rfl, rfl⟩
  | n :: ns => by
    obtain ⟨a, b⟩ := lay_ints ns
    exact ⟨by simp [PyData.canLayAll0, PyData.canLay0, a], by simp [PyData.depthAll, PyData.depth, b]⟩
theorem eqv_ints : ∀ ns ms : List Int, PyData.eqvAll (ns.map .int) (ms.map .int) = decide (ns = ms)
  | [], [] => rfl
  | [], _ :: _ => rfl
  | _ :: _, [] => rfl
  | n :: ns, m :: ms => by
    simp only [List.map_cons, PyData.eqvAll, eqv_ints ns ms, PyData.eqv]
    by_cases e : n = m <;> by_cases e2 : ns = ms <;> simp [e, e2]
/-- == of two tuples of ints -/
theorem eq_rows {a b : Addr} {xs ys : Array Value} {ns ms : List Int} (h1 : IsTup s.heap a xs) (h2 : IsTup s.heap b ys) (i1 : IntsAre xs.toList ns) (i2 : IntsAre ys.toList ms) (hu : A.units + 64 < cLine) : SeqAt.EqAt A s (.ref a) (.ref b) (decide (ns = ms)) := by
  obtain ⟨o, ho, hc, n, hd⟩ := h1
  obtain ⟨o', ho', hc', n', hd'⟩ := h2
  have r1 : Reads s.heap (.ref a) (.tuple (ns.map .int)) [] := .tuple ho hc hd (reads_ints i1)
  have r2 : Reads s.heap (.ref b) (.tuple (ms.map .int)) [] := .tuple ho' hc' hd' (reads_ints i2)
  have q := SeqAt.eqAt_reads _ _ A s _ _ _ _ r1 r2 (by simp [PyData.canLay0, (lay_ints ns).1]) (by simp [PyData.canLay0, (lay_ints ms).1]) (by
    have : (PyData.tuple (ns.map .int)).depth ≤ 1 := by simp [PyData.depth, (lay_ints ns).2]
    omega)
  have e : PyData.eqv (.tuple (ns.map .int)) (.tuple (ms.map .int)) = decide (ns = ms) := by
    rw [← eqv_ints]
    simp [PyData.eqv]
  rw [e] at q
  exact q
/-- a number and a row -/
def NumRow (h : Heap) (v : Value) (k : Int × List Int) : Prop := ∃ a o t u n, v = .ref a ∧ h.get? a = some o ∧ o.cls = .type "tuple" ∧ o.data = .seq #[.int k.1 t, .ref u] n ∧ ∃ xs, IsTup h u xs ∧ IntsAre xs.toList k.2
theorem NumRow.keeps {h h' : Heap} {v : Value} {k : Int × List Int} (x : NumRow h v k) (kp : ∀ b o, h.get? b = some o → o.cls = .type "tuple" → h'.get? b = some o) : NumRow h' v k := by
  obtain ⟨a, o, t, u, n, e, ho, hc, hd, xs, ⟨o2, h2, c2, d2⟩, i⟩ := x
  exact ⟨a, o, t, u, n, e, kp _ _ ho hc, hc, hd, xs, ⟨o2, kp _ _ h2 c2, c2, d2⟩, i⟩
theorem numRow_cmp {vs : List Value} {k : Value → Int × List Int} (hp : ∀ v ∈ vs, NumRow s.heap v (k v)) (hu : A.units + 64 < cLine) : SrtO.Cmp prog w A s (tuples' true) (fun p => p.1 ∈ vs) (SrtO.lt2 fun v u => lexN (k v) (k u)) := by
  intro p q hm hm'
  have h1 := hp _ hm
  have h2 := hp _ hm'
  show wpAny (model prog w) A (keyLt' (tuples' true) p.1 q.1) (fun r s' => s' = s ∧ r = lexN (k p.1) (k q.1)) (fun _ _ => False) s
  generalize k p.1 = x at h1 ⊢
  generalize k q.1 = y at h2 ⊢
  obtain ⟨a, o, t, u, n, e, ho, hc, hd, xs, hx, ix⟩ := h1
  obtain ⟨a', o', t', u', n', e', ho', hc', hd', ys, hy, iy⟩ := h2
  rw [e, e']
  refine PySem.W.kat_lt ho hd ho' hd' ?_
  show PySem.W.KatLex prog w A true (decide (2 < 2)) _ [(.int x.1 t, .int y.1 t'), (.ref u, .ref u')] 0 s
  refine PySem.W.kat_cons (SeqAt.EqAt.int_int x.1 t y.1 t' prog w _ _ ?_)
  refine PySem.W.kat_go (fun e1 => ?_) (fun e1 => ?_)
  · have ex : x.1 = y.1 := by simpa using e1
    refine PySem.W.kat_yes (PySem.W.kat_cons (eq_rows hx hy ix iy hu prog w _ _ ?_))
    refine PySem.W.kat_go (fun e2 => ?_) (fun e2 => ?_)
    · have ey : x.2 = y.2 := by simpa using e2
      have e3 : lexN x y = false := by
        rw [Prod.ext ex ey]
        exact lexN_swo.refl y
      exact PySem.W.kat_yes (PySem.W.kat_nil ⟨rfl, e3.symm⟩)
    · have e3 : lexN x y = HT.lexLt x.2 y.2 := if_pos ex
      refine PySem.W.kat_no (PySem.W.kat_one _ _ (HT.lt_tupInts hx hy ix iy (by omega) ?_))
      exact (show s = s ∧ HT.lexLt x.2 y.2 = lexN x y from ⟨rfl, e3.symm⟩)
  · have ex : ¬ x.1 = y.1 := by simpa using e1
    have e3 : lexN x y = decide (x.1 < y.1) := if_neg ex
    exact PySem.W.kat_no (oneLt_int ⟨rfl, e3.symm⟩)
/-- items that can be sorted: tuples that begin with an int -/
structure SK (κ : Type) (lt : κ → κ → Bool) (It : Heap → Value → κ → Prop) : Prop where
  swo : SrtO.Swo lt
  keeps : ∀ {h h' : Heap} {v : Value} {k : κ}, It h v k → (∀ b o, h.get? b = some o → o.cls = .type "tuple" → h'.get? b = some o) → It h' v k
  first : ∀ {h : Heap} {v : Value} {k : κ}, It h v k → ∃ a o xs n x t, v = .ref a ∧ h.get? a = some o ∧ o.cls = .type "tuple" ∧ o.data = .seq xs n ∧ xs[0]? = some (.int x t)
  cmp : ∀ {prog : Program} {w : World} {A : Around} {s : Shared} {vs : List Value} {k : Value → κ}, (∀ v ∈ vs, It s.heap v (k v)) → A.units + 64 < cLine → SrtO.Cmp prog w A s (tuples' true) (fun p => p.1 ∈ vs) (SrtO.lt2 fun v u => lt (k v) (k u))
theorem swo_by {α κ : Type} {lt : κ → κ → Bool} (O : SrtO.Swo lt) (k : α → κ) : SrtO.Swo fun x y => lt (k x) (k y) := ⟨fun x y => O.asym (k x) (k y), fun x y z => O.tr (k x) (k y) (k z)⟩
theorem SK.firsts {κ : Type} {lt : κ → κ → Bool} {It : Heap → Value → κ → Prop} (T : SK κ lt It) {h : Heap} : ∀ {vs : List Value}, (∀ v ∈ vs, ∃ k, It h v k) → ∃ fs, PySem.W.KatTups h vs fs ∧ fs.length = vs.length ∧ ∀ f ∈ fs, ∃ x t, f = Value.int x t
  | [], _ => ⟨[], PySem.W.KatTups.nil, rfl, fun f hf => (by cases hf)⟩
  | v :: vs, hp => by
    obtain ⟨fs, h1, h2, h3⟩ := SK.firsts T fun u hu => hp u (List.mem_cons_of_mem _ hu)
    obtain ⟨k, hk⟩ := hp v List.mem_cons_self
    obtain ⟨a, o, xs, n, x, t, e, ho, hc, hd, hx⟩ := T.first hk
    subst e
    refine ⟨.int x t :: fs, PySem.W.KatTups.cons ho hc hd hx h1, by rw [List.length_cons, List.length_cons, h2], fun f hf => ?_⟩
    rcases List.mem_cons.mp hf with e | hf
    · exact ⟨_, _, e⟩
    · exact h3 f hf
theorem SK.sortable {κ : Type} {lt : κ → κ → Bool} {It : Heap → Value → κ → Prop} (T : SK κ lt It) {a : Addr} {vs : List Value} {k : Value → κ} (h0 : 0 < vs.length) (hp : ∀ v ∈ vs, It s.heap v (k v)) (ha : ∀ o, s.heap.get? a = some o → o.cls ≠ .type "tuple") (hu : A.units + 64 < cLine) : SrtO.SortableO prog w A s a vs fun v u => lt (k v) (k u) := by
  intro h' keep
  have hp' : ∀ v ∈ vs, It h' v (k v) := fun v hm => T.keeps (hp v hm) fun b o e c => keep b o (fun z => by subst z; exact ha o e c) e
  obtain ⟨fs, h1, h2, h3⟩ := T.firsts fun v hm => ⟨_, hp' v hm⟩
  refine ⟨tuples' true, fun Q E hq => ?_, T.cmp (s := { s with heap := h' }) hp' hu⟩
  refine PySem.W.kat_kind (T := .type "int") h1 (by omega) (fun f hm => ?_) (by rfl) ?_
  · obtain ⟨x, t, rfl⟩ := h3 f hm
    exact PySem.W.Looks.now
  · have e : (Value.type "int" != Value.type "tuple") = true := by first | decide +kernel | rfl | decide
    rw [e]
    exact hq
theorem SK.sorted {κ : Type} {lt : κ → κ → Bool} {It : Heap → Value → κ → Prop} (T : SK κ lt It) {l : Addr} {vs : List Value} {k : Value → κ} {Q : Value → Shared → Prop} (hl : s.heap.IsList l vs.toArray) (hz : vs.length ≤ sizeLine) (hp : ∀ v ∈ vs, It s.heap v (k v)) (hu : A.units + 66 < cLine)
    (h : ∀ (h' : Heap) (d : Addr) (out : List Value), SrtO.Srtd (fun v u => lt (k v) (k u)) out → SrtO.Stb (fun v u => lt (k v) (k u)) out vs → (∀ b o, s.heap.get? b = some o → h'.get? b = some o) → s.heap.objs.size ≤ d → (∃ n, h'.get? d = some (seqObj "list" out.toArray n)) → Q (.ref d) { s with heap := h' }) :
    wpAny (model prog w) A (call (.builtin "sorted") [.ref l]) Q E s := by
  refine SrtO.sorted_ord (swo_by T.swo k) hl hz (fun h2 h₁ a ha kk => ?_) fun out hs hb => ?_
  · refine T.sortable (s := { s with heap := h₁ }) (by omega) (fun v hm => T.keeps (hp v hm) fun b o e _ => (kk b o e).2) (fun o e => ?_) (by show A.units + 1 + 1 + 64 < cLine; omega)
    have e' : some o = some (seqObj "list" vs.toArray 0) := e.symm.trans ha
    cases e'
    intro c
    exact absurd (Value.type.inj c) (by decide)
  · exact h _ _ out hs hb (fun b o e => sortedAll_old e) (Nat.le_succ _) (sortedAll_at s.heap vs out.toArray)
theorem sk_numRow : SK (Int × List Int) lexN NumRow where
  swo := lexN_swo
  keeps := fun x k => x.keeps k
  first := fun ⟨a, o, t, u, n, e, ho, hc, hd, _⟩ => ⟨a, o, _, n, _, t, e, ho, hc, hd, rfl⟩
  cmp := numRow_cmp
/-! rows -/
def Row (h : Heap) (v : Value) (k : List Int) : Prop := k ≠ [] ∧ ∃ a xs, v = .ref a ∧ IsTup h a xs ∧ IntsAre xs.toList k
theorem kat_ints {Q : Bool → Shared → Prop} {n0 m0 : Nat} : ∀ {vs ws : List Value} {ns ms : List Int} (i : Nat), IntsAre vs ns → IntsAre ws ms → ns.length + m0 = ms.length + n0 → Q (HT.lexLt ns ms) s → PySem.W.KatLex prog w A true (decide (n0 < m0)) Q (vs.zip ws) i s
  | _, _, _, _, i, .nil, .nil, hl, hq => by
    have e : decide (n0 < m0) = false := decide_eq_false (by simp at hl; omega)
    rw [e]
    exact PySem.W.kat_nil hq
  | _, _, _, _, i, .nil, .cons m u r, hl, hq => by
    have e : decide (n0 < m0) = true := decide_eq_true (by simp at hl; omega)
    rw [e]
    exact PySem.W.kat_nil hq
  | _, _, _, _, i, .cons m u r, .nil, hl, hq => by
    have e : decide (n0 < m0) = false := decide_eq_false (by simp at hl; omega)
    rw [e]
    exact PySem.W.kat_nil hq
  | _, _, _, _, i, .cons (vs := vs) (ns := ns) x t r, .cons (vs := ws) (ns := ms) y t' r', hl, hq => by
    show PySem.W.KatLex prog w A true (decide (n0 < m0)) Q ((.int x t, .int y t') :: vs.zip ws) i s
    rw [HT.lexLt_cons] at hq
    refine PySem.W.kat_cons (SeqAt.EqAt.int_int x t y t' prog w _ _ ?_)
    refine PySem.W.kat_go (fun e1 => ?_) (fun e1 => ?_)
    · have ex : x = y := by simpa using e1
      rw [if_pos ex] at hq
      exact PySem.W.kat_yes (kat_ints (i + 1) r r' (by simp at hl; omega) hq)
    · have ex : ¬ x = y := by simpa using e1
      rw [if_neg ex] at hq
      refine PySem.W.kat_no ?_
      cases e : (true && i == 0) with
      | true => exact oneLt_int hq
      | false => exact PySem.W.kat_one _ _ (PyProof.Rows.lt_int hq)
theorem sk_row : SK (List Int) HT.lexLt Row where
  swo := lex_swo
  keeps := fun ⟨e, a, xs, ev, ⟨o, ho, hc, hd⟩, i⟩ k => ⟨e, a, xs, ev, ⟨o, k _ _ ho hc, hc, hd⟩, i⟩
  first := fun {h v k} ⟨e, a, xs, ev, ⟨o, ho, hc, n, hd⟩, i⟩ => by
    match k, xs, hd, i, e with
    | [], _, _, _, e => exact absurd rfl e
    | x :: r, ⟨l⟩, hd, i, _ =>
      have i' : IntsAre l (x :: r) := i
      cases i' with
      | cons _ t q => exact ⟨a, o, _, n, x, t, ev, ho, hc, hd, rfl⟩
  cmp := fun {prog w A s vs k} hp hu p q hm hm' => by
    obtain ⟨_, a, xs, e, ⟨o, ho, hc, n, hd⟩, i⟩ := hp _ hm
    obtain ⟨_, a', xs', e', ⟨o', ho', hc', n', hd'⟩, i'⟩ := hp _ hm'
    show wpAny (model prog w) A (keyLt' (tuples' true) p.1 q.1) (fun r s' => s' = s ∧ r = HT.lexLt (k p.1) (k q.1)) (fun _ _ => False) s
    generalize k p.1 = x at i ⊢
    generalize k q.1 = y at i' ⊢
    rw [e, e']
    refine PySem.W.kat_lt ho hd ho' hd' (kat_ints 0 i i' ?_ ⟨rfl, rfl⟩)
    have l1 := i.length
    have l2 := i'.length
    rw [Array.length_toList] at l1 l2
    omega
end
/-! as rules of the layer -/
section
variable {X : Cx}
/-- sorted(xs), the items such as It says, by their keys -/
def rSortK {κ : Type} (lt : κ → κ → Bool) (It : PySem.W.Frag → Hp → V → κ → Prop) (K : PySem.W.Frag) : List V → Hp → VK → Prop := fun vs H Q => ∃ (a : Addr) (xs : List V) (k : V → κ), vs = [V.ref a] ∧ SqL K H a xs ∧ (∀ x ∈ xs, It K H x (k x)) ∧
  ∀ ys p, SrtO.Srtd (fun x y => lt (k x) (k y)) ys → ys.Perm xs → H p = none → Q (.ref p) (upd H p (.lst ys))
def RowV (K : PySem.W.Frag) (H : Hp) (x : V) (k : List Int) : Prop := k ≠ [] ∧ ∃ t, x = .ref t ∧ SqT K H t (k.map V.int)
def NumRowV (K : PySem.W.Frag) (H : Hp) (x : V) (k : Int × List Int) : Prop := ∃ t u, x = .ref t ∧ SqT K H t [.int k.1, .ref u] ∧ SqT K H u (k.2.map V.int)
theorem rowV_raw {pins : List (Addr × Obj)} {s : Shared} {σ : L2.St} {H : Hp} (I : L2.Inv X pins σ H s) {x : V} {k : List Int} (h : RowV X.K H x k) : ∃ t, x = .ref t ∧ Row s.heap (.ref t) k := by
  obtain ⟨e, t, rfl, ht⟩ := h
  obtain ⟨its, r, p, _⟩ := I.tuple ht
  exact ⟨t, rfl, e, t, _, rfl, p, intsAre_of r⟩
theorem numRowV_raw {pins : List (Addr × Obj)} {s : Shared} {σ : L2.St} {H : Hp} (I : L2.Inv X pins σ H s) {x : V} {k : Int × List Int} (h : NumRowV X.K H x k) : ∃ t, x = .ref t ∧ NumRow s.heap (.ref t) k := by
  obtain ⟨t, u, rfl, ht, hu⟩ := h
  obtain ⟨its, r, ⟨o, ho, hc, n, hd⟩, _⟩ := I.tuple ht
  obtain ⟨its2, r2, p2, _⟩ := I.tuple hu
  obtain ⟨v1, v2, rfl, r3, r4⟩ := vals2 r
  obtain ⟨t1, rfl⟩ := r3
  obtain rfl : v2 = Value.ref u := r4
  exact ⟨t, rfl, t, o, t1, u, n, rfl, ho, hc, hd, _, p2, intsAre_of r2⟩
theorem cr_sortK {κ : Type} {lt : κ → κ → Bool} {It : Heap → Value → κ → Prop} {ItV : PySem.W.Frag → Hp → V → κ → Prop} (T : SK κ lt It)
    (raw : ∀ {pins : List (Addr × Obj)} {s : Shared} {σ : L2.St} {H : Hp}, L2.Inv X pins σ H s → ∀ {x : V} {k : κ}, ItV X.K H x k → ∃ t, x = .ref t ∧ It s.heap (.ref t) k) (hu : X.A.units + 66 < cLine) : CallR X (.builtin "sorted") (rSortK lt ItV X.K) := by
  intro pins s σ H vs us Q I r h
  obtain ⟨a, xs, k, rfl, hs, hx, q⟩ := h
  obtain ⟨its, rv, hl, hz⟩ := I.list hs
  obtain ⟨u, rfl, ru⟩ := vals1 r
  obtain rfl : u = Value.ref a := ru
  obtain ⟨e1, e2⟩ := refs_back rv fun x m => by
    obtain ⟨t, e, _⟩ := raw I (hx x m)
    exact ⟨t, e⟩
  refine T.sorted (k := fun u => k (backV u)) hl.isList (by rw [← rv.length]; exact hz) (fun v hv => ?_) hu fun h' d out h1 h2 kp hd hn => ?_
  · obtain ⟨t, rfl⟩ := e2 v hv
    have hm : V.ref t ∈ xs := by rw [e1]; exact List.mem_map.mpr ⟨_, hv, rfl⟩
    obtain ⟨t', e, ht⟩ := raw I (hx _ hm)
    cases e
    exact ht
  · have h3 : ∀ u ∈ out, ∃ a, u = Value.ref a := fun u hu => e2 u (h2.perm.mem_iff.mp hu)
    obtain ⟨n, hn⟩ := hn
    have hb : (out.map backV).Perm xs := by
      rw [e1]
      exact h2.perm.map backV
    refine ⟨.ref d, upd H d (.lst (out.map backV)), I.laid (t' := s.toks) kp hd ⟨?_, out, n, vals_back h3, hn⟩, rfl, q _ d (SrtO.srtd_map (lt := fun x y => lt (k x) (k y)) h1) hb (I.hok.fresh hd)⟩
    rw [hb.length_eq]
    exact hz
theorem cr_sortRow (hu : X.A.units + 66 < cLine) : CallR X (.builtin "sorted") (rSortK HT.lexLt RowV X.K) := cr_sortK sk_row (fun I _ _ h => rowV_raw I h) hu
theorem cr_sortNumRow (hu : X.A.units + 66 < cLine) : CallR X (.builtin "sorted") (rSortK lexN NumRowV X.K) := cr_sortK sk_numRow (fun I _ _ h => numRowV_raw I h) hu
end
end SX

set_option Elab.async false
set_option linter.all false
set_option maxRecDepth 100000
set_option maxHeartbeats 4000000
namespace DL
open PySem PySem.Spec PyProof.Rows L2
/-- the written part that the law's list may stand in -/
class Wr where
  K : PySem.W.Frag
  /-- tables of code objects, with the name of what is made there -/
  T : List (Addr × Str)
  /-- the lambdas by their numbers -/
  lm : Nat → Addr → HX.LF
variable [Wr]

abbrev D := PyData

/-! ### heaps that grow -/
def Ex (H H' : Hp) : Prop := ∀ a o, H a = some o → H' a = some o
theorem Ex.refl (H : Hp) : Ex H H := fun _ _ h => h
theorem Ex.trans {H H1 H2 : Hp} (a : Ex H H1) (b : Ex H1 H2) : Ex H H2 := fun x o h => b x o (a x o h)
theorem Ex.new {H : Hp} {p : Addr} {o : HO} (h : H p = none) : Ex H (upd H p o) := fun a u e => by
  rw [upd_ne (ne_of_none e h)]
  exact e
theorem Ex.none {H H' : Hp} (e : Ex H H') {p : Addr} (h : H' p = none) : H p = none := by
  cases q : H p with
  | none => rfl
  | some o => rw [e p o q] at h; cases h

/-- a tuple's object, as the program makes it -/
def Xo (o : Obj) : Prop := o.cls = .type "tuple" ∧ o.dict = none
def Tp (S : Hp) (a : Addr) (xs : List V) : Prop := ∃ o : Obj, S a = some (.frz o (.tup xs)) ∧ Xo o
theorem Tp.mono {S S' : Hp} {a : Addr} {xs : List V} (e : Ex S S') (h : Tp S a xs) : Tp S' a xs := let ⟨o, h1, h2⟩ := h; ⟨o, e _ _ h1, h2⟩
theorem Tp.sq {K : PySem.W.Frag} {S H : Hp} {a : Addr} {xs : List V} (e : Ex S H) (h : Tp S a xs) : SqT K H a xs := let ⟨o, h1, _⟩ := h; .inl (.inr ⟨o, e _ _ h1⟩)
/-- a dict keyed by tuples of ints, its values ints -/
def tdK (ps : List (List Int × Int)) : List (D × D) := (.str (Str.ofString "T"), .none) :: ps.map fun p => (.tuple (p.1.map .int), .int p.2)
def tdD (ps : List (List Int × Int)) : D := .dict (tdK ps)
/-! ### data as the shared heap holds them -/
mutual
def Rp (S : Hp) (v : V) : D → Prop
  | .none => v = .non
  | .bool b => v = .bl b
  | .int i => v = .int i
  | .str x => v = .str x
  | .list ds => ∃ a xs, v = .ref a ∧ S a = some (.lst xs) ∧ RpL S xs ds
  | .tuple ds => ∃ a xs, v = .ref a ∧ Tp S a xs ∧ RpL S xs ds
  | .dict kvs => ∃ (a : Addr), v = .ref a ∧ ((∃ (ns : List Int), kvs = [(.none, .list (ns.map .int))] ∧ SqL Wr.K S a (ns.map V.int)) ∨ kvs = [(.bool true, .int (a : Nat))] ∨ (∃ (i : Nat) (c : Addr), kvs = [(.bool false, .int (i : Nat))] ∧ S a = some (HX.LmO a (Wr.lm i c)) ∧ S (Wr.lm i c).c = some (LamX.CodeO (Wr.lm i c).c (Wr.lm i c).qual)) ∨ ∃ (ps : List (List Int × Int)) (xs : List (List Int × Addr × Value)) (o : Obj), kvs = tdK ps ∧ S a = some (.frz o (HX.TdO a xs)) ∧ HX.KX S ps xs)
def RpL (S : Hp) (vs : List V) : List D → Prop
  | [] => vs = []
  | d :: ds => ∃ w ws, vs = w :: ws ∧ Rp S w d ∧ RpL S ws ds
end
/-- the script's own list -/
def frzD (ns : List Int) : D := .dict [(.none, .list (ns.map .int))]
/-- an object by its address -/
def adrD (a : Addr) : D := .dict [(.bool true, .int (a : Nat))]
/-- a lambda by its number -/
def lamD (i : Nat) : D := .dict [(.bool false, .int (i : Nat))]
theorem Rp.non {S : Hp} : Rp S .non .none := rfl
theorem Rp.bl {S : Hp} (b : Bool) : Rp S (.bl b) (.bool b) := rfl
theorem Rp.int {S : Hp} (i : Int) : Rp S (.int i) (.int i) := rfl
theorem Rp.str {S : Hp} (x : Str) : Rp S (.str x) (.str x) := rfl
theorem Rp.lst {S : Hp} {a : Addr} {xs : List V} {ds : List D} (h : S a = some (.lst xs)) (r : RpL S xs ds) : Rp S (.ref a) (.list ds) := ⟨a, xs, rfl, h, r⟩
theorem Rp.tup {S : Hp} {a : Addr} {xs : List V} {ds : List D} (h : Tp S a xs) (r : RpL S xs ds) : Rp S (.ref a) (.tuple ds) := ⟨a, xs, rfl, h, r⟩
theorem Rp.frz {S : Hp} {a : Addr} {ns : List Int} (h : SqL Wr.K S a (ns.map V.int)) : Rp S (.ref a) (frzD ns) := ⟨a, rfl, .inl ⟨ns, rfl, h⟩⟩
theorem sqL_mono {K : PySem.W.Frag} {S S' : Hp} {a : Addr} {xs : List V} (e : Ex S S') (h : SqL K S a xs) : SqL K S' a xs := by
  rcases h with (h | ⟨o, h⟩) | h
  · exact .inl (.inl (e _ _ h))
  · exact .inl (.inr ⟨o, e _ _ h⟩)
  · exact .inr h
theorem Rp.adr {S : Hp} (a : Addr) : Rp S (.ref a) (adrD a) := ⟨a, rfl, .inr (.inl rfl)⟩
theorem RpL.nil {S : Hp} : RpL S [] [] := rfl
theorem RpL.cons {S : Hp} {v : V} {vs : List V} {d : D} {ds : List D} (h : Rp S v d) (r : RpL S vs ds) : RpL S (v :: vs) (d :: ds) := ⟨v, vs, rfl, h, r⟩
theorem Rp.adr_inv {S : Hp} {v : V} {a : Addr} (h : Rp S v (adrD a)) : v = .ref a := by
  obtain ⟨b, rfl, h | h | h | h⟩ := h
  · obtain ⟨ns, e, _⟩ := h
    injection e with e _; injection e with e _; cases e
  · injection h with e _; injection e with _ e
    injection e with e
    have : a = b := Int.ofNat.inj e
    rw [this]
  · obtain ⟨i, c, e, _⟩ := h
    injection e with e _; injection e with e _; injection e with e; cases e
  · obtain ⟨ps, xs, o, e, _⟩ := h
    simp [tdK] at e
theorem Rp.lam {S : Hp} {a c : Addr} {i : Nat} (h1 : S a = some (HX.LmO a (Wr.lm i c))) (h2 : S (Wr.lm i c).c = some (LamX.CodeO (Wr.lm i c).c (Wr.lm i c).qual)) : Rp S (.ref a) (lamD i) := ⟨a, rfl, .inr (.inr (.inl ⟨i, c, rfl, h1, h2⟩))⟩
theorem Rp.lam_inv {S : Hp} {v : V} {i : Nat} (h : Rp S v (lamD i)) : ∃ a c, v = .ref a ∧ S a = some (HX.LmO a (Wr.lm i c)) ∧ S (Wr.lm i c).c = some (LamX.CodeO (Wr.lm i c).c (Wr.lm i c).qual) := by
  obtain ⟨b, rfl, h | h | h | h⟩ := h
  · obtain ⟨ns, e, _⟩ := h
    injection e with e _; injection e with e _; cases e
  · injection h with e _; injection e with e _; injection e with e; cases e
  · obtain ⟨j, c, e, h1, h2⟩ := h
    injection e with e _; injection e with _ e
    injection e with e
    have : i = j := Int.ofNat.inj e
    subst this
    exact ⟨b, c, rfl, h1, h2⟩
  · obtain ⟨ps, xs, o, e, _⟩ := h
    simp [tdK] at e
theorem Rp.frz_inv {S : Hp} {v : V} {ns : List Int} (h : Rp S v (frzD ns)) : ∃ a, v = .ref a ∧ SqL Wr.K S a (ns.map V.int) := by
  obtain ⟨b, rfl, h | h | ⟨_, _, h, _⟩ | ⟨_, _, _, h, _⟩⟩ := h
  · obtain ⟨ms, e, hs⟩ := h
    injection e with e _; injection e with _ e
    injection e with e
    have inj : ∀ (l m : List Int), l.map PyData.int = m.map PyData.int → l = m := by
      intro l
      induction l with
      | nil => intro m e; cases m with
        | nil => rfl
        | cons => cases e
      | cons x l ih => intro m e; cases m with
        | nil => cases e
        | cons y m =>
          injection e with e1 e2
          injection e1 with e1
          rw [e1, ih m e2]
    rw [inj _ _ e]
    exact ⟨b, rfl, hs⟩
  · injection h with e _; injection e with e _; cases e
  · injection h with e _; injection e with e _; cases e
  · simp [tdK] at h
theorem Rp.td {S : Hp} {a : Addr} {ps : List (List Int × Int)} {xs : List (List Int × Addr × Value)} {o : Obj} (h : S a = some (.frz o (HX.TdO a xs))) (k : HX.KX S ps xs) : Rp S (.ref a) (tdD ps) := ⟨a, rfl, .inr (.inr (.inr ⟨ps, xs, o, rfl, h, k⟩))⟩
theorem tdK_inj : ∀ {ps qs : List (List Int × Int)}, tdK ps = tdK qs → ps = qs := by
  have ii : ∀ (l m : List Int), l.map PyData.int = m.map PyData.int → l = m := by
    intro l
    induction l with
    | nil => intro m e; cases m with
      | nil => rfl
      | cons => cases e
    | cons x l ih => intro m e; cases m with
      | nil => cases e
      | cons y m =>
        injection e with e1 e2
        injection e1 with e1
        rw [e1, ih m e2]
  have go : ∀ (l m : List (List Int × Int)), (l.map fun p => ((.tuple (p.1.map .int), .int p.2) : D × D)) = (m.map fun p => (.tuple (p.1.map .int), .int p.2)) → l = m := by
    intro l
    induction l with
    | nil => intro m e; cases m with
      | nil => rfl
      | cons => cases e
    | cons x l ih => intro m e; cases m with
      | nil => cases e
      | cons y m =>
        rw [List.map_cons, List.map_cons] at e
        injection e with e1 e2
        injection e1 with e3 e4
        injection e3 with e3
        injection e4 with e4
        rw [ih m e2, show x = y from Prod.ext (ii _ _ e3) e4]
  intro ps qs e
  injection e with _ e
  exact go ps qs e
theorem Rp.td_inv {S : Hp} {v : V} {ps : List (List Int × Int)} (h : Rp S v (tdD ps)) : ∃ a xs o, v = .ref a ∧ S a = some (.frz o (HX.TdO a xs)) ∧ HX.KX S ps xs := by
  obtain ⟨b, rfl, h | h | ⟨_, _, h, _⟩ | ⟨qs, xs, o, e, h1, h2⟩⟩ := h
  · obtain ⟨ns, e, _⟩ := h
    simp [tdK] at e
  · simp [tdK] at h
  · simp [tdK] at h
  · rw [tdK_inj e]
    exact ⟨b, xs, o, rfl, h1, h2⟩
mutual
theorem Rp.mono {S S' : Hp} (e : Ex S S') : ∀ (d : D) {v : V}, Rp S v d → Rp S' v d
  | .none, _, h => h
  | .bool _, _, h => h
  | .int _, _, h => h
  | .str _, _, h => h
  | .list ds, _, h => by
    obtain ⟨a, xs, h1, h2, h3⟩ := h
    exact ⟨a, xs, h1, e _ _ h2, RpL.mono e ds h3⟩
  | .tuple ds, _, h => by
    obtain ⟨a, xs, h1, h2, h3⟩ := h
    exact ⟨a, xs, h1, h2.mono e, RpL.mono e ds h3⟩
  | .dict _, _, h => by
    obtain ⟨a, h1, h2⟩ := h
    rcases h2 with ⟨ns, e1, e2⟩ | h2 | ⟨i, c, e1, e2, e3⟩ | ⟨ps, xs, o, e1, e2, e3⟩
    · exact ⟨a, h1, .inl ⟨ns, e1, sqL_mono e e2⟩⟩
    · exact ⟨a, h1, .inr (.inl h2)⟩
    · exact ⟨a, h1, .inr (.inr (.inl ⟨i, c, e1, e _ _ e2, e _ _ e3⟩))⟩
    · exact ⟨a, h1, .inr (.inr (.inr ⟨ps, xs, o, e1, e _ _ e2, e3.mono e⟩))⟩
theorem RpL.mono {S S' : Hp} (e : Ex S S') : ∀ (ds : List D) {vs : List V}, RpL S vs ds → RpL S' vs ds
  | [], _, h => h
  | d :: ds, _, h => by
    obtain ⟨w, ws, h1, h2, h3⟩ := h
    exact ⟨w, ws, h1, Rp.mono e d h2, RpL.mono e ds h3⟩
end
theorem RpL.length {S : Hp} : ∀ {ds : List D} {vs : List V}, RpL S vs ds → vs.length = ds.length
  | [], _, h => by rw [show _ = [] from h]; rfl
  | _ :: ds, _, ⟨_, _, e, _, r⟩ => by rw [e, List.length_cons, List.length_cons, RpL.length r]
theorem RpL.get {S : Hp} : ∀ {ds : List D} {vs : List V} {i : Nat} {d : D}, RpL S vs ds → ds[i]? = some d → ∃ v, vs[i]? = some v ∧ Rp S v d
  | [], _, _, _, _, e => by simp at e
  | d :: ds, _, 0, _, ⟨w, ws, e1, h, _⟩, e => by simp at e; subst e; subst e1; exact ⟨_, rfl, h⟩
  | d :: ds, _, i + 1, _, ⟨w, ws, e1, _, r⟩, e => by
    obtain ⟨v, h1, h2⟩ := RpL.get (i := i) r (by simpa using e)
    subst e1
    exact ⟨v, by simpa using h1, h2⟩
theorem RpL.getV {S : Hp} : ∀ {ds : List D} {vs : List V} {i : Nat} {v : V}, RpL S vs ds → vs[i]? = some v → ∃ d, ds[i]? = some d ∧ Rp S v d
  | [], _, _, _, h, e => by rw [show _ = [] from h] at e; simp at e
  | d :: ds, _, 0, _, ⟨w, ws, e1, h, _⟩, e => by subst e1; simp at e; subst e; exact ⟨_, rfl, h⟩
  | d :: ds, _, i + 1, v, ⟨w, ws, e1, _, r⟩, e => by
    subst e1
    obtain ⟨d, h1, h2⟩ := RpL.getV (i := i) (v := v) r (by simpa using e)
    exact ⟨d, by simpa using h1, h2⟩
theorem RpL.append {S : Hp} : ∀ {ds es : List D} {vs ws : List V}, RpL S vs ds → RpL S ws es → RpL S (vs ++ ws) (ds ++ es)
  | [], _, _, _, h, s => by rw [show _ = [] from h]; exact s
  | _ :: _, _, _, _, ⟨w, ws, e, h, r⟩, s => by subst e; exact .cons h (RpL.append r s)
theorem RpL.take {S : Hp} : ∀ {ds : List D} {vs : List V} (n : Nat), RpL S vs ds → RpL S (vs.take n) (ds.take n)
  | _, _, 0, _ => RpL.nil
  | [], _, _ + 1, h => by rw [show _ = [] from h]; exact RpL.nil
  | _ :: _, _, n + 1, ⟨w, ws, e, h, r⟩ => by subst e; exact .cons h (RpL.take n r)
theorem RpL.drop {S : Hp} : ∀ {ds : List D} {vs : List V} (n : Nat), RpL S vs ds → RpL S (vs.drop n) (ds.drop n)
  | _, _, 0, r => r
  | [], _, _ + 1, h => by rw [show _ = [] from h]; exact RpL.nil
  | _ :: _, _, n + 1, ⟨w, ws, e, h, r⟩ => by subst e; exact RpL.drop n r
theorem RpL.set {S : Hp} {v : V} {d : D} (h : Rp S v d) : ∀ {ds : List D} {vs : List V} (i : Nat), RpL S vs ds → RpL S (vs.set i v) (ds.set i d)
  | [], _, _, h => by rw [show _ = [] from h]; exact RpL.nil
  | _ :: _, _, 0, ⟨w, ws, e, _, r⟩ => by subst e; exact .cons h r
  | _ :: _, _, i + 1, ⟨w, ws, e, q, r⟩ => by subst e; exact .cons q (RpL.set h i r)
theorem RpL.one {S : Hp} {v : V} {d : D} (h : Rp S v d) : RpL S [v] [d] := .cons h .nil
theorem RpL.rep {S : Hp} {vs : List V} {ds : List D} (h : RpL S vs ds) : ∀ k : Nat, RpL S (List.replicate k vs).flatten (List.replicate k ds).flatten
  | 0 => RpL.nil
  | k + 1 => by
    rw [List.replicate_succ, List.replicate_succ, List.flatten_cons, List.flatten_cons]
    exact h.append (RpL.rep h k)
theorem RpL.eraseIdx {S : Hp} : ∀ {ds : List D} {vs : List V} (i : Nat), RpL S vs ds → RpL S (vs.eraseIdx i) (ds.eraseIdx i)
  | [], _, _, h => by rw [show _ = [] from h]; exact RpL.nil
  | _ :: _, _, 0, ⟨w, ws, e, _, r⟩ => by subst e; exact r
  | _ :: _, _, i + 1, ⟨w, ws, e, h, r⟩ => by subst e; exact .cons h (RpL.eraseIdx i r)
theorem RpL.insertIdx {S : Hp} {v : V} {d : D} (h : Rp S v d) : ∀ {ds : List D} {vs : List V} (i : Nat), RpL S vs ds → RpL S (vs.insertIdx i v) (ds.insertIdx i d)
  | _, _, 0, r => by rw [List.insertIdx_zero, List.insertIdx_zero]; exact .cons h r
  | [], _, _ + 1, r => by rw [show _ = [] from r]; exact RpL.nil
  | _ :: _, _, i + 1, ⟨w, ws, e, q, r⟩ => by subst e; rw [List.insertIdx_succ_cons, List.insertIdx_succ_cons]; exact .cons q (RpL.insertIdx h i r)
theorem RpL.ints {S : Hp} : ∀ {ns : List Int} {vs : List V}, RpL S vs (ns.map .int) → vs = ns.map V.int
  | [], _, h => h
  | n :: ns, _, ⟨w, ws, e, h, r⟩ => by rw [e, show w = .int n from h, RpL.ints r]; rfl
theorem RpL.ofInts {S : Hp} : ∀ (ns : List Int), RpL S (ns.map V.int) (ns.map .int)
  | [] => RpL.nil
  | n :: ns => .cons (.int n) (RpL.ofInts ns)
theorem RpL.strs {S : Hp} : ∀ {ns : List Str} {vs : List V}, RpL S vs (ns.map .str) → vs = ns.map V.str
  | [], _, h => h
  | n :: ns, _, ⟨w, ws, e, h, r⟩ => by rw [e, show w = .str n from h, RpL.strs r]; rfl
theorem RpL.ofStrs {S : Hp} : ∀ (ns : List Str), RpL S (ns.map V.str) (ns.map .str)
  | [] => RpL.nil
  | n :: ns => .cons (.str n) (RpL.ofStrs ns)
theorem RpL.bools {S : Hp} : ∀ {ns : List Bool} {vs : List V}, RpL S vs (ns.map .bool) → vs = ns.map V.bl
  | [], _, h => h
  | n :: ns, _, ⟨w, ws, e, h, r⟩ => by rw [e, show w = .bl n from h, RpL.bools r]; rfl
/- no marks within -/
mutual
def plainD : D → Bool
  | .none => true
  | .bool _ => true
  | .int _ => true
  | .str _ => true
  | .list xs => plainL xs
  | .tuple xs => plainL xs
  | .dict _ => false
def plainL : List D → Bool
  | [] => true
  | x :: xs => plainD x && plainL xs
end
mutual
theorem Rp.dp {K : PySem.W.Frag} {S H : Hp} (e : Ex S H) : ∀ (d : D) {v : V}, Rp S v d → plainD d = true → Dp K H v d
  | .none, _, h, _ => by rw [show _ = V.non from h]; exact .non
  | .bool b, _, h, _ => by rw [show _ = V.bl b from h]; exact .bl b
  | .int b, _, h, _ => by rw [show _ = V.int b from h]; exact .int b
  | .str b, _, h, _ => by rw [show _ = V.str b from h]; exact .str b
  | .list ds, _, h, p => by
    obtain ⟨a, xs, h1, h2, h3⟩ := h
    rw [h1]
    exact .lst (SqL.of (e _ _ h2)) (RpL.dp e ds h3 p)
  | .tuple ds, _, h, p => by
    obtain ⟨a, xs, h1, h2, h3⟩ := h
    rw [h1]
    exact .tup (Tp.sq e h2) (RpL.dp e ds h3 p)
  | .dict _, _, _, p => by cases p
theorem RpL.dp {K : PySem.W.Frag} {S H : Hp} (e : Ex S H) : ∀ (ds : List D) {vs : List V}, RpL S vs ds → plainL ds = true → DpAll K H vs ds
  | [], _, h, _ => by rw [show _ = [] from h]; exact .nil
  | d :: ds, _, h, p => by
    obtain ⟨w, ws, e1, h1, h2⟩ := h
    have p' : (plainD d && plainL ds) = true := p
    rw [e1]
    exact .cons (Rp.dp e d h1 (Bool.and_eq_true_iff.mp p').1) (RpL.dp e ds h2 (Bool.and_eq_true_iff.mp p').2)
end

/-! ### slots -/
abbrev KD := List (Key × D)
inductive Sl where
  | no
  | sh (d : D)
  | ow (ds : List D)
  | io (ds : List D)
  | od (kvs : KD)
  | oT (ps : List (List Int × Int))
def Sl.own : Sl → Bool
  | .ow _ => true
  | .io _ => true
  | .od _ => true
  | .oT _ => true
  | _ => false
abbrev En := List Sl
abbrev RpK (S : Hp) (ws : List (Key × V)) (kvs : KD) : Prop := Paired (fun (p : Key × V) (q : Key × D) => p.1 = q.1 ∧ Rp S p.2 q.2) ws kvs
theorem RpK.mono {S S' : Hp} (e : Ex S S') {ws : List (Key × V)} {kvs : KD} (h : RpK S ws kvs) : RpK S' ws kvs := Paired.mapP h fun _ _ r => ⟨r.1, Rp.mono e _ r.2⟩
def SlAt (B : Hp) (M : List Addr) (H S : Hp) (ov : Option (Option V)) : Sl → Prop
  | .no => True
  | .sh d => ∃ v, ov = some (some v) ∧ Rp S v d
  | .ow ds => ∃ l vs, ov = some (some (.ref l)) ∧ H l = some (.lst vs) ∧ S l = none ∧ RpL S vs ds ∧ (B l = none ∧ l ∉ M)
  | .io ds => ∃ l vs, ov = some (some (.ref l)) ∧ H l = some (.lst vs) ∧ S l = none ∧ RpL S vs ds ∧ l ∈ M
  | .od kvs => ∃ l ws, ov = some (some (.ref l)) ∧ H l = some (.dK ws) ∧ S l = none ∧ RpK S ws kvs ∧ (B l = none ∧ l ∉ M)
  | .oT ps => ∃ l xs, ov = some (some (.ref l)) ∧ H l = some (HX.TdO l xs) ∧ S l = none ∧ HX.KX S ps xs ∧ (B l = none ∧ l ∉ M)
/-- the tables of code objects stand; what they tell of is shared -/
def TabsOk (M : List Addr) (H S : Hp) : Prop := ∀ q ∈ Wr.T, q.1 ∈ M ∧ S q.1 = none ∧ ∃ ps : Array Value, H q.1 = some (.tbl ps) ∧ TriplesOk ps.toList ∧ ∀ (pos : Pos) (cv : Value), codeAmong pos ps.toList = some cv → ∃ c, cv = .ref c ∧ S c = some (LamX.CodeO c q.2)
theorem TabsOk.mono {M M' : List Addr} {H S H' S' : Hp} (h : TabsOk M H S) (e : Ex S S') (k : ∀ q ∈ Wr.T, ∀ ps, q.1 ∈ M → S q.1 = none → H q.1 = some (.tbl ps) → q.1 ∈ M' ∧ H' q.1 = some (.tbl ps) ∧ S' q.1 = none) : TabsOk M' H' S' := fun q hq => by
  obtain ⟨h1, h2, ps, h3, h4, h5⟩ := h q hq
  obtain ⟨k1, k2, k3⟩ := k q hq ps h1 h2 h3
  exact ⟨k1, k3, ps, k2, h4, fun pos cv z => by
    obtain ⟨c, z1, z2⟩ := h5 pos cv z
    exact ⟨c, z1, e _ _ z2⟩⟩
theorem TabsOk.tabs {M : List Addr} {H S : Hp} (h : TabsOk M H S) (e : Ex S H) : LamX.Tabs Wr.T H := fun q hq => by
  obtain ⟨h1, h2, ps, h3, h4, h5⟩ := h q hq
  exact ⟨ps, h3, h4, fun pos cv z => by
    obtain ⟨c, z1, z2⟩ := h5 pos cv z
    exact ⟨c, z1, e _ _ z2⟩⟩
/-- the tables' addresses -/
abbrev tbs : List Addr := Wr.T.map (·.1)
theorem TabsOk.sub {M : List Addr} {H S : Hp} (h : TabsOk M H S) : ∀ a ∈ tbs, a ∈ M := fun a ha => by
  obtain ⟨q, hq, rfl⟩ := List.mem_map.mp ha
  exact (h q hq).1
theorem TabsOk.tbl {M : List Addr} {H S : Hp} (h : TabsOk M H S) {a : Addr} (ha : a ∈ tbs) : ∃ ps, H a = some (.tbl ps) := by
  obtain ⟨q, hq, rfl⟩ := List.mem_map.mp ha
  obtain ⟨_, _, ps, h3, _⟩ := h q hq
  exact ⟨ps, h3⟩
theorem TabsOk.low {M : List Addr} {H S : Hp} (h : TabsOk M H S) : TabsOk tbs H S := h.mono (Ex.refl S) fun q hq ps _ h2 h3 => ⟨List.mem_map.mpr ⟨q, hq, rfl⟩, h3, h2⟩
theorem TabsOk.up {M : List Addr} {H S : Hp} (h : TabsOk tbs H S) (s : ∀ a ∈ tbs, a ∈ M) : TabsOk M H S := h.mono (Ex.refl S) fun q hq ps _ h2 h3 => ⟨s _ (List.mem_map.mpr ⟨q, hq, rfl⟩), h3, h2⟩
structure Rel (B S0 : Hp) (M : List Addr) (σ : L2.St) (H S : Hp) (ρ : En) : Prop where
  sub : Ex S H
  s0 : Ex S0 S
  keep : ∀ a o, B a = some o → a ∉ M → H a = some o
  there : ∀ a ∈ M, ∃ o, H a = some o
  base : ∀ a o, B a = some o → S a = S0 a
  len : σ.length = ρ.length
  ats : ∀ (i : Nat) (s : Sl), ρ[i]? = some s → SlAt B M H S (σ[i]?) s
  apart : ∀ (i j : Nat) (s s' : Sl) (l : Addr), i ≠ j → ρ[i]? = some s → ρ[j]? = some s' → s.own = true → s'.own = true → σ[i]? = some (some (.ref l)) → σ[j]? = some (some (.ref l)) → False
  tabs : TabsOk M H S
section
variable {B S0 : Hp} {M : List Addr} {σ : L2.St} {H S : Hp} {ρ : En}
theorem SlAt.addr {B H S : Hp} {M : List Addr} {ov : Option (Option V)} {s : Sl} (h : SlAt B M H S ov s) (o : s.own = true) : ∃ l, ov = some (some (.ref l)) ∧ (∃ x, H l = some x) ∧ S l = none ∧ (B l = none ∨ l ∈ M) := by
  cases s with
  | no => cases o
  | sh d => cases o
  | ow ds => obtain ⟨l, vs, e, h1, h2, _, h4⟩ := h; exact ⟨l, e, ⟨_, h1⟩, h2, .inl h4.1⟩
  | io ds => obtain ⟨l, vs, e, h1, h2, _, h4⟩ := h; exact ⟨l, e, ⟨_, h1⟩, h2, .inr h4⟩
  | od kvs => obtain ⟨l, vs, e, h1, h2, _, h4⟩ := h; exact ⟨l, e, ⟨_, h1⟩, h2, .inl h4.1⟩
  | oT ps => obtain ⟨l, vs, e, h1, h2, _, h4⟩ := h; exact ⟨l, e, ⟨_, h1⟩, h2, .inl h4.1⟩
/-- another heap, where the owned ones stand as they were -/
theorem SlAt.mono {B H S H' S' : Hp} {M : List Addr} {ov : Option (Option V)} {s : Sl} (h : SlAt B M H S ov s) (e : Ex S S') (k : ∀ l o, ov = some (some (.ref l)) → s.own = true → H l = some o → S l = none → H' l = some o ∧ S' l = none) : SlAt B M H' S' ov s := by
  cases s with
  | no => trivial
  | sh d => obtain ⟨v, e1, r⟩ := h; exact ⟨v, e1, Rp.mono e _ r⟩
  | ow ds => obtain ⟨l, vs, e1, h1, h2, h3, h4⟩ := h; exact ⟨l, vs, e1, (k l _ e1 rfl h1 h2).1, (k l _ e1 rfl h1 h2).2, RpL.mono e _ h3, h4⟩
  | io ds => obtain ⟨l, vs, e1, h1, h2, h3, h4⟩ := h; exact ⟨l, vs, e1, (k l _ e1 rfl h1 h2).1, (k l _ e1 rfl h1 h2).2, RpL.mono e _ h3, h4⟩
  | od kvs => obtain ⟨l, vs, e1, h1, h2, h3, h4⟩ := h; exact ⟨l, vs, e1, (k l _ e1 rfl h1 h2).1, (k l _ e1 rfl h1 h2).2, RpK.mono e h3, h4⟩
  | oT ps => obtain ⟨l, vs, e1, h1, h2, h3, h4⟩ := h; exact ⟨l, vs, e1, (k l _ e1 rfl h1 h2).1, (k l _ e1 rfl h1 h2).2, h3.mono e, h4⟩
theorem Rel.fresh (R : Rel B S0 M σ H S ρ) {p : Addr} (h : H p = none) : B p = none ∧ S p = none := by
  refine ⟨?_, R.sub.none h⟩
  cases q : B p with
  | none => rfl
  | some o =>
    by_cases hm : p ∈ M
    · obtain ⟨x, hx⟩ := R.there p hm
      rw [h] at hx; cases hx
    · rw [R.keep p o q hm] at h; cases h
/-- a new object, shared at once -/
theorem Rel.pub (R : Rel B S0 M σ H S ρ) {p : Addr} {o : HO} (h : H p = none) : Rel B S0 M σ (upd H p o) (upd S p o) ρ where
  sub := fun a u e => by
    by_cases ha : a = p
    · subst ha; rw [upd_same] at e ⊢; exact e
    · rw [upd_ne ha] at e ⊢; exact R.sub a u e
  s0 := R.s0.trans (Ex.new (R.fresh h).2)
  keep := fun a u e m => by rw [upd_ne (ne_of_none e (R.fresh h).1)]; exact R.keep a u e m
  there := fun a m => by
    obtain ⟨x, hx⟩ := R.there a m
    exact ⟨x, by rw [upd_ne (ne_of_none hx h)]; exact hx⟩
  base := fun a u e => by rw [upd_ne (ne_of_none e (R.fresh h).1)]; exact R.base a u e
  len := R.len
  ats := fun i s e => (R.ats i s e).mono (Ex.new (R.fresh h).2) fun l u _ _ h1 h2 => ⟨by rw [upd_ne (ne_of_none h1 h)]; exact h1, by rw [upd_ne (ne_of_none h1 h)]; exact h2⟩
  apart := R.apart
  tabs := R.tabs.mono (Ex.new (R.fresh h).2) fun q _ ps h1 h2 h3 => ⟨h1, (upd_ne (ne_of_none h3 h)).trans h3, (upd_ne (ne_of_none h3 h)).trans h2⟩
/-- a new object, not shared -/
theorem Rel.lay (R : Rel B S0 M σ H S ρ) {p : Addr} {o : HO} (h : H p = none) : Rel B S0 M σ (upd H p o) S ρ where
  sub := R.sub.trans (Ex.new h)
  s0 := R.s0
  keep := fun a u e m => by rw [upd_ne (ne_of_none e (R.fresh h).1)]; exact R.keep a u e m
  there := fun a m => by
    obtain ⟨x, hx⟩ := R.there a m
    exact ⟨x, by rw [upd_ne (ne_of_none hx h)]; exact hx⟩
  base := R.base
  len := R.len
  ats := fun i s e => (R.ats i s e).mono (Ex.refl S) fun l u _ _ h1 h2 => ⟨by rw [upd_ne (ne_of_none h1 h)]; exact h1, h2⟩
  apart := R.apart
  tabs := R.tabs.mono (Ex.refl S) fun q _ ps h1 h2 h3 => ⟨h1, (upd_ne (ne_of_none h3 h)).trans h3, h2⟩
/-- p is no slot's -/
def NoSl (σ : L2.St) (ρ : En) (p : Addr) : Prop := ∀ (i : Nat) (s : Sl), ρ[i]? = some s → s.own = true → σ[i]? ≠ some (some (.ref p))
theorem Rel.noSl (R : Rel B S0 M σ H S ρ) {p : Addr} (h : H p = none) : NoSl σ ρ p := fun i s e o z => by
  obtain ⟨l, e1, ⟨x, hx⟩, _⟩ := (R.ats i s e).addr o
  rw [z] at e1
  injection e1 with e1
  injection e1 with e1
  injection e1 with e1
  rw [← e1, h] at hx; cases hx
/-- an object that is nobody's becomes shared -/
theorem Rel.give (R : Rel B S0 M σ H S ρ) {p : Addr} {o : HO} (h : H p = some o) (hs : S p = none) (hb : B p = none) (hm : p ∉ M) (n : NoSl σ ρ p) : Rel B S0 M σ H (upd S p o) ρ where
  sub := fun a u e => by
    by_cases ha : a = p
    · subst ha; rw [upd_same] at e; rw [h]; exact e
    · rw [upd_ne ha] at e; exact R.sub a u e
  s0 := R.s0.trans (Ex.new hs)
  keep := R.keep
  there := R.there
  base := fun a u e => by rw [upd_ne (ne_of_none e hb)]; exact R.base a u e
  len := R.len
  ats := fun i s e => (R.ats i s e).mono (Ex.new hs) fun l u e1 ow h1 h2 => ⟨h1, by
    rw [upd_ne (fun z => n i s e ow (by rw [e1, z]))]; exact h2⟩
  apart := R.apart
  tabs := R.tabs.mono (Ex.new hs) fun q _ ps h1 h2 h3 => ⟨h1, h3, (upd_ne fun z => hm (by rw [← z]; exact h1)).trans h2⟩
theorem getElem?_set_cases {α : Type} {l : List α} {i j : Nat} {x y : α} (h : (l.set i x)[j]? = some y) : (i = j ∧ y = x ∧ i < l.length) ∨ (i ≠ j ∧ l[j]? = some y) := by
  by_cases e : i = j
  · subst e
    by_cases hl : i < l.length
    · rw [List.getElem?_set_self hl] at h
      exact .inl ⟨rfl, (Option.some.inj h).symm, hl⟩
    · rw [List.getElem?_eq_none (by simpa using hl)] at h; cases h
  · rw [List.getElem?_set_ne e] at h
    exact .inr ⟨e, h⟩
/-- a slot is set to something shared -/
theorem Rel.setSh (R : Rel B S0 M σ H S ρ) {i : Nat} {v : V} {d : D} (r : Rp S v d) : Rel B S0 M (σ.set i (some v)) H S (ρ.set i (.sh d)) where
  sub := R.sub
  s0 := R.s0
  keep := R.keep
  there := R.there
  base := R.base
  len := by simpa using R.len
  ats := fun j s e => by
    rcases getElem?_set_cases e with ⟨rfl, rfl, hl⟩ | ⟨ne, e'⟩
    · exact ⟨v, by rw [List.getElem?_set_self (by rw [R.len]; exact hl)], r⟩
    · rw [List.getElem?_set_ne ne]; exact R.ats j s e'
  tabs := R.tabs
  apart := fun a b s s' l ab e1 e2 o1 o2 q1 q2 => by
    rcases getElem?_set_cases e1 with ⟨rfl, rfl, hl⟩ | ⟨ne1, e1'⟩
    · cases o1
    · rcases getElem?_set_cases e2 with ⟨rfl, rfl, hl⟩ | ⟨ne2, e2'⟩
      · cases o2
      · rw [List.getElem?_set_ne ne1] at q1
        rw [List.getElem?_set_ne ne2] at q2
        exact R.apart a b s s' l ab e1' e2' o1 o2 q1 q2
/-- a slot is forgotten; its value may be anything -/
theorem Rel.setNo (R : Rel B S0 M σ H S ρ) {i : Nat} (x : Option V) : Rel B S0 M (σ.set i x) H S (ρ.set i .no) where
  sub := R.sub
  s0 := R.s0
  keep := R.keep
  there := R.there
  base := R.base
  len := by simpa using R.len
  ats := fun j s e => by
    rcases getElem?_set_cases e with ⟨rfl, rfl, hl⟩ | ⟨ne, e'⟩
    · trivial
    · rw [List.getElem?_set_ne ne]; exact R.ats j s e'
  tabs := R.tabs
  apart := fun a b s s' l ab e1 e2 o1 o2 q1 q2 => by
    rcases getElem?_set_cases e1 with ⟨rfl, rfl, hl⟩ | ⟨ne1, e1'⟩
    · cases o1
    · rcases getElem?_set_cases e2 with ⟨rfl, rfl, hl⟩ | ⟨ne2, e2'⟩
      · cases o2
      · rw [List.getElem?_set_ne ne1] at q1
        rw [List.getElem?_set_ne ne2] at q2
        exact R.apart a b s s' l ab e1' e2' o1 o2 q1 q2
theorem Rel.forget (R : Rel B S0 M σ H S ρ) {i : Nat} : Rel B S0 M σ H S (ρ.set i .no) := by
  have h := R.setNo (i := i) ((σ[i]?).getD none)
  have e : σ.set i ((σ[i]?).getD none) = σ := by
    apply List.ext_getElem?
    intro j
    by_cases ij : i = j
    · subst ij
      by_cases hl : i < σ.length
      · rw [List.getElem?_set_self hl, List.getElem?_eq_getElem hl]; rfl
      · rw [List.getElem?_eq_none (by simpa using hl), List.getElem?_eq_none (by omega)]
    · rw [List.getElem?_set_ne ij]
  rw [e] at h
  exact h
/-- a slot is set to an owned thing -/
theorem Rel.setOwn (R : Rel B S0 M σ H S ρ) {i : Nat} {p : Addr} {s0 : Sl} (h : SlAt B M H S (some (some (.ref p))) s0) (n : NoSl σ ρ p) : Rel B S0 M (σ.set i (some (.ref p))) H S (ρ.set i s0) where
  sub := R.sub
  s0 := R.s0
  keep := R.keep
  there := R.there
  base := R.base
  len := by simpa using R.len
  ats := fun j s e => by
    rcases getElem?_set_cases e with ⟨rfl, rfl, hl⟩ | ⟨ne, e'⟩
    · rw [List.getElem?_set_self (by rw [R.len]; exact hl)]; exact h
    · rw [List.getElem?_set_ne ne]; exact R.ats j s e'
  tabs := R.tabs
  apart := fun a b s s' l ab e1 e2 o1 o2 q1 q2 => by
    rcases getElem?_set_cases e1 with ⟨rfl, rfl, hl⟩ | ⟨ne1, e1'⟩
    · rcases getElem?_set_cases e2 with ⟨rfl, rfl, hl⟩ | ⟨ne2, e2'⟩
      · exact ab rfl
      · rw [List.getElem?_set_self (by rw [R.len]; exact hl)] at q1
        rw [List.getElem?_set_ne ne2] at q2
        injection q1 with q1; injection q1 with q1; injection q1 with q1
        subst q1
        exact n b s' e2' o2 q2
    · rcases getElem?_set_cases e2 with ⟨rfl, rfl, hl⟩ | ⟨ne2, e2'⟩
      · rw [List.getElem?_set_self (by rw [R.len]; exact hl)] at q2
        rw [List.getElem?_set_ne ne1] at q1
        injection q2 with q2; injection q2 with q2; injection q2 with q2
        subst q2
        exact n a s e1' o1 q1
      · rw [List.getElem?_set_ne ne1] at q1
        rw [List.getElem?_set_ne ne2] at q2
        exact R.apart a b s s' l ab e1' e2' o1 o2 q1 q2
theorem Rel.no_tbl (R : Rel B S0 M σ H S ρ) {i : Nat} {l : Addr} {s1 : Sl} {ps : Array Value} (e : ρ[i]? = some s1) (o1 : s1.own = true) (ev : σ[i]? = some (some (.ref l))) (h : H l = some (.tbl ps)) : False := by
  have q := R.ats i s1 e
  rw [ev] at q
  cases s1 with
  | no => cases o1
  | sh d => cases o1
  | ow ds => obtain ⟨l', vs, e1, h1, _⟩ := q; cases e1; rw [h] at h1; cases h1
  | io ds => obtain ⟨l', vs, e1, h1, _⟩ := q; cases e1; rw [h] at h1; cases h1
  | od ds => obtain ⟨l', vs, e1, h1, _⟩ := q; cases e1; rw [h] at h1; cases h1
  | oT ps => obtain ⟨l', vs, e1, h1, _⟩ := q; cases e1; rw [h] at h1; cases h1
/-- an owned thing is written -/
theorem Rel.write (R : Rel B S0 M σ H S ρ) {i : Nat} {l : Addr} {s1 s2 : Sl} {o : HO} (e : ρ[i]? = some s1) (o1 : s1.own = true) (ev : σ[i]? = some (some (.ref l)))
    (h2 : SlAt B M (upd H l o) S (some (some (.ref l))) s2) : Rel B S0 M σ (upd H l o) S (ρ.set i s2) := by
  obtain ⟨l', e1, ⟨x, hx⟩, hS, hB⟩ := (R.ats i s1 e).addr o1
  rw [ev] at e1
  injection e1 with e1; injection e1 with e1; injection e1 with e1
  subst e1
  have il : i < ρ.length := (List.getElem?_eq_some_iff.mp e).1
  have neq : ∀ j s, i ≠ j → ρ[j]? = some s → s.own = true → σ[j]? ≠ some (some (.ref l)) := fun j s ne ej oj q => R.apart i j s1 s l ne e ej o1 oj ev q
  refine ⟨fun a u q => ?_, R.s0, fun a u q m => ?_, fun a m => ?_, R.base, by simpa using R.len, fun j s q => ?_, fun a b s s' l2 ab q1 q2 o1' o2' r1 r2 => ?_, R.tabs.mono (Ex.refl S) fun q _ ps h1 h2 h3 => ⟨h1, (upd_ne fun z => ?_).trans h3, h2⟩⟩
  · rw [upd_ne (ne_of_none q hS)]; exact R.sub a u q
  · have : a ≠ l := fun z => by
      subst z
      rcases hB with hb | hb
      · rw [q] at hb; cases hb
      · exact m hb
    rw [upd_ne this]; exact R.keep a u q m
  · by_cases z : a = l
    · subst z; exact ⟨o, upd_same⟩
    · rw [upd_ne z]; exact R.there a m
  · rcases getElem?_set_cases q with ⟨rfl, rfl, _⟩ | ⟨ne, q'⟩
    · rw [ev]; exact h2
    · refine (R.ats j s q').mono (Ex.refl S) fun l2 u e2 ow h1 hs => ⟨?_, hs⟩
      rw [upd_ne (fun z => neq j s ne q' ow (by rw [e2, z]))]; exact h1
  · have old : ∀ (k : Nat) (t : Sl), (ρ.set i s2)[k]? = some t → t.own = true → ∃ t', ρ[k]? = some t' ∧ t'.own = true := fun k t hk ot => by
      rcases getElem?_set_cases hk with ⟨rfl, rfl, _⟩ | ⟨_, hk'⟩
      · exact ⟨s1, e, o1⟩
      · exact ⟨t, hk', ot⟩
    obtain ⟨t1, z1, p1⟩ := old a s q1 o1'
    obtain ⟨t2, z2, p2⟩ := old b s' q2 o2'
    exact R.apart a b t1 t2 l2 ab z1 z2 p1 p2 r1 r2
  · rw [z] at h3
    exact R.no_tbl e o1 ev h3
/-- less is to be kept -/
theorem Rel.weak {B' : Hp} (R : Rel B' S0 M σ H S ρ) (h : Ex B B') : Rel B S0 M σ H S ρ where
  sub := R.sub
  s0 := R.s0
  keep := fun a o e m => R.keep a o (h a o e) m
  there := R.there
  base := fun a o e => R.base a o (h a o e)
  len := R.len
  ats := fun i s e => by
    have q := R.ats i s e
    cases s with
    | no => trivial
    | sh d => exact q
    | ow ds => obtain ⟨l, vs, e1, h1, h2, h3, h4⟩ := q; exact ⟨l, vs, e1, h1, h2, h3, h4.imp h.none id⟩
    | io ds => exact q
    | od kvs => obtain ⟨l, vs, e1, h1, h2, h3, h4⟩ := q; exact ⟨l, vs, e1, h1, h2, h3, h4.imp h.none id⟩
    | oT ps => obtain ⟨l, vs, e1, h1, h2, h3, h4⟩ := q; exact ⟨l, vs, e1, h1, h2, h3, h4.imp h.none id⟩
  apart := R.apart
  tabs := R.tabs
/-- one more thing is to be kept: it is nobody's -/
theorem Rel.pin (R : Rel B S0 M σ H S ρ) {p : Addr} {o : HO} (h : H p = some o) (hs : S p = none) (hm : p ∉ M) (n : NoSl σ ρ p) : Rel (upd B p o) S0 M σ H S ρ where
  sub := R.sub
  s0 := R.s0
  keep := fun a u e m => by
    by_cases z : a = p
    · subst z; rw [upd_same] at e; rw [h]; exact e
    · rw [upd_ne z] at e; exact R.keep a u e m
  there := R.there
  base := fun a u e => by
    by_cases z : a = p
    · subst z; rw [hs, R.s0.none hs]
    · rw [upd_ne z] at e; exact R.base a u e
  len := R.len
  ats := fun i s e => by
    have q := R.ats i s e
    cases s with
    | no => trivial
    | sh d => exact q
    | ow ds =>
      obtain ⟨l, vs, e1, h1, h2, h3, h4⟩ := q
      exact ⟨l, vs, e1, h1, h2, h3, h4.imp (fun z => by rw [upd_ne (fun y => n i _ e rfl (by rw [e1, y]))]; exact z) id⟩
    | io ds => exact q
    | od kvs =>
      obtain ⟨l, vs, e1, h1, h2, h3, h4⟩ := q
      exact ⟨l, vs, e1, h1, h2, h3, h4.imp (fun z => by rw [upd_ne (fun y => n i _ e rfl (by rw [e1, y]))]; exact z) id⟩
    | oT ps =>
      obtain ⟨l, vs, e1, h1, h2, h3, h4⟩ := q
      exact ⟨l, vs, e1, h1, h2, h3, h4.imp (fun z => by rw [upd_ne (fun y => n i _ e rfl (by rw [e1, y]))]; exact z) id⟩
  apart := R.apart
  tabs := R.tabs
/-- what is kept is no slot's -/
theorem Rel.pinned (R : Rel B S0 M σ H S ρ) {p : Addr} {o : HO} (h : B p = some o) (hm : p ∉ M) : NoSl σ ρ p ∧ H p = some o := by
  refine ⟨fun i s e ow z => ?_, R.keep p o h hm⟩
  obtain ⟨l, e1, _, _, hB⟩ := (R.ats i s e).addr ow
  rw [z] at e1
  injection e1 with e1; injection e1 with e1; injection e1 with e1
  subst e1
  rcases hB with hb | hb
  · rw [h] at hb; cases hb
  · exact hm hb
end
end DL

set_option Elab.async false
set_option linter.all false
set_option maxRecDepth 100000
set_option maxHeartbeats 4000000
namespace DL
open PySem PySem.Spec PyProof.Rows L2
variable [Wr]

/-! ### results -/
inductive Res (α : Type) where
  | ok (a : α)
  | err (c : Str) (fs : List V)
  | no
def Res.bind {α β : Type} (x : Res α) (f : α → Res β) : Res β := match x with
  | .ok a => f a
  | .err c fs => .err c fs
  | .no => .no
@[simp] theorem Res.bind_ok {α β : Type} (a : α) (f : α → Res β) : (Res.ok a).bind f = f a := rfl
@[simp] theorem Res.bind_err {α β : Type} (c : Str) (fs : List V) (f : α → Res β) : (Res.err c fs : Res α).bind f = .err c fs := rfl
@[simp] theorem Res.bind_no {α β : Type} (f : α → Res β) : (Res.no : Res α).bind f = .no := rfl
/-- a value: shared, a new list, a new dict -/
inductive Rv where
  | sh (d : D)
  | fr (ds : List D)
  | fk (kvs : KD)
inductive Out where
  | nx (ρ : En)
  | rt (rv : Rv) (ρ : En)
  | bk (ρ : En)
  | ct (ρ : En)
  | err (c : Str) (fs : List V)
  | no
abbrev Er := Str → List V → Hp → Prop
abbrev Fe := En → Res (Rv × En)
abbrev Fd := En → Res (D × En)
abbrev Ft := En → Res (Bool × En)
abbrev Fa := En → Res (List D × En)
abbrev Fs := En → Out
def Nobody (B : Hp) (M : List Addr) (σ : L2.St) (S : Hp) (ρ : En) (p : Addr) : Prop := S p = none ∧ B p = none ∧ p ∉ M ∧ NoSl σ ρ p
def Good (B : Hp) (M : List Addr) (σ : L2.St) (H S : Hp) (ρ : En) (v : V) : Rv → Prop
  | .sh d => Rp S v d
  | .fr ds => ∃ p vs, v = .ref p ∧ H p = some (.lst vs) ∧ RpL S vs ds ∧ Nobody B M σ S ρ p
  | .fk kvs => ∃ p ws, v = .ref p ∧ H p = some (.dK ws) ∧ RpK S ws kvs ∧ Nobody B M σ S ρ p
/-- what stands behind an exception -/
def Kp (B S0 : Hp) (M : List Addr) (H' : Hp) : Prop := (∀ a o, B a = some o → a ∉ M → H' a = some o) ∧ ∃ S', Ex S0 S' ∧ Ex S' H' ∧ TabsOk M H' S' ∧ (∀ a ∈ M, ∃ o, H' a = some o) ∧ ∀ a o, B a = some o → S' a = S0 a
def AE (ER : Er) (B S0 : Hp) (M : List Addr) (σ : L2.St) (S : Hp) (Q : VK) : Res (Rv × En) → Prop
  | .ok (rv, ρ') => ∀ v H' S', Ex S S' → Rel B S0 M σ H' S' ρ' → Good B M σ H' S' ρ' v rv → Q v H'
  | .err c fs => ∀ H', Kp B S0 M H' → ER c fs H'
  | .no => False
def AD (ER : Er) (B S0 : Hp) (M : List Addr) (σ : L2.St) (S : Hp) (Q : VK) : Res (D × En) → Prop
  | .ok (d, ρ') => ∀ v H' S', Ex S S' → Rel B S0 M σ H' S' ρ' → Rp S' v d → Q v H'
  | .err c fs => ∀ H', Kp B S0 M H' → ER c fs H'
  | .no => False
def AT (ER : Er) (B S0 : Hp) (M : List Addr) (σ : L2.St) (S : Hp) (Q : Bool → Hp → Prop) : Res (Bool × En) → Prop
  | .ok (b, ρ') => ∀ H' S', Ex S S' → Rel B S0 M σ H' S' ρ' → Q b H'
  | .err c fs => ∀ H', Kp B S0 M H' → ER c fs H'
  | .no => False
def AA (ER : Er) (B S0 : Hp) (M : List Addr) (σ : L2.St) (S : Hp) (Q : List V → Hp → Prop) : Res (List D × En) → Prop
  | .ok (ds, ρ') => ∀ vs H' S', Ex S S' → Rel B S0 M σ H' S' ρ' → RpL S' vs ds → Q vs H'
  | .err c fs => ∀ H', Kp B S0 M H' → ER c fs H'
  | .no => False
def AS (ER : Er) (B S0 : Hp) (M : List Addr) (S : Hp) (E : Ends) : Out → Prop
  | .nx ρ' => ∀ σ' H' S', Ex S S' → Rel B S0 M σ' H' S' ρ' → E.nx σ' H'
  | .rt rv ρ' => ∀ v σ' H' S', Ex S S' → Rel B S0 M σ' H' S' ρ' → Good B M σ' H' S' ρ' v rv → E.rt v H'
  | .bk ρ' => ∀ σ' H' S', Ex S S' → Rel B S0 M σ' H' S' ρ' → E.bk σ' H'
  | .ct ρ' => ∀ σ' H' S', Ex S S' → Rel B S0 M σ' H' S' ρ' → E.ct σ' H'
  | .err c fs => ∀ H', Kp B S0 M H' → ER c fs H'
  | .no => False
structure RE (ER : Er) (t : TE) (f : Fe) : Prop where
  go : ∀ B S0 M σ H S ρ Q, Rel B S0 M σ H S ρ → AE ER B S0 M σ S Q (f ρ) → t σ H Q
structure RD (ER : Er) (t : TE) (f : Fd) : Prop where
  go : ∀ B S0 M σ H S ρ Q, Rel B S0 M σ H S ρ → AD ER B S0 M σ S Q (f ρ) → t σ H Q
structure RT (ER : Er) (t : TT) (f : Ft) : Prop where
  go : ∀ B S0 M σ H S ρ Q, Rel B S0 M σ H S ρ → AT ER B S0 M σ S Q (f ρ) → t σ H Q
structure RA (ER : Er) (t : TA) (f : Fa) : Prop where
  go : ∀ B S0 M σ H S ρ Q, Rel B S0 M σ H S ρ → AA ER B S0 M σ S Q (f ρ) → t σ H Q
structure RS (ER : Er) (t : TS) (f : Fs) : Prop where
  go : ∀ B S0 M σ H S ρ E, Rel B S0 M σ H S ρ → AS ER B S0 M S E (f ρ) → t E σ H
section
variable {ER : Er} {B S0 : Hp} {M : List Addr} {σ : L2.St} {S S1 H : Hp} {ρ : En}
theorem Kp.weak {B B' S0 : Hp} {M : List Addr} {H' : Hp} (k : Kp B' S0 M H') (h : Ex B B') : Kp B S0 M H' := by
  obtain ⟨k1, S', k2, k3, k4, k5, k6⟩ := k
  exact ⟨fun a o e m => k1 a o (h a o e) m, S', k2, k3, k4, k5, fun a o e => k6 a o (h a o e)⟩
theorem Rel.kp (R : Rel B S0 M σ H S ρ) : Kp B S0 M H := ⟨R.keep, S, R.s0, R.sub, R.tabs, R.there, R.base⟩
theorem Rel.nobody (R : Rel B S0 M σ H S ρ) {p : Addr} (h : H p = none) : Nobody B M σ S ρ p := by
  refine ⟨(R.fresh h).2, (R.fresh h).1, fun m => ?_, R.noSl h⟩
  obtain ⟨o, ho⟩ := R.there p m
  rw [h] at ho; cases ho
theorem AE.later {Q : VK} {x : Res (Rv × En)} (e : Ex S S1) (h : AE ER B S0 M σ S Q x) : AE ER B S0 M σ S1 Q x := by
  cases x with
  | ok a => exact fun v H' S' e1 r g => h v H' S' (e.trans e1) r g
  | err c fs => exact h
  | no => exact h
theorem AD.later {Q : VK} {x : Res (D × En)} (e : Ex S S1) (h : AD ER B S0 M σ S Q x) : AD ER B S0 M σ S1 Q x := by
  cases x with
  | ok a => exact fun v H' S' e1 r g => h v H' S' (e.trans e1) r g
  | err c fs => exact h
  | no => exact h
theorem AT.later {Q : Bool → Hp → Prop} {x : Res (Bool × En)} (e : Ex S S1) (h : AT ER B S0 M σ S Q x) : AT ER B S0 M σ S1 Q x := by
  cases x with
  | ok a => exact fun H' S' e1 r => h H' S' (e.trans e1) r
  | err c fs => exact h
  | no => exact h
theorem AA.later {Q : List V → Hp → Prop} {x : Res (List D × En)} (e : Ex S S1) (h : AA ER B S0 M σ S Q x) : AA ER B S0 M σ S1 Q x := by
  cases x with
  | ok a => exact fun v H' S' e1 r g => h v H' S' (e.trans e1) r g
  | err c fs => exact h
  | no => exact h
theorem AS.later {E : Ends} {x : Out} (e : Ex S S1) (h : AS ER B S0 M S E x) : AS ER B S0 M S1 E x := by
  cases x with
  | nx ρ' => exact fun σ' H' S' e1 r => h σ' H' S' (e.trans e1) r
  | rt rv ρ' => exact fun v σ' H' S' e1 r g => h v σ' H' S' (e.trans e1) r g
  | bk ρ' => exact fun σ' H' S' e1 r => h σ' H' S' (e.trans e1) r
  | ct ρ' => exact fun σ' H' S' e1 r => h σ' H' S' (e.trans e1) r
  | err c fs => exact h
  | no => exact h
/-- a value that is shared from now on -/
theorem Good.share {v : V} {rv : Rv} (R : Rel B S0 M σ H S ρ) (g : Good B M σ H S ρ v rv) : match rv with
    | .sh d => Rp S v d
    | .fr ds => ∃ S', Ex S S' ∧ Rel B S0 M σ H S' ρ ∧ Rp S' v (.list ds)
    | .fk _ => True := by
  cases rv with
  | sh d => exact g
  | fr ds =>
    obtain ⟨p, vs, rfl, h1, h2, h3, h4, h5, h6⟩ := g
    exact ⟨upd S p (.lst vs), Ex.new h3, R.give h1 h3 h4 h5 h6, Rp.lst upd_same (RpL.mono (Ex.new h3) _ h2)⟩
  | fk kvs => trivial
end
def dSh (f : Fe) : Fd := fun ρ => match f ρ with
  | .ok (.sh d, ρ') => .ok (d, ρ')
  | .ok (.fr ds, ρ') => .ok (.list ds, ρ')
  | .ok (.fk _, _) => .no
  | .err c fs => .err c fs
  | .no => .no
section
variable {ER : Er} {t : TE} {f : Fe}
theorem RE.sh (h : RE ER t f) : RD ER t (dSh f) := ⟨fun B S0 M σ H S ρ Q R a => by
  refine h.go B S0 M σ H S ρ Q R ?_
  unfold dSh at a
  cases e : f ρ with
  | ok x =>
    obtain ⟨rv, ρ'⟩ := x
    rw [e] at a
    cases rv with
    | sh d => exact fun v H' S' e1 r g => a v H' S' e1 r g
    | fr ds =>
      intro v H' S' e1 r g
      obtain ⟨S'', e2, r2, g2⟩ := Good.share r g
      exact a v H' S'' (e1.trans e2) r2 g2
    | fk kvs => exact (show False from a).elim
  | err c fs => rw [e] at a; exact a
  | no => rw [e] at a; exact (show False from a).elim⟩
end
/-! ### names and constants -/
section
variable {ER : Er}
/-- a name that is read: an owned list is shared from then on -/
def dVar (i : Nat) : Fe := fun ρ => match ρ[i]? with
  | some (.sh d) => .ok (.sh d, ρ)
  | some (.ow ds) => .ok (.sh (.list ds), ρ.set i (.sh (.list ds)))
  | _ => .no
/-- an owned list leaves its name -/
def dMove (i : Nat) : Fe := fun ρ => match ρ[i]? with
  | some (.sh d) => .ok (.sh d, ρ)
  | some (.ow ds) => .ok (.fr ds, ρ.set i .no)
  | some (.od kvs) => .ok (.fk kvs, ρ.set i .no)
  | _ => .no
theorem re_var (i : Nat) : RE ER (tVar i) (dVar i) := ⟨fun B S0 M σ H S ρ Q R a => by
  unfold dVar at a
  cases e : ρ[i]? with
  | none => rw [e] at a; exact (show False from a).elim
  | some s =>
    rw [e] at a
    have q := R.ats i s e
    cases s with
    | no => exact (show False from a).elim
    | sh d =>
      obtain ⟨v, ev, r⟩ := q
      exact ⟨v, ev, a v H S (Ex.refl S) R r⟩
    | od kvs => exact (show False from a).elim
    | oT ps => exact (show False from a).elim
    | ow ds =>
      obtain ⟨l, vs, ev, h1, h2, h3, h4⟩ := q
      refine ⟨.ref l, ev, ?_⟩
      have il : i < ρ.length := (List.getElem?_eq_some_iff.mp e).1
      have R1 := R.forget (i := i)
      have n : NoSl σ (ρ.set i .no) l := fun j s ej oj z => by
        rcases getElem?_set_cases ej with ⟨rfl, rfl, _⟩ | ⟨ne, ej'⟩
        · cases oj
        · exact R.apart i j _ s l ne e ej' rfl oj ev z
      have Sx : Ex S (upd S l (.lst vs)) := Ex.new h2
      · have R2 := R1.give h1 h2 h4.1 h4.2 n
        have rp : Rp (upd S l (.lst vs)) (.ref l) (.list ds) := Rp.lst upd_same (RpL.mono Sx _ h3)
        have R3 := R2.setSh (i := i) rp
        have es : σ.set i (some (.ref l)) = σ := by
          apply List.ext_getElem?
          intro j
          by_cases ij : i = j
          · subst ij
            rw [List.getElem?_set_self (by rw [R.len]; exact il), ev]
          · rw [List.getElem?_set_ne ij]
        rw [es, List.set_set] at R3
        exact a (.ref l) H _ Sx R3 rp
    | io ds => exact (show False from a).elim⟩
end
end DL

set_option Elab.async false
set_option linter.all false
set_option maxRecDepth 100000
set_option maxHeartbeats 4000000
namespace DL
open PySem PySem.Spec PyProof.Rows L2
variable [Wr]
section
variable {ER : Er} {ta tb tc te : TE} {fa fb fc : Fd} {fe : Fe}
theorem re_move (i : Nat) : RE ER (tVar i) (dMove i) := ⟨fun B S0 M σ H S ρ Q R a => by
  unfold dMove at a
  cases e : ρ[i]? with
  | none => rw [e] at a; exact (show False from a).elim
  | some s =>
    rw [e] at a
    have q := R.ats i s e
    have out : ∀ l, s.own = true → σ[i]? = some (some (.ref l)) → NoSl σ (ρ.set i .no) l := fun l os ev j s' ej oj z => by
      rcases getElem?_set_cases ej with ⟨rfl, rfl, _⟩ | ⟨ne, ej'⟩
      · cases oj
      · exact R.apart i j _ s' l ne e ej' os oj ev z
    cases s with
    | no => exact (show False from a).elim
    | io ds => exact (show False from a).elim
    | oT ps => exact (show False from a).elim
    | sh d =>
      obtain ⟨v, ev, r⟩ := q
      exact ⟨v, ev, a v H S (Ex.refl S) R r⟩
    | od kvs =>
      obtain ⟨l, ws, ev, h1, h2, h3, h4⟩ := q
      exact ⟨.ref l, ev, a (.ref l) H S (Ex.refl S) R.forget ⟨l, ws, rfl, h1, h3, h2, h4.1, h4.2, out l rfl ev⟩⟩
    | ow ds =>
      obtain ⟨l, ws, ev, h1, h2, h3, h4⟩ := q
      exact ⟨.ref l, ev, a (.ref l) H S (Ex.refl S) R.forget ⟨l, ws, rfl, h1, h3, h2, h4.1, h4.2, out l rfl ev⟩⟩⟩
/-- a constant -/
def dC (d : D) : Fe := fun ρ => .ok (.sh d, ρ)
theorem re_int (i : Int) : RE ER (tC (.int i)) (dC (.int i)) := ⟨fun B S0 M σ H S ρ Q R a => a (.int i) H S (Ex.refl S) R (show Rp S (.int i) (.int i) from rfl)⟩
theorem re_bl (b : Bool) : RE ER (tC (.bl b)) (dC (.bool b)) := ⟨fun B S0 M σ H S ρ Q R a => a (.bl b) H S (Ex.refl S) R (show Rp S (.bl b) (.bool b) from rfl)⟩
theorem re_non : RE ER (tC .non) (dC .none) := ⟨fun B S0 M σ H S ρ Q R a => a .non H S (Ex.refl S) R (show Rp S .non .none from rfl)⟩
theorem re_str (x : Str) : RE ER (tC (.str x)) (dC (.str x)) := ⟨fun B S0 M σ H S ρ Q R a => a (.str x) H S (Ex.refl S) R (show Rp S (.str x) (.str x) from rfl)⟩
/-! ### operators by data -/
def AG (B S0 : Hp) (M : List Addr) (σ : L2.St) (S : Hp) (ρ : En) (Q : VK) (rv : Rv) : Prop := ∀ v H' S', Ex S S' → Rel B S0 M σ H' S' ρ → Good B M σ H' S' ρ v rv → Q v H'
def OpG (r : R2) (g : D → D → Option Rv) : Prop := ∀ B S0 M σ H S ρ x y d e rv Q, Rel B S0 M σ H S ρ → Rp S x d → Rp S y e → g d e = some rv → AG B S0 M σ S ρ Q rv → r x y H Q
def optR (o : Option Rv) (ρ : En) : Res (Rv × En) := match o with
  | some rv => .ok (rv, ρ)
  | none => .no
def dOp (g : D → D → Option Rv) (fa fb : Fd) : Fe := fun ρ => (fa ρ).bind fun p => (fb p.2).bind fun q => optR (g p.1 q.1) q.2
theorem AD.bindE {B S0 : Hp} {M : List Addr} {σ : L2.St} {S : Hp} {Q Q' : VK} {x : Res (D × En)} {k : D × En → Res (Rv × En)} (h : AE ER B S0 M σ S Q (x.bind k))
    (c : ∀ d ρ' v H' S', Ex S S' → Rel B S0 M σ H' S' ρ' → Rp S' v d → AE ER B S0 M σ S' Q (k (d, ρ')) → Q' v H') : AD ER B S0 M σ S Q' x := by
  cases x with
  | ok a => exact fun v H' S' e R r => c a.1 a.2 v H' S' e R r (AE.later e h)
  | err c fs => exact h
  | no => exact (show False from h).elim
theorem re_op {r : R2} {g : D → D → Option Rv} (ho : OpG r g) (ha : RD ER ta fa) (hb : RD ER tb fb) : RE ER (tOp r ta tb) (dOp g fa fb) := ⟨fun B S0 M σ H S ρ Q R a => by
  refine ha.go B S0 M σ H S ρ _ R (AD.bindE a fun d ρ1 x H1 S1 e1 R1 r1 a1 => ?_)
  refine hb.go B S0 M σ H1 S1 ρ1 _ R1 (AD.bindE a1 fun e ρ2 y H2 S2 e2 R2 r2 a2 => ?_)
  replace a2 : AE ER B S0 M σ S2 Q (optR (g d e) ρ2) := a2
  cases eg : g d e with
  | none => rw [eg] at a2; exact (show False from a2).elim
  | some rv =>
    rw [eg] at a2
    exact ho B S0 M σ H2 S2 ρ2 x y d e rv Q R2 (Rp.mono e2 _ r1) r2 eg fun v H' S' e3 R3 g3 => a2 v H' S' e3 R3 g3⟩
/-! what the operators give -/
theorem ag_sh {B S0 : Hp} {M : List Addr} {σ : L2.St} {H S : Hp} {ρ : En} {Q : VK} {d : D} {v : V} (R : Rel B S0 M σ H S ρ) (a : AG B S0 M σ S ρ Q (.sh d)) (r : Rp S v d) : Q v H := a v H S (Ex.refl S) R r
theorem ag_fr {B S0 : Hp} {M : List Addr} {σ : L2.St} {H S : Hp} {ρ : En} {Q : VK} {ds : List D} {vs : List V} {p : Addr} (R : Rel B S0 M σ H S ρ) (a : AG B S0 M σ S ρ Q (.fr ds)) (r : RpL S vs ds) (hp : H p = none) : Q (.ref p) (upd H p (.lst vs)) :=
  a (.ref p) _ S (Ex.refl S) (R.lay hp) ⟨p, vs, rfl, upd_same, r, R.nobody hp⟩
theorem ag_tup {B S0 : Hp} {M : List Addr} {σ : L2.St} {H S : Hp} {ρ : En} {Q : VK} {ds : List D} {vs : List V} {p : Addr} (R : Rel B S0 M σ H S ρ) (a : AG B S0 M σ S ρ Q (.sh (.tuple ds))) (r : RpL S vs ds) {o : Obj} (ho : Xo o) (hp : H p = none) : Q (.ref p) (upd H p (.frz o (.tup vs))) :=
  a (.ref p) _ _ (Ex.new (R.fresh hp).2) (R.pub hp) (Rp.tup ⟨o, upd_same, ho⟩ (RpL.mono (Ex.new (R.fresh hp).2) _ r))
def szOk (n : Nat) : Bool := decide (n ≤ 1000000)
theorem sz_line {n : Nat} (h : szOk n = true) : n ≤ sizeLine := by
  have := of_decide_eq_true h
  rw [sizeLine_eq]; omega
theorem sz_lt {n : Nat} (h : szOk n = true) : n < sizeLine := by
  have := of_decide_eq_true h
  rw [sizeLine_eq]; omega
def dAdd : D → D → Option Rv
  | .int a, .int b => some (.sh (.int (a + b)))
  | .str a, .str b => if szOk (a.length + b.length) = true then some (.sh (.str (a ++ b))) else none
  | .list a, .list b => if szOk (a.length + b.length) = true then some (.fr (a ++ b)) else none
  | _, _ => none
def rAddD (K : PySem.W.Frag) : R2 := fun x y H Q => (rI0 fun i j => .int (i + j)) x y H Q ∨ (∃ i j, x = .str i ∧ y = .str j ∧ i.length + j.length ≤ sizeLine ∧ Q (.str (i ++ j)) H) ∨ rCat x y H Q ∨ rCatA K x y H Q
theorem op_addD {X : Cx} : OpR X (binaryOp .Add) (rAddD X.K) := op_add.or (op_add_str.or (op_cat.or op_catA))
theorem g_add {K : PySem.W.Frag} : OpG (rAddD K) dAdd := fun B S0 M σ H S ρ x y d e rv Q R rx ry h a => by
  unfold dAdd at h
  split at h
  · cases h
    exact .inl ⟨_, _, rx, ry, ag_sh R a rfl⟩
  · split at h
    · rename_i hz
      cases h
      exact .inr (.inl ⟨_, _, rx, ry, sz_line hz, ag_sh R a rfl⟩)
    · cases h
  · split at h
    · rename_i hz
      cases h
      obtain ⟨l, xs, rfl, h1, r1⟩ := rx
      obtain ⟨m, ys, rfl, h2, r2⟩ := ry
      exact .inr (.inr (.inl ⟨l, m, xs, ys, rfl, rfl, R.sub _ _ h1, R.sub _ _ h2, by rw [r1.length, r2.length]; exact sz_line hz, fun p hp => ag_fr R a (r1.append r2) hp⟩))
    · cases h
  · cases h
end
end DL

set_option Elab.async false
set_option linter.all false
set_option maxRecDepth 100000
set_option maxHeartbeats 4000000
namespace DL
open PySem PySem.Spec PyProof.Rows L2
variable [Wr]
/-! ### lists of one kind -/
def intsOf : List D → Option (List Int)
  | [] => some []
  | .int i :: ds => (intsOf ds).map (i :: ·)
  | _ :: _ => none
def boolsOf : List D → Option (List Bool)
  | [] => some []
  | .bool i :: ds => (boolsOf ds).map (i :: ·)
  | _ :: _ => none
def strsOf : List D → Option (List Str)
  | [] => some []
  | .str i :: ds => (strsOf ds).map (i :: ·)
  | _ :: _ => none
theorem intsOf_eq : ∀ {ds : List D} {ns : List Int}, intsOf ds = some ns → ds = ns.map .int
  | [], _, h => by cases h; rfl
  | .int i :: ds, ns, h => by
    simp only [intsOf, Option.map_eq_some_iff] at h
    obtain ⟨l, h1, rfl⟩ := h
    rw [intsOf_eq h1]; rfl
theorem boolsOf_eq : ∀ {ds : List D} {ns : List Bool}, boolsOf ds = some ns → ds = ns.map .bool
  | [], _, h => by cases h; rfl
  | .bool i :: ds, ns, h => by
    simp only [boolsOf, Option.map_eq_some_iff] at h
    obtain ⟨l, h1, rfl⟩ := h
    rw [boolsOf_eq h1]; rfl
theorem strsOf_eq : ∀ {ds : List D} {ns : List Str}, strsOf ds = some ns → ds = ns.map .str
  | [], _, h => by cases h; rfl
  | .str i :: ds, ns, h => by
    simp only [strsOf, Option.map_eq_some_iff] at h
    obtain ⟨l, h1, rfl⟩ := h
    rw [strsOf_eq h1]; rfl
@[simp] theorem intsOf_map (ns : List Int) : intsOf (ns.map .int) = some ns := by
  induction ns with
  | nil => rfl
  | cons n ns ih => simp [intsOf, ih]
@[simp] theorem boolsOf_map (ns : List Bool) : boolsOf (ns.map .bool) = some ns := by
  induction ns with
  | nil => rfl
  | cons n ns ih => simp [boolsOf, ih]
@[simp] theorem strsOf_map (ns : List Str) : strsOf (ns.map .str) = some ns := by
  induction ns with
  | nil => rfl
  | cons n ns ih => simp [strsOf, ih]
section
variable {ER : Er} {ta tb tc te : TE} {fa fb fc : Fd} {fe : Fe}
/-! ### arithmetic -/
def dSub : D → D → Option Rv
  | .int a, .int b => some (.sh (.int (a - b)))
  | _, _ => none
theorem g_sub : OpG (rI0 fun i j => .int (i - j)) dSub := fun B S0 M σ H S ρ x y d e rv Q R rx ry h a => by
  unfold dSub at h
  split at h
  · cases h; exact ⟨_, _, rx, ry, ag_sh R a rfl⟩
  · cases h
def smI (i : Int) : Bool := Nat.ble i.natAbs 18446744073709551615
theorem smI_ok {i : Int} (h : smI i = true) : -(2 ^ 64) < i ∧ i < 2 ^ 64 := by
  have := Nat.le_of_ble_eq_true h
  have e : (2 : Int) ^ 64 = 18446744073709551616 := by decide
  rw [e]; omega
def s62 (i : Int) : Bool := Nat.ble i.natAbs 4611686018427387903
theorem s62_ok {i : Int} (h : s62 i = true) : -(2 ^ 62) ≤ i ∧ i < 2 ^ 62 := by
  have := Nat.le_of_ble_eq_true h
  have e : (2 : Int) ^ 62 = 4611686018427387904 := by decide
  rw [e]; omega
def s30 (i : Int) : Bool := Nat.ble i.natAbs 1073741823
theorem s30_ok {i : Int} (h : s30 i = true) : i < 1073741824 := by
  have := Nat.le_of_ble_eq_true h
  omega
def dMul : D → D → Option Rv
  | .int a, .int b => if (smI a || smI b) = true then some (.sh (.int (a * b))) else none
  | .list xs, .int k => if (s62 k && szOk (xs.length * k.toNat)) = true then some (.fr (List.replicate k.toNat xs).flatten) else none
  | _, _ => none
def rMulD : R2 := fun x y H Q => (rI CMul fun i j => .int (i * j)) x y H Q ∨ rRep x y H Q
theorem op_mulD {X : Cx} : OpR X (binaryOp .Mult) rMulD := op_mul.or op_rep
theorem g_mul : OpG rMulD dMul := fun B S0 M σ H S ρ x y d e rv Q R rx ry h a => by
  unfold dMul at h
  split at h
  · split at h
    · rename_i hz
      cases h
      refine .inl ⟨_, _, rx, ry, ?_, ag_sh R a rfl⟩
      rcases Bool.or_eq_true_iff.mp hz with z | z
      · exact .inl (smI_ok z)
      · exact .inr (smI_ok z)
    · cases h
  · split at h
    · rename_i hz
      cases h
      simp only [Bool.and_eq_true, decide_eq_true_eq] at hz
      have hk := s62_ok hz.1
      have e2 : (2 : Int) ^ 62 = 4611686018427387904 := by decide
      rw [e2] at hk
      obtain ⟨l, xs, rfl, h1, r1⟩ := rx
      refine .inr ⟨l, _, xs, rfl, ry, R.sub _ _ h1, ?_, ?_, ?_, fun p hp => ag_fr R a (r1.rep _) hp⟩
      · have e : (2 : Int) ^ 63 = 9223372036854775808 := by decide
        rw [e]; omega
      · have e : (2 : Int) ^ 63 = 9223372036854775808 := by decide
        rw [e]; omega
      · rw [r1.length]; exact sz_line hz.2
    · cases h
  · cases h
def dDiv : D → D → Option Rv
  | .int a, .int b => if (decide (0 < b) && s30 b) = true then some (.sh (.int (a / b))) else none
  | _, _ => none
theorem g_div : OpG (rI CDiv fun i j => .int (i / j)) dDiv := fun B S0 M σ H S ρ x y d e rv Q R rx ry h a => by
  unfold dDiv at h
  split at h
  · split at h
    · rename_i hz
      cases h
      simp only [Bool.and_eq_true, decide_eq_true_eq] at hz
      exact ⟨_, _, rx, ry, ⟨hz.1, s30_ok hz.2⟩, ag_sh R a rfl⟩
    · cases h
  · cases h
def dMod : D → D → Option Rv
  | .int a, .int b => if decide (0 < b) = true then some (.sh (.int (a % b))) else none
  | _, _ => none
theorem g_mod : OpG (rI (fun _ j => 0 < j) fun i j => .int (i % j)) dMod := fun B S0 M σ H S ρ x y d e rv Q R rx ry h a => by
  unfold dMod at h
  split at h
  · split at h
    · rename_i hz
      cases h
      exact ⟨_, _, rx, ry, of_decide_eq_true hz, ag_sh R a rfl⟩
    · cases h
  · cases h
def dPow : D → D → Option Rv
  | .int a, .int b => if (decide (0 ≤ b) && decide (b ≤ 1000) && smI a && smI (-a)) = true then some (.sh (.int (a ^ b.toNat))) else none
  | _, _ => none
theorem g_pow : OpG (rI CPow fun i j => .int (i ^ j.toNat)) dPow := fun B S0 M σ H S ρ x y d e rv Q R rx ry h a => by
  unfold dPow at h
  split at h
  · split at h
    · rename_i hz
      cases h
      simp only [Bool.and_eq_true, decide_eq_true_eq] at hz
      refine ⟨_, _, rx, ry, ⟨hz.1.1.1, by omega, ?_⟩, ag_sh R a rfl⟩
      have h1 := smI_ok hz.1.2
      have h2 := smI_ok hz.2
      have e : (2 : Int) ^ 64 = 18446744073709551616 := by decide
      have e' : (2 : Nat) ^ 64 = 18446744073709551616 := by decide
      rw [e] at h1 h2
      rw [e']; omega
    · cases h
  · cases h
def dNegF (fa : Fd) : Fe := fun ρ => (fa ρ).bind fun p => match p.1 with
  | .int i => .ok (.sh (.int (-i)), p.2)
  | _ => .no
theorem re_neg (ha : RD ER ta fa) : RE ER (tUn (rU fun i => .int (-i)) ta) (dNegF fa) := ⟨fun B S0 M σ H S ρ Q R a => by
  refine ha.go B S0 M σ H S ρ _ R (AD.bindE a fun d ρ1 x H1 S1 e1 R1 r1 a1 => ?_)
  cases d with
  | int i => exact ⟨i, r1, a1 (.int (-i)) H1 S1 (Ex.refl S1) R1 rfl⟩
  | _ => exact (show False from a1).elim⟩
/-! ### order -/
def ltD : D → D → Option Bool
  | .int a, .int b => some (decide (a < b))
  | .str a, .str b => some (decide (a.cps.toList < b.cps.toList))
  | _, _ => none
def leD : D → D → Option Bool
  | .int a, .int b => some (decide (a ≤ b))
  | .str a, .str b => some (!decide (b.cps.toList < a.cps.toList))
  | _, _ => none
def bRv (o : Option Bool) : Option Rv := o.map fun b => .sh (.bool b)
def dLt (d e : D) : Option Rv := bRv (ltD d e)
def dLe (d e : D) : Option Rv := bRv (leD d e)
def dGt (d e : D) : Option Rv := bRv (ltD e d)
def dGe (d e : D) : Option Rv := bRv (leD e d)
def rLtD : R2 := fun x y H Q => (rI0 fun i j => .bl (decide (i < j))) x y H Q ∨ (∃ i j, x = .str i ∧ y = .str j ∧ Q (.bl (decide (i.cps.toList < j.cps.toList))) H)
def rLeD : R2 := fun x y H Q => (rI0 fun i j => .bl (decide (i ≤ j))) x y H Q ∨ (∃ i j, x = .str i ∧ y = .str j ∧ Q (.bl (!decide (j.cps.toList < i.cps.toList))) H)
def rGtD : R2 := fun x y H Q => (rI0 fun i j => .bl (decide (j < i))) x y H Q ∨ (∃ i j, x = .str i ∧ y = .str j ∧ Q (.bl (decide (j.cps.toList < i.cps.toList))) H)
def rGeD : R2 := fun x y H Q => (rI0 fun i j => .bl (decide (j ≤ i))) x y H Q ∨ (∃ i j, x = .str i ∧ y = .str j ∧ Q (.bl (!decide (i.cps.toList < j.cps.toList))) H)
theorem op_ltD {X : Cx} : OpR X (compareOp .Lt) rLtD := op_lt.or op_lt_str
theorem op_leD {X : Cx} : OpR X (compareOp .LtE) rLeD := op_le.or op_le_str
theorem op_gtD {X : Cx} : OpR X (compareOp .Gt) rGtD := op_gt.or op_gt_str
theorem op_geD {X : Cx} : OpR X (compareOp .GtE) rGeD := op_ge.or op_ge_str
theorem bRv_some {o : Option Bool} {rv : Rv} (h : bRv o = some rv) : ∃ b, o = some b ∧ rv = .sh (.bool b) := by
  cases o with
  | none => cases h
  | some b => cases h; exact ⟨b, rfl, rfl⟩
theorem g_lt : OpG rLtD dLt := fun B S0 M σ H S ρ x y d e rv Q R rx ry h a => by
  obtain ⟨b, h', rfl⟩ := bRv_some h
  clear h
  unfold ltD at h'
  split at h'
  · cases h'; exact .inl ⟨_, _, rx, ry, ag_sh R a rfl⟩
  · cases h'; exact .inr ⟨_, _, rx, ry, ag_sh R a rfl⟩
  · cases h'
theorem g_le : OpG rLeD dLe := fun B S0 M σ H S ρ x y d e rv Q R rx ry h a => by
  obtain ⟨b, h', rfl⟩ := bRv_some h
  clear h
  unfold leD at h'
  split at h'
  · cases h'; exact .inl ⟨_, _, rx, ry, ag_sh R a rfl⟩
  · cases h'; exact .inr ⟨_, _, rx, ry, ag_sh R a rfl⟩
  · cases h'
theorem g_gt : OpG rGtD dGt := fun B S0 M σ H S ρ x y d e rv Q R rx ry h a => by
  obtain ⟨b, h', rfl⟩ := bRv_some h
  clear h
  unfold ltD at h'
  split at h'
  · cases h'; exact .inl ⟨_, _, rx, ry, ag_sh R a rfl⟩
  · cases h'; exact .inr ⟨_, _, rx, ry, ag_sh R a rfl⟩
  · cases h'
theorem g_ge : OpG rGeD dGe := fun B S0 M σ H S ρ x y d e rv Q R rx ry h a => by
  obtain ⟨b, h', rfl⟩ := bRv_some h
  clear h
  unfold leD at h'
  split at h'
  · cases h'; exact .inl ⟨_, _, rx, ry, ag_sh R a rfl⟩
  · cases h'; exact .inr ⟨_, _, rx, ry, ag_sh R a rfl⟩
  · cases h'
/-! ### equality, in, is -/
def okD (d : D) : Bool := plainD d && SeqAt.shaped d
def dEq (d e : D) : Option Rv := if (okD d && okD e) = true then some (.sh (.bool (PyData.eqv d e))) else none
def dNe (d e : D) : Option Rv := if (okD d && okD e) = true then some (.sh (.bool (!PyData.eqv d e))) else none
theorem okD2 {d e : D} (h : (okD d && okD e) = true) : (plainD d = true ∧ SeqAt.shaped d = true) ∧ (plainD e = true ∧ SeqAt.shaped e = true) := by
  have := Bool.and_eq_true_iff.mp h
  exact ⟨Bool.and_eq_true_iff.mp this.1, Bool.and_eq_true_iff.mp this.2⟩
theorem g_eq {K : PySem.W.Frag} : OpG (rEqD K) dEq := fun B S0 M σ H S ρ x y d e rv Q R rx ry h a => by
  unfold dEq at h
  split at h
  · rename_i hz
    cases h
    obtain ⟨⟨h1, h2⟩, h3, h4⟩ := okD2 hz
    exact ⟨d, e, Rp.dp R.sub _ rx h1, Rp.dp R.sub _ ry h3, h2, h4, ag_sh R a rfl⟩
  · cases h
theorem g_ne {K : PySem.W.Frag} : OpG (rNeD K) dNe := fun B S0 M σ H S ρ x y d e rv Q R rx ry h a => by
  unfold dNe at h
  split at h
  · rename_i hz
    cases h
    obtain ⟨⟨h1, h2⟩, h3, h4⟩ := okD2 hz
    exact ⟨d, e, Rp.dp R.sub _ rx h1, Rp.dp R.sub _ ry h3, h2, h4, ag_sh R a rfl⟩
  · cases h
def flatD : D → Bool
  | .none => true
  | .bool _ => true
  | .int _ => true
  | .str _ => true
  | _ => false
theorem flat_of {S : Hp} {v : V} {d : D} (r : Rp S v d) (f : flatD d = true) : flatV v = true := by
  cases d with
  | none => rw [show v = .non from r]; rfl
  | bool b => rw [show v = .bl b from r]; rfl
  | int b => rw [show v = .int b from r]; rfl
  | str b => rw [show v = .str b from r]; rfl
  | _ => cases f
theorem eqV_of {S : Hp} {v w : V} {d e : D} (r : Rp S v d) (q : Rp S w e) (f : flatD d = true) (g : flatD e = true) : eqV v w = PyData.eqv d e := by
  cases d with
  | none =>
    rw [show v = .non from r]
    cases e with
    | none => rw [show w = .non from q]; simp [eqV, PyData.eqv]
    | bool b => rw [show w = .bl b from q]; simp [eqV, PyData.eqv]
    | int b => rw [show w = .int b from q]; simp [eqV, PyData.eqv]
    | str b => rw [show w = .str b from q]; simp [eqV, PyData.eqv]
    | _ => cases g
  | bool c =>
    rw [show v = .bl c from r]
    cases e with
    | none => rw [show w = .non from q]; simp [eqV, PyData.eqv]
    | bool b => rw [show w = .bl b from q]; simp [eqV, PyData.eqv]
    | int b => rw [show w = .int b from q]; simp [eqV, PyData.eqv]
    | str b => rw [show w = .str b from q]; simp [eqV, PyData.eqv]
    | _ => cases g
  | int c =>
    rw [show v = .int c from r]
    cases e with
    | none => rw [show w = .non from q]; simp [eqV, PyData.eqv]
    | bool b => rw [show w = .bl b from q]; simp [eqV, PyData.eqv]
    | int b => rw [show w = .int b from q]; simp [eqV, PyData.eqv]
    | str b => rw [show w = .str b from q]; simp [eqV, PyData.eqv]
    | _ => cases g
  | str c =>
    rw [show v = .str c from r]
    cases e with
    | none => rw [show w = .non from q]; simp [eqV, PyData.eqv]
    | bool b => rw [show w = .bl b from q]; simp [eqV, PyData.eqv]
    | int b => rw [show w = .int b from q]; simp [eqV, PyData.eqv]
    | str b => rw [show w = .str b from q]; simp [eqV, PyData.eqv]
    | _ => cases g
  | _ => cases f
theorem flats_of {S : Hp} : ∀ {ds : List D} {vs : List V}, RpL S vs ds → ds.all flatD = true → vs.all flatV = true
  | [], _, h, _ => by rw [show _ = [] from h]; rfl
  | d :: ds, _, ⟨w, ws, e, h, r⟩, f => by
    simp only [List.all_cons, Bool.and_eq_true] at f
    rw [e, List.all_cons, flat_of h f.1, flats_of r f.2]; rfl
theorem inV_of {S : Hp} {v : V} {d : D} (r : Rp S v d) (f : flatD d = true) : ∀ {ds : List D} {vs : List V}, RpL S vs ds → ds.all flatD = true → inV v vs = ds.any fun z => PyData.eqv z d
  | [], _, h, _ => by rw [show _ = [] from h]; rfl
  | z :: ds, _, ⟨w, ws, e, h, q⟩, g => by
    simp only [List.all_cons, Bool.and_eq_true] at g
    have ih := inV_of r f q g.2
    unfold inV at ih ⊢
    rw [e, List.any_cons, List.any_cons, eqV_of h r g.1 f, ih]
def inD (d e : D) : Option Bool := match e with
  | .list ds => if (flatD d && ds.all flatD) = true then some (ds.any fun z => PyData.eqv z d) else if (okD d && okD (.list ds)) = true then some (ds.any fun z => PyData.eqv z d) else none
  | .tuple ds => if (flatD d && ds.all flatD) = true then some (ds.any fun z => PyData.eqv z d) else none
  | .str z => match d with
    | .str c => match c.cps.toList with
      | [k] => some (decide (k ∈ z.cps.toList))
      | _ => none
    | _ => none
  | _ => none
def dIn (d e : D) : Option Rv := bRv (inD d e)
def dNotIn (d e : D) : Option Rv := bRv ((inD d e).map (!·))
def rInAll (K : PySem.W.Frag) : R2 := fun x y H Q => rIn K false x y H Q ∨ rInD K x y H Q ∨ (∃ (c : Nat) (z : Str), x = .str ⟨#[c]⟩ ∧ y = .str z ∧ Q (.bl (decide (c ∈ z.cps.toList))) H)
def rNotInAll (K : PySem.W.Frag) : R2 := fun x y H Q => rIn K true x y H Q ∨ rNotInD K x y H Q ∨ (∃ (c : Nat) (z : Str), x = .str ⟨#[c]⟩ ∧ y = .str z ∧ Q (.bl (!decide (c ∈ z.cps.toList))) H)
theorem op_inAll {X : Cx} (hu : X.A.units + 65 < cLine) : OpR X (compareOp .In) (rInAll X.K) := op_in_seq.or ((op_inD hu).or op_in_sign)
theorem op_notInAll {X : Cx} (hu : X.A.units + 65 < cLine) : OpR X (compareOp .NotIn) (rNotInAll X.K) := op_notIn_seq.or ((op_notInD hu).or op_notIn_sign)
theorem str_one {c : Str} {k : Nat} (h : c.cps.toList = [k]) : c = ⟨#[k]⟩ := by
  obtain ⟨a⟩ := c
  have : a = #[k] := by
    apply Array.ext'
    simpa using h
  rw [this]
/-- one of the three ways -/
theorem in_ways {K : PySem.W.Frag} {S H : Hp} {x y : V} {d e : D} {b : Bool} (sub : Ex S H) (rx : Rp S x d) (ry : Rp S y e) (h : inD d e = some b) :
    (∃ p xs, y = .ref p ∧ (SqL K H p xs ∨ SqT K H p xs) ∧ flatV x = true ∧ xs.all flatV = true ∧ inV x xs = b) ∨ (∃ ds, Dp K H x d ∧ Dp K H y (.list ds) ∧ SeqAt.shaped d = true ∧ SeqAt.shaped (.list ds) = true ∧ (ds.any fun z => PyData.eqv z d) = b) ∨
    ∃ (c : Nat) (z : Str), x = .str ⟨#[c]⟩ ∧ y = .str z ∧ decide (c ∈ z.cps.toList) = b := by
  unfold inD at h
  split at h
  · rename_i ds
    obtain ⟨p, xs, rfl, h1, r1⟩ := ry
    split at h
    · rename_i hz
      cases h
      have f := Bool.and_eq_true_iff.mp hz
      exact .inl ⟨p, xs, rfl, .inl (SqL.of (sub _ _ h1)), flat_of rx f.1, flats_of r1 f.2, inV_of rx f.1 r1 f.2⟩
    · split at h
      · rename_i hz
        cases h
        obtain ⟨⟨h1', h2⟩, h3, h4⟩ := okD2 hz
        exact .inr (.inl ⟨ds, Rp.dp sub _ rx h1', Rp.dp sub _ (Rp.lst h1 r1) h3, h2, h4, rfl⟩)
      · cases h
  · rename_i ds
    obtain ⟨p, xs, rfl, h1, r1⟩ := ry
    split at h
    · rename_i hz
      cases h
      have f := Bool.and_eq_true_iff.mp hz
      exact .inl ⟨p, xs, rfl, .inr (Tp.sq sub h1), flat_of rx f.1, flats_of r1 f.2, inV_of rx f.1 r1 f.2⟩
    · cases h
  · split at h
    · split at h
      · rename_i k hk
        cases h
        exact .inr (.inr ⟨k, _, by rw [show x = .str _ from rx, str_one hk], ry, rfl⟩)
      · cases h
    · cases h
  · cases h
theorem g_in {K : PySem.W.Frag} : OpG (rInAll K) dIn := fun B S0 M σ H S ρ x y d e rv Q R rx ry h a => by
  obtain ⟨b, h', rfl⟩ := bRv_some h
  rcases in_ways (K := K) R.sub rx ry h' with ⟨p, xs, e1, h1, h2, h3, h4⟩ | ⟨ds, h1, h2, h3, h4, h5⟩ | ⟨c, z, h1, h2, h3⟩
  · exact .inl ⟨p, xs, e1, h1, h2, h3, ag_sh R a (by show V.bl (inV x xs) = _; rw [h4])⟩
  · exact .inr (.inl ⟨d, ds, h1, h2, h3, h4, ag_sh R a (by show V.bl _ = _; rw [h5])⟩)
  · exact .inr (.inr ⟨c, z, h1, h2, ag_sh R a (by show V.bl _ = _; rw [h3])⟩)
theorem g_notIn {K : PySem.W.Frag} : OpG (rNotInAll K) dNotIn := fun B S0 M σ H S ρ x y d e rv Q R rx ry h a => by
  obtain ⟨b', h', rfl⟩ := bRv_some h
  obtain ⟨b, h'', rfl⟩ := Option.map_eq_some_iff.mp h'
  rcases in_ways (K := K) R.sub rx ry h'' with ⟨p, xs, e1, h1, h2, h3, h4⟩ | ⟨ds, h1, h2, h3, h4, h5⟩ | ⟨c, z, h1, h2, h3⟩
  · exact .inl ⟨p, xs, e1, h1, h2, h3, ag_sh R a (by show V.bl (!inV x xs) = _; rw [h4])⟩
  · exact .inr (.inl ⟨d, ds, h1, h2, h3, h4, ag_sh R a (by show V.bl _ = _; rw [h5])⟩)
  · exact .inr (.inr ⟨c, z, h1, h2, ag_sh R a (by show V.bl _ = _; rw [h3])⟩)
def dIsB : D → D → Option Rv
  | .bool a, .bool b => some (.sh (.bool (decide (a = b))))
  | _, _ => none
def dNotB : D → D → Option Rv
  | .bool a, .bool b => some (.sh (.bool (!decide (a = b))))
  | _, _ => none
theorem g_isB : OpG rIsB dIsB := fun B S0 M σ H S ρ x y d e rv Q R rx ry h a => by
  unfold dIsB at h
  split at h
  · cases h; exact ⟨_, _, rx, ry, ag_sh R a rfl⟩
  · cases h
theorem g_notB : OpG rNotB dNotB := fun B S0 M σ H S ρ x y d e rv Q R rx ry h a => by
  unfold dNotB at h
  split at h
  · cases h; exact ⟨_, _, rx, ry, ag_sh R a rfl⟩
  · cases h
end
end DL

set_option Elab.async false
set_option linter.all false
set_option maxRecDepth 100000
set_option maxHeartbeats 4000000
namespace DL
open PySem PySem.Spec PyProof.Rows L2
variable [Wr]
section
variable {ER : Er} {ta tb tc te : TE} {fa fb fc : Fd} {fe fe' : Fe} {t u : TT} {ft fu : Ft}
theorem RE.ofD (h : RD ER te fa) : RE ER te (fun ρ => (fa ρ).bind fun p => .ok (.sh p.1, p.2)) := ⟨fun B S0 M σ H S ρ Q R a => by
  refine h.go B S0 M σ H S ρ Q R ?_
  cases e : fa ρ with
  | ok x => rw [e] at a; exact fun v H' S' e1 r g => a v H' S' e1 r g
  | err c fs => rw [e] at a; exact a
  | no => rw [e] at a; exact (show False from a).elim⟩
/-! ### tests -/
theorem AD.bindT {B S0 : Hp} {M : List Addr} {σ : L2.St} {S : Hp} {Q : Bool → Hp → Prop} {Q' : VK} {x : Res (D × En)} {k : D × En → Res (Bool × En)} (h : AT ER B S0 M σ S Q (x.bind k))
    (c : ∀ d ρ' v H' S', Ex S S' → Rel B S0 M σ H' S' ρ' → Rp S' v d → AT ER B S0 M σ S' Q (k (d, ρ')) → Q' v H') : AD ER B S0 M σ S Q' x := by
  cases x with
  | ok a => exact fun v H' S' e R r => c a.1 a.2 v H' S' e R r (AT.later e h)
  | err c fs => exact h
  | no => exact (show False from h).elim
theorem AT.bindT {B S0 : Hp} {M : List Addr} {σ : L2.St} {S : Hp} {Q Q' : Bool → Hp → Prop} {x : Res (Bool × En)} {k : Bool × En → Res (Bool × En)} (h : AT ER B S0 M σ S Q (x.bind k))
    (c : ∀ b ρ' H' S', Ex S S' → Rel B S0 M σ H' S' ρ' → AT ER B S0 M σ S' Q (k (b, ρ')) → Q' b H') : AT ER B S0 M σ S Q' x := by
  cases x with
  | ok a => exact fun H' S' e R => c a.1 a.2 H' S' e R (AT.later e h)
  | err c fs => exact h
  | no => exact (show False from h).elim
theorem AT.bindE {B S0 : Hp} {M : List Addr} {σ : L2.St} {S : Hp} {Q : VK} {Q' : Bool → Hp → Prop} {x : Res (Bool × En)} {k : Bool × En → Res (Rv × En)} (h : AE ER B S0 M σ S Q (x.bind k))
    (c : ∀ b ρ' H' S', Ex S S' → Rel B S0 M σ H' S' ρ' → AE ER B S0 M σ S' Q (k (b, ρ')) → Q' b H') : AT ER B S0 M σ S Q' x := by
  cases x with
  | ok a => exact fun H' S' e R => c a.1 a.2 H' S' e R (AE.later e h)
  | err c fs => exact h
  | no => exact (show False from h).elim
def bOf : D × En → Res (Bool × En)
  | (.bool b, ρ) => .ok (b, ρ)
  | _ => .no
def dB (f : Fd) : Ft := fun ρ => (f ρ).bind bOf
theorem rt_test (h : RD ER te fa) : RT ER (tTest te) (dB fa) := ⟨fun B S0 M σ H S ρ Q R a => by
  refine h.go B S0 M σ H S ρ _ R (AD.bindT a fun d ρ1 x H1 S1 e1 R1 r1 a1 => ?_)
  cases d with
  | bool b => exact ⟨b, r1, a1 H1 S1 (Ex.refl S1) R1⟩
  | _ => exact (show False from a1).elim⟩
theorem rt_B (h : RD ER te fa) : RT ER (tB te) (dB fa) := rt_test h
def dAnd (f g : Ft) : Ft := fun ρ => (f ρ).bind fun p => if p.1 = true then g p.2 else .ok (false, p.2)
def dOr (f g : Ft) : Ft := fun ρ => (f ρ).bind fun p => if p.1 = true then .ok (true, p.2) else g p.2
def dNot (f : Ft) : Ft := fun ρ => (f ρ).bind fun p => .ok (!p.1, p.2)
theorem rt_and (h : RT ER t ft) (h' : RT ER u fu) : RT ER (tAnd t u) (dAnd ft fu) := ⟨fun B S0 M σ H S ρ Q R a => by
  refine h.go B S0 M σ H S ρ _ R (AT.bindT a fun b ρ1 H1 S1 e1 R1 a1 => ?_)
  cases b with
  | true => exact h'.go B S0 M σ H1 S1 ρ1 Q R1 a1
  | false => exact a1 H1 S1 (Ex.refl S1) R1⟩
theorem rt_or (h : RT ER t ft) (h' : RT ER u fu) : RT ER (tOr t u) (dOr ft fu) := ⟨fun B S0 M σ H S ρ Q R a => by
  refine h.go B S0 M σ H S ρ _ R (AT.bindT a fun b ρ1 H1 S1 e1 R1 a1 => ?_)
  cases b with
  | false => exact h'.go B S0 M σ H1 S1 ρ1 Q R1 a1
  | true => exact a1 H1 S1 (Ex.refl S1) R1⟩
theorem rt_not (h : RT ER t ft) : RT ER (tNot t) (dNot ft) := ⟨fun B S0 M σ H S ρ Q R a => by
  refine h.go B S0 M σ H S ρ _ R (AT.bindT a fun b ρ1 H1 S1 e1 R1 a1 => ?_)
  exact a1 H1 S1 (Ex.refl S1) R1⟩
theorem rt_yes : RT ER tYes (fun ρ => .ok (true, ρ)) := ⟨fun B S0 M σ H S ρ Q R a => a H S (Ex.refl S) R⟩
/-! ### and, or, not as values; one of two -/
def dAndV (fa : Fd) (fb : Fe) : Fe := fun ρ => (dB fa ρ).bind fun p => if p.1 = true then fb p.2 else .ok (.sh (.bool false), p.2)
def dOrV (fa : Fd) (fb : Fe) : Fe := fun ρ => (dB fa ρ).bind fun p => if p.1 = true then .ok (.sh (.bool true), p.2) else fb p.2
def dNotV (fa : Fd) : Fe := fun ρ => (dB fa ρ).bind fun p => .ok (.sh (.bool (!p.1)), p.2)
theorem re_and (h : RD ER ta fa) (h' : RE ER tb fe) : RE ER (tAndV ta tb) (dAndV fa fe) := ⟨fun B S0 M σ H S ρ Q R a => by
  have g := (rt_test h).go B S0 M σ H S ρ _ R (AT.bindE (Q' := fun c H1 => if c = true then tb σ H1 Q else Q (.bl false) H1) a fun b ρ1 H1 S1 e1 R1 a1 => ?_)
  · exact g
  · cases b with
    | true => exact h'.go B S0 M σ H1 S1 ρ1 Q R1 a1
    | false => exact a1 (.bl false) H1 S1 (Ex.refl S1) R1 rfl⟩
theorem re_or (h : RD ER ta fa) (h' : RE ER tb fe) : RE ER (tOrV ta tb) (dOrV fa fe) := ⟨fun B S0 M σ H S ρ Q R a => by
  have g := (rt_test h).go B S0 M σ H S ρ _ R (AT.bindE (Q' := fun c H1 => if c = true then Q (.bl true) H1 else tb σ H1 Q) a fun b ρ1 H1 S1 e1 R1 a1 => ?_)
  · exact g
  · cases b with
    | false => exact h'.go B S0 M σ H1 S1 ρ1 Q R1 a1
    | true => exact a1 (.bl true) H1 S1 (Ex.refl S1) R1 rfl⟩
theorem re_not (h : RD ER ta fa) : RE ER (tNotV ta) (dNotV fa) := ⟨fun B S0 M σ H S ρ Q R a => by
  have g := (rt_test h).go B S0 M σ H S ρ _ R (AT.bindE (Q' := fun c H1 => Q (.bl (!c)) H1) a fun b ρ1 H1 S1 e1 R1 a1 => ?_)
  · exact g
  · exact a1 (.bl (!b)) H1 S1 (Ex.refl S1) R1 rfl⟩
def dIf (f : Ft) (fa fb : Fe) : Fe := fun ρ => (f ρ).bind fun p => if p.1 = true then fa p.2 else fb p.2
theorem re_if (h : RT ER t ft) (ha : RE ER ta fe) (hb : RE ER tb fe') : RE ER (tIf t ta tb) (dIf ft fe fe') := ⟨fun B S0 M σ H S ρ Q R a => by
  refine h.go B S0 M σ H S ρ _ R (AT.bindE a fun b ρ1 H1 S1 e1 R1 a1 => ?_)
  cases b with
  | true => exact ha.go B S0 M σ H1 S1 ρ1 Q R1 a1
  | false => exact hb.go B S0 M σ H1 S1 ρ1 Q R1 a1⟩
/-! ### a < b < c -/
def dChain (g g' : D → D → Option Rv) (fa fb fc : Fd) : Fe := fun ρ => (fa ρ).bind fun p => (fb p.2).bind fun q => match g p.1 q.1 with
  | some (.sh (.bool true)) => (fc q.2).bind fun z => optR (g' q.1 z.1) z.2
  | some (.sh (.bool false)) => .ok (.sh (.bool false), q.2)
  | _ => .no
theorem re_chain {r r' : R2} {g g' : D → D → Option Rv} (ho : OpG r g) (ho' : OpG r' g') (ha : RD ER ta fa) (hb : RD ER tb fb) (hc : RD ER tc fc) : RE ER (tChain r r' ta tb tc) (dChain g g' fa fb fc) := ⟨fun B S0 M σ H S ρ Q R a => by
  refine ha.go B S0 M σ H S ρ _ R (AD.bindE a fun d ρ1 x H1 S1 e1 R1 r1 a1 => ?_)
  refine hb.go B S0 M σ H1 S1 ρ1 _ R1 (AD.bindE a1 fun e ρ2 y H2 S2 e2 R2 r2 a2 => ?_)
  cases eg : g d e with
  | none =>
    simp only [eg] at a2
    exact (show False from a2).elim
  | some rv =>
    refine ho B S0 M σ H2 S2 ρ2 x y d e rv _ R2 (Rp.mono e2 _ r1) r2 eg fun v H3 S3 e3 R3 g3 => ?_
    simp only [eg] at a2
    cases rv with
    | fr ds => exact (show False from a2).elim
    | fk ds => exact (show False from a2).elim
    | sh dv =>
      cases dv with
      | bool b =>
        refine ⟨b, g3, ?_⟩
        cases b with
        | false => exact a2 (.bl false) H3 S3 e3 R3 rfl
        | true =>
          refine hc.go B S0 M σ H3 S3 ρ2 _ R3 (AD.bindE (AE.later e3 a2) fun w ρ3 z H4 S4 e4 R4 r4 a4 => ?_)
          replace a4 : AE ER B S0 M σ S4 Q (optR (g' e w) ρ3) := a4
          cases eg' : g' e w with
          | none => rw [eg'] at a4; exact (show False from a4).elim
          | some rv =>
            rw [eg'] at a4
            exact ho' B S0 M σ H4 S4 ρ3 y z e w rv Q R4 (Rp.mono (e3.trans e4) _ r2) r4 eg' fun v H' S' e5 R5 g5 => a4 v H' S' e5 R5 g5
      | _ => exact (show False from a2).elim⟩
/-! ### argument lists, displays -/
def dNil : Fa := fun ρ => .ok ([], ρ)
def dCons (fa : Fd) (fr : Fa) : Fa := fun ρ => (fa ρ).bind fun p => (fr p.2).bind fun q => .ok (p.1 :: q.1, q.2)
theorem AD.bindA {B S0 : Hp} {M : List Addr} {σ : L2.St} {S : Hp} {Q : List V → Hp → Prop} {Q' : VK} {x : Res (D × En)} {k : D × En → Res (List D × En)} (h : AA ER B S0 M σ S Q (x.bind k))
    (c : ∀ d ρ' v H' S', Ex S S' → Rel B S0 M σ H' S' ρ' → Rp S' v d → AA ER B S0 M σ S' Q (k (d, ρ')) → Q' v H') : AD ER B S0 M σ S Q' x := by
  cases x with
  | ok a => exact fun v H' S' e R r => c a.1 a.2 v H' S' e R r (AA.later e h)
  | err c fs => exact h
  | no => exact (show False from h).elim
theorem AA.bindA {B S0 : Hp} {M : List Addr} {σ : L2.St} {S : Hp} {Q Q' : List V → Hp → Prop} {x : Res (List D × En)} {k : List D × En → Res (List D × En)} (h : AA ER B S0 M σ S Q (x.bind k))
    (c : ∀ d ρ' v H' S', Ex S S' → Rel B S0 M σ H' S' ρ' → RpL S' v d → AA ER B S0 M σ S' Q (k (d, ρ')) → Q' v H') : AA ER B S0 M σ S Q' x := by
  cases x with
  | ok a => exact fun v H' S' e R r => c a.1 a.2 v H' S' e R r (AA.later e h)
  | err c fs => exact h
  | no => exact (show False from h).elim
theorem AA.bindE {B S0 : Hp} {M : List Addr} {σ : L2.St} {S : Hp} {Q : VK} {Q' : List V → Hp → Prop} {x : Res (List D × En)} {k : List D × En → Res (Rv × En)} (h : AE ER B S0 M σ S Q (x.bind k))
    (c : ∀ d ρ' v H' S', Ex S S' → Rel B S0 M σ H' S' ρ' → RpL S' v d → AE ER B S0 M σ S' Q (k (d, ρ')) → Q' v H') : AA ER B S0 M σ S Q' x := by
  cases x with
  | ok a => exact fun v H' S' e R r => c a.1 a.2 v H' S' e R r (AE.later e h)
  | err c fs => exact h
  | no => exact (show False from h).elim
variable {tr : TA} {fr : Fa}
theorem ra_nil : RA ER tNil dNil := ⟨fun B S0 M σ H S ρ Q R a => a [] H S (Ex.refl S) R RpL.nil⟩
theorem ra_cons (ha : RD ER ta fa) (hr : RA ER tr fr) : RA ER (tCons ta tr) (dCons fa fr) := ⟨fun B S0 M σ H S ρ Q R a => by
  refine ha.go B S0 M σ H S ρ _ R (AD.bindA a fun d ρ1 x H1 S1 e1 R1 r1 a1 => ?_)
  refine hr.go B S0 M σ H1 S1 ρ1 _ R1 (AA.bindA a1 fun ds ρ2 xs H2 S2 e2 R2 r2 a2 => ?_)
  exact a2 (x :: xs) H2 S2 (Ex.refl S2) R2 (.cons (Rp.mono e2 _ r1) r2)⟩
def dTup (f : Fa) : Fe := fun ρ => (f ρ).bind fun p => if szOk p.1.length = true then .ok (.sh (.tuple p.1), p.2) else .no
def dLst (f : Fa) : Fe := fun ρ => (f ρ).bind fun p => if szOk p.1.length = true then .ok (.fr p.1, p.2) else .no
def tTupX (t : TA) : TE := fun σ H Q => t σ H fun xs H1 => xs.length ≤ sizeLine ∧ ∀ p o, Xo o → H1 p = none → Q (.ref p) (upd H1 p (.frz o (.tup xs)))
theorem pe_tupX {X : Cx} {es : List Expr} {t : TA} {pos : Pos} {x1} (h : PA X es t) : PE X (.Tuple es x1 pos) (tTupX t) := by
  refine ⟨fun pins s σ H Q I hq => ?_⟩
  refine wpAny_Tuple_spliced (thn (h.run pos pins s σ H _ I hq) fun us sa ⟨ys, Ha, Ia, ra, za, qa⟩ => ⟨by rw [← ra.length]; exact za, ?_⟩)
  have hfr : Ha sa.heap.objs.size = none := Ia.hok.fresh (Nat.le_refl _)
  refine ⟨.ref sa.heap.objs.size, _, Ia.laid (o := .frz { cls := .type "tuple", data := .seq us.toArray } (.tup ys)) (t' := sa.toks) (fun b u e => Heap.get?_push_of_some _ e) (Nat.le_refl _) ?_, rfl, qa _ _ ⟨rfl, rfl⟩ hfr⟩
  exact ⟨Heap.get?_push_size _ rfl, za, us, ra, ⟨_, Heap.get?_push_size _ rfl, rfl, _, rfl⟩⟩
theorem re_tup (h : RA ER tr fr) : RE ER (tTupX tr) (dTup fr) := ⟨fun B S0 M σ H S ρ Q R a => by
  refine h.go B S0 M σ H S ρ _ R (AA.bindE a fun ds ρ1 xs H1 S1 e1 R1 r1 a1 => ?_)
  by_cases hz : szOk ds.length = true
  · simp only [if_pos hz] at a1
    exact ⟨by rw [r1.length]; exact sz_line hz, fun p o ho hp => ag_tup R1 (fun v H' S' e R2 g => a1 v H' S' e R2 g) r1 ho hp⟩
  · simp only [if_neg hz] at a1
    exact (show False from a1).elim⟩
theorem re_lst (h : RA ER tr fr) : RE ER (tLst tr) (dLst fr) := ⟨fun B S0 M σ H S ρ Q R a => by
  refine h.go B S0 M σ H S ρ _ R (AA.bindE a fun ds ρ1 xs H1 S1 e1 R1 r1 a1 => ?_)
  by_cases hz : szOk ds.length = true
  · simp only [if_pos hz] at a1
    exact ⟨by rw [r1.length]; exact sz_line hz, fun p hp => ag_fr R1 (fun v H' S' e R2 g => a1 v H' S' e R2 g) r1 hp⟩
  · simp only [if_neg hz] at a1
    exact (show False from a1).elim⟩
/-! ### calls by data -/
def CallG (r : List V → Hp → VK → Prop) (g : List D → Option Rv) : Prop := ∀ B S0 M σ H S ρ xs ds rv Q, Rel B S0 M σ H S ρ → RpL S xs ds → g ds = some rv → AG B S0 M σ S ρ Q rv → r xs H Q
def dCall (g : List D → Option Rv) (f : Fa) : Fe := fun ρ => (f ρ).bind fun p => optR (g p.1) p.2
theorem re_call {r : List V → Hp → VK → Prop} {g : List D → Option Rv} (hg : CallG r g) (h : RA ER tr fr) : RE ER (tCB r tr) (dCall g fr) := ⟨fun B S0 M σ H S ρ Q R a => by
  refine h.go B S0 M σ H S ρ _ R (AA.bindE a fun ds ρ1 xs H1 S1 e1 R1 r1 a1 => ?_)
  replace a1 : AE ER B S0 M σ S1 Q (optR (g ds) ρ1) := a1
  cases eg : g ds with
  | none => rw [eg] at a1; exact (show False from a1).elim
  | some rv =>
    rw [eg] at a1
    exact hg B S0 M σ H1 S1 ρ1 xs ds rv Q R1 r1 eg fun v H' S' e R2 g => a1 v H' S' e R2 g⟩
theorem RpL.one_inv {S : Hp} {xs : List V} {d : D} (h : RpL S xs [d]) : ∃ v, xs = [v] ∧ Rp S v d := by
  obtain ⟨v, ws, e, h1, h2⟩ := h
  rw [show ws = [] from h2] at e
  exact ⟨v, e, h1⟩
theorem RpL.two_inv {S : Hp} {xs : List V} {d e : D} (h : RpL S xs [d, e]) : ∃ v w, xs = [v, w] ∧ Rp S v d ∧ Rp S w e := by
  obtain ⟨v, ws, e1, h1, h2⟩ := h
  obtain ⟨w, e2, h3⟩ := RpL.one_inv h2
  exact ⟨v, w, by rw [e1, e2], h1, h3⟩
/-- len -/
def lenD : D → Option Nat
  | .list ds => some ds.length
  | .tuple ds => some ds.length
  | .str z => if szOk z.length = true then some z.length else none
  | .dict [(.none, .list ds)] => some ds.length
  | _ => none
def dLen : List D → Option Rv
  | [d] => (lenD d).map fun n => .sh (.int (n : Nat))
  | _ => none
def rLenD (K : PySem.W.Frag) : List V → Hp → VK → Prop := fun xs H Q => ∃ x n, xs = [x] ∧ LenV K x H n ∧ Q (.int n) H
theorem lenV_of {S H : Hp} {v : V} {d : D} {n : Nat} (sub : Ex S H) (r : Rp S v d) (h : lenD d = some n) : LenV Wr.K v H n := by
  unfold lenD at h
  split at h
  · obtain ⟨a, xs, rfl, h1, h2⟩ := r
    cases h
    exact .inl ⟨xs, SqL.of (sub _ _ h1), h2.length.symm⟩
  · obtain ⟨a, xs, rfl, h1, h2⟩ := r
    cases h
    exact .inr ⟨xs, Tp.sq sub h1, h2.length.symm⟩
  · split at h
    · rename_i hz
      cases h
      rw [show v = .str _ from r]
      exact ⟨sz_line hz, rfl⟩
    · cases h
  · cases h
    obtain ⟨a, rfl, ⟨ns, e, hs⟩ | e | ⟨_, _, e, _⟩ | ⟨_, _, _, e, _⟩⟩ := r
    case' inr.inr.inr => simp [tdK] at e
    · injection e with e _
      injection e with _ e
      injection e with e
      exact .inl ⟨ns.map V.int, sqL_mono sub hs, by rw [e, List.length_map, List.length_map]⟩
    · injection e with e _
      injection e with e _
      cases e
    · injection e with e _
      injection e with e _
      cases e
  · cases h
theorem g_len : CallG (rLenD Wr.K) dLen := fun B S0 M σ H S ρ xs ds rv Q R r h a => by
  unfold dLen at h
  split at h
  · obtain ⟨n, h1, rfl⟩ := Option.map_eq_some_iff.mp h
    obtain ⟨v, rfl, r1⟩ := RpL.one_inv r
    exact ⟨v, n, rfl, lenV_of R.sub r1 h1, ag_sh R a rfl⟩
  · cases h
def dAllF : List D → Option Rv
  | [.list ds] => (boolsOf ds).map fun bs => .sh (.bool (bs.all id))
  | _ => none
def dAnyF : List D → Option Rv
  | [.list ds] => (boolsOf ds).map fun bs => .sh (.bool (bs.any id))
  | _ => none
def dSumF : List D → Option Rv
  | [.list ds] => (intsOf ds).map fun ns => .sh (.int ns.sum)
  | _ => none
theorem g_all {K : PySem.W.Frag} : CallG (rAll K) dAllF := fun B S0 M σ H S ρ xs ds rv Q R r h a => by
  unfold dAllF at h
  split at h
  · obtain ⟨bs, h1, rfl⟩ := Option.map_eq_some_iff.mp h
    obtain ⟨v, rfl, p, ys, rfl, h2, r1⟩ := RpL.one_inv r
    rw [boolsOf_eq h1] at r1
    exact ⟨p, bs, rfl, by rw [← r1.bools]; exact SqL.of (R.sub _ _ h2), ag_sh R a rfl⟩
  · cases h
theorem g_any {K : PySem.W.Frag} : CallG (rAny K) dAnyF := fun B S0 M σ H S ρ xs ds rv Q R r h a => by
  unfold dAnyF at h
  split at h
  · obtain ⟨bs, h1, rfl⟩ := Option.map_eq_some_iff.mp h
    obtain ⟨v, rfl, p, ys, rfl, h2, r1⟩ := RpL.one_inv r
    rw [boolsOf_eq h1] at r1
    exact ⟨p, bs, rfl, by rw [← r1.bools]; exact SqL.of (R.sub _ _ h2), ag_sh R a rfl⟩
  · cases h
theorem g_sum {K : PySem.W.Frag} : CallG (rSum K) dSumF := fun B S0 M σ H S ρ xs ds rv Q R r h a => by
  unfold dSumF at h
  split at h
  · obtain ⟨bs, h1, rfl⟩ := Option.map_eq_some_iff.mp h
    obtain ⟨v, rfl, p, ys, rfl, h2, r1⟩ := RpL.one_inv r
    rw [intsOf_eq h1] at r1
    exact ⟨p, bs, rfl, by rw [← r1.ints]; exact SqL.of (R.sub _ _ h2), ag_sh R a rfl⟩
  · cases h
/-- tuple(..), list(..) of lists and tuples -/
def dTupleF : List D → Option Rv
  | [.list ds] => some (.sh (.tuple ds))
  | [.tuple ds] => some (.sh (.tuple ds))
  | _ => none
def dListF : List D → Option Rv
  | [.list ds] => some (.fr ds)
  | [.tuple ds] => some (.fr ds)
  | _ => none
def rTupleF (K : PySem.W.Frag) : List V → Hp → VK → Prop := fun xs H Q => ∃ p ys, xs = [.ref p] ∧ ((SqL K H p ys ∧ ∀ l o, Xo o → H l = none → Q (.ref l) (upd H l (.frz o (.tup ys)))) ∨ (SqT K H p ys ∧ Q (.ref p) H))
def rListF (K : PySem.W.Frag) : List V → Hp → VK → Prop := fun xs H Q => ∃ p ys, xs = [.ref p] ∧ (SqL K H p ys ∨ SqT K H p ys) ∧ ∀ l, H l = none → Q (.ref l) (upd H l (.lst ys))
theorem g_tuple {K : PySem.W.Frag} : CallG (rTupleF K) dTupleF := fun B S0 M σ H S ρ xs ds rv Q R r h a => by
  unfold dTupleF at h
  split at h
  · cases h
    obtain ⟨v, rfl, p, ys, rfl, h2, r1⟩ := RpL.one_inv r
    exact ⟨p, ys, rfl, .inl ⟨SqL.of (R.sub _ _ h2), fun l o ho hl => ag_tup R a r1 ho hl⟩⟩
  · cases h
    obtain ⟨v, rfl, p, ys, rfl, h2, r1⟩ := RpL.one_inv r
    exact ⟨p, ys, rfl, .inr ⟨Tp.sq R.sub h2, ag_sh R a (Rp.tup h2 r1)⟩⟩
  · cases h
theorem g_list {K : PySem.W.Frag} : CallG (rListF K) dListF := fun B S0 M σ H S ρ xs ds rv Q R r h a => by
  unfold dListF at h
  split at h
  · cases h
    obtain ⟨v, rfl, p, ys, rfl, h2, r1⟩ := RpL.one_inv r
    exact ⟨p, ys, rfl, .inl (SqL.of (R.sub _ _ h2)), fun l hl => ag_fr R a r1 hl⟩
  · cases h
    obtain ⟨v, rfl, p, ys, rfl, h2, r1⟩ := RpL.one_inv r
    exact ⟨p, ys, rfl, .inr (Tp.sq R.sub h2), fun l hl => ag_fr R a r1 hl⟩
  · cases h
def dIntF : List D → Option Rv
  | [.int i] => some (.sh (.int i))
  | [.bool b] => some (.sh (.int (if b then 1 else 0)))
  | _ => none
def rIntF : List V → Hp → VK → Prop := fun xs H Q => (∃ i, xs = [.int i] ∧ Q (.int i) H) ∨ ∃ k, xs = [.bl k] ∧ Q (.int (if k then 1 else 0)) H
theorem g_int : CallG rIntF dIntF := fun B S0 M σ H S ρ xs ds rv Q R r h a => by
  unfold dIntF at h
  split at h
  · cases h
    obtain ⟨v, rfl, r1⟩ := RpL.one_inv r
    rw [show v = .int _ from r1]
    exact .inl ⟨_, rfl, ag_sh R a rfl⟩
  · cases h
    obtain ⟨v, rfl, r1⟩ := RpL.one_inv r
    rw [show v = .bl _ from r1]
    exact .inr ⟨_, rfl, ag_sh R a rfl⟩
  · cases h
def dMax2 : List D → Option Rv
  | [.int i, .int j] => some (.sh (.int (if j > i then j else i)))
  | _ => none
def dMin2 : List D → Option Rv
  | [.int i, .int j] => some (.sh (.int (if j < i then j else i)))
  | _ => none
def rMax2 : List V → Hp → VK → Prop := fun xs H Q => ∃ i j, xs = [.int i, .int j] ∧ Q (.int (if j > i then j else i)) H
def rMin2 : List V → Hp → VK → Prop := fun xs H Q => ∃ i j, xs = [.int i, .int j] ∧ Q (.int (if j < i then j else i)) H
theorem g_max2 : CallG rMax2 dMax2 := fun B S0 M σ H S ρ xs ds rv Q R r h a => by
  unfold dMax2 at h
  split at h
  · cases h
    obtain ⟨v, w, rfl, r1, r2⟩ := RpL.two_inv r
    rw [show v = .int _ from r1, show w = .int _ from r2]
    exact ⟨_, _, rfl, ag_sh R a rfl⟩
  · cases h
theorem g_min2 : CallG rMin2 dMin2 := fun B S0 M σ H S ρ xs ds rv Q R r h a => by
  unfold dMin2 at h
  split at h
  · cases h
    obtain ⟨v, w, rfl, r1, r2⟩ := RpL.two_inv r
    rw [show v = .int _ from r1, show w = .int _ from r2]
    exact ⟨_, _, rfl, ag_sh R a rfl⟩
  · cases h
def dAbsF : List D → Option Rv
  | [.int i] => some (.sh (.int (if i < 0 then -i else i)))
  | _ => none
def rAbsF : List V → Hp → VK → Prop := fun xs H Q => ∃ i, xs = [.int i] ∧ Q (.int (if i < 0 then -i else i)) H
theorem g_abs : CallG rAbsF dAbsF := fun B S0 M σ H S ρ xs ds rv Q R r h a => by
  unfold dAbsF at h
  split at h
  · cases h
    obtain ⟨v, rfl, r1⟩ := RpL.one_inv r
    rw [show v = .int _ from r1]
    exact ⟨_, rfl, ag_sh R a rfl⟩
  · cases h
end
end DL

set_option Elab.async false
set_option linter.all false
set_option maxRecDepth 100000
set_option maxHeartbeats 4000000
namespace DL
open PySem PySem.Spec PyProof.Rows L2
variable [Wr]
section
variable {ER : Er} {ta tb tc te : TE} {fa fb fc : Fd} {fe fe' : Fe} {t u : TT} {ft fu : Ft} {K : PySem.W.Frag}
/-! ### isinstance -/
def tyName : D → Option String
  | .none => some "NoneType"
  | .bool _ => some "bool"
  | .int _ => some "int"
  | .str _ => some "str"
  | .list _ => some "list"
  | .tuple _ => some "tuple"
  | .dict _ => none
def isiD (T : String) (d : D) : Option Bool := (tyName d).bind (kitB · T)
def dIsi (T : String) (fa : Fd) : Fe := fun ρ => (fa ρ).bind fun p => optR (bRv (isiD T p.1)) p.2
theorem tyX_of {S H : Hp} {v : V} {d : D} {n : String} (sub : Ex S H) (r : Rp S v d) (h : tyName d = some n) : TyX K H v (.type n) := by
  unfold tyName at h
  split at h
  · cases h; rw [show v = .non from r]; exact .base (.non)
  · cases h; rw [show v = .bl _ from r]; exact .base (.bl _)
  · cases h; rw [show v = .int _ from r]; exact .base (.int _)
  · cases h; rw [show v = .str _ from r]; exact .base (.str _)
  · cases h; obtain ⟨a, xs, rfl, h1, _⟩ := r; exact .base (.lst (sub _ _ h1))
  · cases h; obtain ⟨a, xs, rfl, ⟨o, h1, _⟩, _⟩ := r; exact .fTuple (sub _ _ h1)
  · cases h
theorem re_isi (T : String) (h : RD ER ta fa) : RE ER (tCB (rIsi K) (tCons ta (tCons (tC (.ty T)) tNil))) (dIsi T fa) := ⟨fun B S0 M σ H S ρ Q R a => by
  refine h.go B S0 M σ H S ρ _ R (AD.bindE a fun d ρ1 x H1 S1 e1 R1 r1 a1 => ?_)
  show rIsi K [x, .ty T] H1 Q
  replace a1 : AE ER B S0 M σ S1 Q (optR (bRv (isiD T d)) ρ1) := a1
  unfold isiD at a1
  cases hn : tyName d with
  | none => rw [hn] at a1; exact (show False from a1).elim
  | some n =>
    rw [hn] at a1
    replace a1 : AE ER B S0 M σ S1 Q (optR (bRv (kitB n T)) ρ1) := a1
    cases hk : kitB n T with
    | none => rw [hk] at a1; exact (show False from a1).elim
    | some b =>
      rw [hk] at a1
      exact ⟨x, .ty T, .type n, .type T, b, rfl, .ty T, tyX_of R1.sub r1 hn, kit_ty hk, a1 (.bl b) H1 S1 (Ex.refl S1) R1 rfl⟩⟩
/-- isinstance(x, (T, U)) -/
def isi2D (T U : String) (d : D) : Option Bool := (isiD T d).bind fun b => if b = true then some true else isiD U d
def dIsi2 (T U : String) (fa : Fd) : Fe := fun ρ => (fa ρ).bind fun p => optR (bRv (isi2D T U p.1)) p.2
theorem re_isi2 (T U : String) (h : RD ER ta fa) : RE ER (tCB (rIsiT K) (tCons ta (tCons (tTup (tCons (tC (.ty T)) (tCons (tC (.ty U)) tNil))) tNil))) (dIsi2 T U fa) := ⟨fun B S0 M σ H S ρ Q R a => by
  refine h.go B S0 M σ H S ρ _ R (AD.bindE a fun d ρ1 x H1 S1 e1 R1 r1 a1 => ?_)
  refine ⟨by show 2 ≤ sizeLine; decide, fun p hp => ?_⟩
  show rIsiT K [x, .ref p] (upd H1 p (.tup [.ty T, .ty U])) Q
  replace a1 : AE ER B S0 M σ S1 Q (optR (bRv (isi2D T U d)) ρ1) := a1
  have R2 := R1.lay (o := .tup [.ty T, .ty U]) hp
  unfold isi2D isiD at a1
  cases hn : tyName d with
  | none => rw [hn] at a1; exact (show False from a1).elim
  | some n =>
    rw [hn] at a1
    replace a1 : AE ER B S0 M σ S1 Q (optR (bRv ((kitB n T).bind fun b => if b = true then some true else kitB n U)) ρ1) := a1
    have ty := tyX_of (K := K) R2.sub r1 hn
    cases hk : kitB n T with
    | none => rw [hk] at a1; exact (show False from a1).elim
    | some b =>
      rw [hk] at a1
      cases b with
      | true => exact ⟨x, p, _, .type n, [.type T, .type U], true, rfl, upd_same, .cons (.ty T) (.cons (.ty U) .nil), ty, kitAny_cons (kit_ty hk) (fun z => by cases z) (fun _ => rfl), a1 (.bl true) _ S1 (Ex.refl S1) R2 rfl⟩
      | false =>
        replace a1 : AE ER B S0 M σ S1 Q (optR (bRv (kitB n U)) ρ1) := a1
        cases hk2 : kitB n U with
        | none => rw [hk2] at a1; exact (show False from a1).elim
        | some c =>
          rw [hk2] at a1
          refine ⟨x, p, _, .type n, [.type T, .type U], c, rfl, upd_same, .cons (.ty T) (.cons (.ty U) .nil), ty, kitAny_cons (kit_ty hk) (fun _ => ?_) (fun z => by cases z), a1 (.bl c) _ S1 (Ex.refl S1) R2 rfl⟩
          cases c with
          | true => exact kitAny_cons (kit_ty hk2) (fun z => by cases z) (fun _ => rfl)
          | false => exact kitAny_cons (kit_ty hk2) (fun _ => kitAny_nil) (fun z => by cases z)⟩
/-! ### what a name holds, looked at where it stands -/
def Pk (H S : Hp) (v : V) (d : D) : Prop := Rp S v d ∨ ∃ l vs ds, v = .ref l ∧ d = .list ds ∧ H l = some (.lst vs) ∧ RpL S vs ds
theorem Pk.dp {S H : Hp} {v : V} {d : D} (e : Ex S H) (h : Pk H S v d) (p : plainD d = true) : Dp K H v d := by
  rcases h with h | ⟨l, vs, ds, rfl, rfl, h1, h2⟩
  · exact Rp.dp e d h p
  · exact .lst (SqL.of h1) (RpL.dp e ds h2 p)
def slD : Sl → Option D
  | .sh d => some d
  | .ow ds => some (.list ds)
  | .io ds => some (.list ds)
  | _ => none
theorem Rel.peek {B S0 : Hp} {M : List Addr} {σ : L2.St} {H S : Hp} {ρ : En} (R : Rel B S0 M σ H S ρ) {i : Nat} {d : D} (h : ρ[i]?.bind slD = some d) : ∃ v, σ[i]? = some (some v) ∧ Pk H S v d := by
  cases e : ρ[i]? with
  | none => rw [e] at h; cases h
  | some s =>
    rw [e] at h
    have q := R.ats i s e
    cases s with
    | no => cases h
    | od kvs => cases h
    | oT ps => cases h
    | sh d' => cases h; obtain ⟨v, ev, r⟩ := q; exact ⟨v, ev, .inl r⟩
    | ow ds => cases h; obtain ⟨l, vs, ev, h1, _, h3, _⟩ := q; exact ⟨.ref l, ev, .inr ⟨l, vs, ds, rfl, rfl, h1, h3⟩⟩
    | io ds => cases h; obtain ⟨l, vs, ev, h1, _, h3, _⟩ := q; exact ⟨.ref l, ev, .inr ⟨l, vs, ds, rfl, rfl, h1, h3⟩⟩
/-- operators that only look -/
def OpK (r : R2) (g : D → D → Option Rv) : Prop := ∀ B S0 M σ H S ρ x y d e rv Q, Rel B S0 M σ H S ρ → Pk H S x d → Pk H S y e → g d e = some rv → AG B S0 M σ S ρ Q rv → r x y H Q
theorem OpK.g {r : R2} {g : D → D → Option Rv} (h : OpK r g) : OpG r g := fun B S0 M σ H S ρ x y d e rv Q R rx ry => h B S0 M σ H S ρ x y d e rv Q R (.inl rx) (.inl ry)
def dOpO (g : D → D → Option Rv) (i : Nat) (fb : Fd) : Fe := fun ρ => if (ρ[i]?.bind slD).isSome = true then (fb ρ).bind fun q => match q.2[i]?.bind slD with
  | some d => optR (g d q.1) q.2
  | none => .no
  else .no
def dOpR (g : D → D → Option Rv) (fa : Fd) (i : Nat) : Fe := fun ρ => (fa ρ).bind fun q => match q.2[i]?.bind slD with
  | some d => optR (g q.1 d) q.2
  | none => .no
theorem re_opO {r : R2} {g : D → D → Option Rv} (ho : OpK r g) (i : Nat) (hb : RD ER tb fb) : RE ER (tOp r (tVar i) tb) (dOpO g i fb) := ⟨fun B S0 M σ H S ρ Q R a => by
  unfold dOpO at a
  split at a
  · rename_i hs
    obtain ⟨d0, h0⟩ := Option.isSome_iff_exists.mp hs
    obtain ⟨v, ev, _⟩ := R.peek h0
    refine ⟨v, ev, ?_⟩
    refine hb.go B S0 M σ H S ρ _ R (AD.bindE a fun e ρ1 y H1 S1 e1 R1 r1 a1 => ?_)
    simp only at a1
    split at a1
    · rename_i d hd
      obtain ⟨v', ev', pk⟩ := R1.peek hd
      rw [ev] at ev'
      injection ev' with ev'; injection ev' with ev'; subst ev'
      cases eg : g d e with
      | none => rw [eg] at a1; exact (show False from a1).elim
      | some rv =>
        rw [eg] at a1
        exact ho B S0 M σ H1 S1 ρ1 v y d e rv Q R1 pk (.inl r1) eg fun v H' S' e R2 g => a1 v H' S' e R2 g
    · exact (show False from a1).elim
  · exact (show False from a).elim⟩
theorem re_opR {r : R2} {g : D → D → Option Rv} (ho : OpK r g) (ha : RD ER ta fa) (i : Nat) : RE ER (tOp r ta (tVar i)) (dOpR g fa i) := ⟨fun B S0 M σ H S ρ Q R a => by
  refine ha.go B S0 M σ H S ρ _ R (AD.bindE a fun e ρ1 y H1 S1 e1 R1 r1 a1 => ?_)
  simp only at a1
  split at a1
  · rename_i d hd
    obtain ⟨v, ev, pk⟩ := R1.peek hd
    refine ⟨v, ev, ?_⟩
    cases eg : g e d with
    | none => rw [eg] at a1; exact (show False from a1).elim
    | some rv =>
      rw [eg] at a1
      exact ho B S0 M σ H1 S1 ρ1 y v e d rv Q R1 (.inl r1) pk eg fun v H' S' e R2 g => a1 v H' S' e R2 g
  · exact (show False from a1).elim⟩
theorem k_eq : OpK (rEqD K) dEq := fun B S0 M σ H S ρ x y d e rv Q R rx ry h a => by
  unfold dEq at h
  split at h
  · rename_i hz
    cases h
    obtain ⟨⟨h1, h2⟩, h3, h4⟩ := okD2 hz
    exact ⟨d, e, Pk.dp R.sub rx h1, Pk.dp R.sub ry h3, h2, h4, ag_sh R a rfl⟩
  · cases h
theorem k_ne : OpK (rNeD K) dNe := fun B S0 M σ H S ρ x y d e rv Q R rx ry h a => by
  unfold dNe at h
  split at h
  · rename_i hz
    cases h
    obtain ⟨⟨h1, h2⟩, h3, h4⟩ := okD2 hz
    exact ⟨d, e, Pk.dp R.sub rx h1, Pk.dp R.sub ry h3, h2, h4, ag_sh R a rfl⟩
  · cases h
theorem Pk.flat {S H : Hp} {v : V} {d : D} (h : Pk H S v d) (f : flatD d = true) : Rp S v d := by
  rcases h with h | ⟨l, vs, ds, rfl, rfl, h1, h2⟩
  · exact h
  · cases f
theorem in_waysK {S H : Hp} {x y : V} {d e : D} {b : Bool} (sub : Ex S H) (rx : Pk H S x d) (ry : Pk H S y e) (h : inD d e = some b) :
    (∃ p xs, y = .ref p ∧ (SqL K H p xs ∨ SqT K H p xs) ∧ flatV x = true ∧ xs.all flatV = true ∧ inV x xs = b) ∨ (∃ ds, Dp K H x d ∧ Dp K H y (.list ds) ∧ SeqAt.shaped d = true ∧ SeqAt.shaped (.list ds) = true ∧ (ds.any fun z => PyData.eqv z d) = b) ∨
    ∃ (c : Nat) (z : Str), x = .str ⟨#[c]⟩ ∧ y = .str z ∧ decide (c ∈ z.cps.toList) = b := by
  rcases ry with ry | ⟨l, vs, ds, rfl, rfl, h1, h2⟩
  · rcases rx with rx | ⟨l, vs, ds, rfl, rfl, h1, h2⟩
    · exact in_ways sub rx ry h
    · unfold inD at h
      split at h
      · rename_i es
        split at h
        · rename_i hz; cases hz
        · split at h
          · rename_i hz
            cases h
            obtain ⟨⟨h1', h2'⟩, h3, h4⟩ := okD2 hz
            exact .inr (.inl ⟨es, Pk.dp sub (.inr ⟨l, vs, ds, rfl, rfl, h1, h2⟩) h1', Rp.dp sub _ ry h3, h2', h4, rfl⟩)
          · cases h
      · split at h
        · rename_i hz; cases hz
        · cases h
      · cases h
      · cases h
  · unfold inD at h
    simp only at h
    split at h
    · rename_i hz
      cases h
      have f := Bool.and_eq_true_iff.mp hz
      exact .inl ⟨l, vs, rfl, .inl (SqL.of h1), flat_of (rx.flat f.1) f.1, flats_of h2 f.2, inV_of (rx.flat f.1) f.1 h2 f.2⟩
    · split at h
      · rename_i hz
        cases h
        obtain ⟨⟨h1', h2'⟩, h3, h4⟩ := okD2 hz
        exact .inr (.inl ⟨ds, Pk.dp sub rx h1', Pk.dp sub (.inr ⟨l, vs, ds, rfl, rfl, h1, h2⟩) h3, h2', h4, rfl⟩)
      · cases h
theorem k_in : OpK (rInAll K) dIn := fun B S0 M σ H S ρ x y d e rv Q R rx ry h a => by
  obtain ⟨b, h', rfl⟩ := bRv_some h
  rcases in_waysK (K := K) R.sub rx ry h' with ⟨p, xs, e1, h1, h2, h3, h4⟩ | ⟨ds, h1, h2, h3, h4, h5⟩ | ⟨c, z, h1, h2, h3⟩
  · exact .inl ⟨p, xs, e1, h1, h2, h3, ag_sh R a (by show V.bl (inV x xs) = _; rw [h4])⟩
  · exact .inr (.inl ⟨d, ds, h1, h2, h3, h4, ag_sh R a (by show V.bl _ = _; rw [h5])⟩)
  · exact .inr (.inr ⟨c, z, h1, h2, ag_sh R a (by show V.bl _ = _; rw [h3])⟩)
theorem k_notIn : OpK (rNotInAll K) dNotIn := fun B S0 M σ H S ρ x y d e rv Q R rx ry h a => by
  obtain ⟨b', h', rfl⟩ := bRv_some h
  obtain ⟨b, h'', rfl⟩ := Option.map_eq_some_iff.mp h'
  rcases in_waysK (K := K) R.sub rx ry h'' with ⟨p, xs, e1, h1, h2, h3, h4⟩ | ⟨ds, h1, h2, h3, h4, h5⟩ | ⟨c, z, h1, h2, h3⟩
  · exact .inl ⟨p, xs, e1, h1, h2, h3, ag_sh R a (by show V.bl (!inV x xs) = _; rw [h4])⟩
  · exact .inr (.inl ⟨d, ds, h1, h2, h3, h4, ag_sh R a (by show V.bl _ = _; rw [h5])⟩)
  · exact .inr (.inr ⟨c, z, h1, h2, ag_sh R a (by show V.bl _ = _; rw [h3])⟩)
/-! ### subscripts -/
theorem RpL.atI {S : Hp} {vs : List V} {ds : List D} {i : Int} {d : D} (r : RpL S vs ds) (h : L2.atI ds i = some d) : ∃ v, L2.atI vs i = some v ∧ Rp S v d := by
  unfold L2.atI at h ⊢
  rw [r.length]
  cases e : ixN ds.length i with
  | none => rw [e] at h; cases h
  | some j =>
    rw [e] at h
    obtain ⟨v, h1, h2⟩ := r.get (i := j) (d := d) h
    exact ⟨v, h1, h2⟩
def ixD (d e : D) : Option D := match e with
  | .int i => match d with
    | .list ds => atI ds i
    | .tuple ds => atI ds i
    | .str z => if szOk z.length = true then (atI z.cps.toList i).map fun c => .str ⟨#[c]⟩ else none
    | .dict [(.none, .list ds)] => atI ds i
    | _ => none
  | _ => none
def dIx (d e : D) : Option Rv := (ixD d e).map .sh
theorem k_ix : OpK (rIx Wr.K) dIx := fun B S0 M σ H S ρ x y d e rv Q R rx ry h a => by
  obtain ⟨z, h', rfl⟩ := Option.map_eq_some_iff.mp h
  clear h
  unfold ixD at h'
  split at h'
  · have ry' := ry.flat rfl
    rw [show y = .int _ from ry']
    split at h'
    · rcases rx with ⟨p, xs, rfl, h1, r1⟩ | ⟨l, vs, ds, rfl, e1, h1, r1⟩
      · obtain ⟨v, h2, r2⟩ := r1.atI h'
        exact .inl ⟨p, xs, _, v, rfl, rfl, SqL.of (R.sub _ _ h1), h2, ag_sh R a r2⟩
      · cases e1
        obtain ⟨v, h2, r2⟩ := r1.atI h'
        exact .inl ⟨l, vs, _, v, rfl, rfl, SqL.of h1, h2, ag_sh R a r2⟩
    · rcases rx with ⟨p, xs, rfl, h1, r1⟩ | ⟨l, vs, ds, rfl, e1, h1, r1⟩
      · obtain ⟨v, h2, r2⟩ := r1.atI h'
        exact .inr (.inl ⟨p, xs, _, v, rfl, rfl, Tp.sq R.sub h1, h2, ag_sh R a r2⟩)
      · cases e1
    · split at h'
      · rename_i hz
        obtain ⟨c, h2, rfl⟩ := Option.map_eq_some_iff.mp h'
        rcases rx with rx | ⟨l, vs, ds, rfl, e1, h1, r1⟩
        · rw [show x = .str _ from rx]
          exact .inr (.inr ⟨_, _, c, rfl, rfl, sz_line hz, h2, ag_sh R a rfl⟩)
        · cases e1
      · cases h'
    · rename_i ds
      rcases rx with ⟨b, rfl, ⟨ns, e, hs⟩ | e | ⟨_, _, e, _⟩ | ⟨_, _, _, e, _⟩⟩ | ⟨l, vs, es, rfl, e1, h1, r1⟩
      case' inl.inr.inr.inr => simp [tdK] at e
      · injection e with e _
        injection e with _ e
        injection e with e
        subst e
        obtain ⟨v, h2, r2⟩ := (RpL.ofInts (S := S) ns).atI h'
        exact .inl ⟨b, _, _, v, rfl, rfl, sqL_mono R.sub hs, h2, ag_sh R a r2⟩
      · injection e with e _
        injection e with e _
        cases e
      · injection e with e _
        injection e with e _
        cases e
      · cases e1
    · cases h'
  · cases h'
/-- len(x) of a name -/
def dLenO (i : Nat) : Fe := fun ρ => match ρ[i]?.bind slD with
  | some d => optR (dLen [d]) ρ
  | none => .no
theorem re_lenO (i : Nat) : RE ER (tCB (rLenD Wr.K) (tCons (tVar i) tNil)) (dLenO i) := ⟨fun B S0 M σ H S ρ Q R a => by
  unfold dLenO at a
  split at a
  · rename_i d hd
    obtain ⟨v, ev, pk⟩ := R.peek hd
    refine ⟨v, ev, ?_⟩
    show rLenD Wr.K [v] H Q
    cases eg : lenD d with
    | none => rw [show dLen [d] = none by show Option.map _ (lenD d) = _; rw [eg]; rfl] at a; exact (show False from a).elim
    | some n =>
      rw [show dLen [d] = some (.sh (.int (n : Nat))) by show Option.map _ (lenD d) = _; rw [eg]; rfl] at a
      refine ⟨v, n, rfl, ?_, a (.int n) H S (Ex.refl S) R rfl⟩
      rcases pk with pk | ⟨l, vs, ds, rfl, rfl, h1, r1⟩
      · exact lenV_of R.sub pk eg
      · cases eg
        exact .inl ⟨vs, SqL.of h1, r1.length.symm⟩
  · exact (show False from a).elim⟩
/-! ### slices -/
abbrev Fo := En → Res (Option Int × En)
def AO (ER : Er) (B S0 : Hp) (M : List Addr) (σ : L2.St) (S : Hp) (Q : Option Int → Hp → Prop) : Res (Option Int × En) → Prop
  | .ok (o, ρ') => ∀ H' S', Ex S S' → Rel B S0 M σ H' S' ρ' → Q o H'
  | .err c fs => ∀ H', Kp B S0 M H' → ER c fs H'
  | .no => False
structure RO (ER : Er) (t : TO) (f : Fo) : Prop where
  go : ∀ B S0 M σ H S ρ Q, Rel B S0 M σ H S ρ → AO ER B S0 M σ S Q (f ρ) → t σ H Q
def dNoPart : Fo := fun ρ => .ok (none, ρ)
def iOf : D × En → Res (Option Int × En)
  | (.int i, ρ) => .ok (some i, ρ)
  | _ => .no
def dPart (f : Fd) : Fo := fun ρ => (f ρ).bind iOf
theorem ro_none : RO ER tNoPart dNoPart := ⟨fun B S0 M σ H S ρ Q R a => a H S (Ex.refl S) R⟩
theorem ro_some (h : RD ER ta fa) : RO ER (tPart ta) (dPart fa) := ⟨fun B S0 M σ H S ρ Q R a => by
  refine h.go B S0 M σ H S ρ _ R ?_
  unfold dPart at a
  cases e : fa ρ with
  | ok p =>
    obtain ⟨d, ρ'⟩ := p
    rw [e] at a
    intro v H' S' e1 R1 r1
    cases d with
    | int i => exact ⟨i, r1, a H' S' e1 R1⟩
    | _ => exact (show False from a).elim
  | err c fs => rw [e] at a; exact a
  | no => rw [e] at a; exact (show False from a).elim⟩
def cutD {α : Type} (xs : List α) (lo hi : Option Int) : List α := (xs.drop (HT.sIx xs.length 0 lo)).take (HT.sIx xs.length xs.length hi - HT.sIx xs.length 0 lo)
theorem RpL.cut {S : Hp} {vs : List V} {ds : List D} (r : RpL S vs ds) (lo hi : Option Int) : RpL S (cutV vs lo hi) (cutD ds lo hi) := by
  unfold cutV cutD
  rw [r.length]
  exact (r.drop _).take _
def slcD : D → Option Int → Option Int → Option Rv
  | .list ds, lo, hi => some (.fr (cutD ds lo hi))
  | .tuple ds, lo, hi => some (.sh (.tuple (cutD ds lo hi)))
  | _, _, _ => none
def rSlD (K : PySem.W.Frag) : V → Option Int → Option Int → Hp → VK → Prop := fun x lo hi H Q => rSlL K x lo hi H Q ∨ rSlA K x lo hi H Q
theorem sl_D {X : Cx} : SlR X (rSlD X.K) := sl_list.or sl_tupA
def dSl (fa : Fd) (fl fh : Fo) : Fe := fun ρ => (fa ρ).bind fun p => (fl p.2).bind fun l => (fh l.2).bind fun h => optR (slcD p.1 l.1 h.1) h.2
theorem AO.bindE {B S0 : Hp} {M : List Addr} {σ : L2.St} {S : Hp} {Q : VK} {Q' : Option Int → Hp → Prop} {x : Res (Option Int × En)} {k : Option Int × En → Res (Rv × En)} (h : AE ER B S0 M σ S Q (x.bind k))
    (c : ∀ b ρ' H' S', Ex S S' → Rel B S0 M σ H' S' ρ' → AE ER B S0 M σ S' Q (k (b, ρ')) → Q' b H') : AO ER B S0 M σ S Q' x := by
  cases x with
  | ok a => exact fun H' S' e R => c a.1 a.2 H' S' e R (AE.later e h)
  | err c fs => exact h
  | no => exact (show False from h).elim
variable {tl th : TO} {fl fh : Fo}
theorem cut_whole {α : Type} (ds : List α) (lo hi : Option Int) (h : HT.sIx ds.length 0 lo = 0 ∧ HT.sIx ds.length ds.length hi = ds.length) : cutD ds lo hi = ds := by
  unfold cutD
  rw [h.1, h.2, List.drop_zero, Nat.sub_zero, List.take_length]
end
end DL

set_option Elab.async false
set_option linter.all false
set_option maxRecDepth 100000
set_option maxHeartbeats 4000000
/-! enumerate of a tuple -/
namespace PySem
open Sem (wp)
open AutoSeq1 (wpAny_loadPart')
theorem dl_enumerate_newT (l : Addr) (items : Array Value) (n : Nat) (dct : Option Addr) (sl : Array (Option Value)) :
    Meets (Builtin.«enumerate.__new__» ⟨[.type "enumerate", .ref l], []⟩) (fun _ R s => s.heap.get? l = some { cls := .type "tuple", dict := dct, data := .seq items n, slots := sl } ∧
      R (.ok (.ret (.ref (s.heap.push { cls := .type "tuple_iterator", data := .fields #[.ref l, .int 0 0] }).objs.size)))
        { s with heap := (s.heap.push { cls := .type "tuple_iterator", data := .fields #[.ref l, .int 0 0] }).push { cls := .type "enumerate", data := .fields #[.none, .bool false, .ref s.heap.objs.size, rawInt 0, .none, .none] } }) :=
  .of_wp fun prog w A R s h => by
    obtain ⟨hp, g, d, tk, os⟩ := s; obtain ⟨hl, h⟩ := h
    have hsub := sub_enumerate
    have hL : Heap.IsTuple (Shared.heap ⟨hp, g, d, tk, os⟩) l items := ⟨_, hl, rfl, n, rfl⟩
    wp_walk using wpAny_loadPart' hl
    refine wpAny_stack_any fun st => wpAny_pure ?_
    split
    · rename_i c _ _ _ _ _
      cases (c == Value.type "enumerate")
      · wp_walk using wpAny_loadPart' hl, wpAny_pyIter_tuple hL
        exact ⟨_, rfl, h⟩
      · wp_walk using wpAny_loadPart' hl, wpAny_pyIter_tuple hL
        exact ⟨_, rfl, h⟩
    · wp_walk using wpAny_loadPart' hl, wpAny_pyIter_tuple hL
      exact ⟨_, rfl, h⟩
section
variable {prog : Program} {w : World} {A : Around} {E : Value → Shared → Prop} {s : Shared}
theorem dl_call_enumerate_tuple {l : Addr} {items : Array Value} {Q : Value → Shared → Prop} (hL : s.heap.IsTuple l items)
    (h : ∀ h', IsEnum h' (s.heap.objs.size + 1) s.heap.objs.size 0 .none → h'.IsTupleIter s.heap.objs.size l 0 → h'.objs.size = s.heap.objs.size + 2 →
      (∀ b o, s.heap.get? b = some o → h'.get? b = some o) → Q (.ref (s.heap.objs.size + 1)) { s with heap := h' }) :
    wpAny (model prog w) A (call (.type "enumerate") [.ref l]) Q E s := by
  obtain ⟨⟨c, dct, dt, sl⟩, hl, hc, n, hd⟩ := hL
  replace hc : c = .type "tuple" := hc
  replace hd : dt = .seq items n := hd
  subst hc hd
  refine callType_new F.called_enumerate (by decide) (F.typeCall_enumerate_1 _) (F.newCall_enumerate_1 _) (fun obj => F.args_object_init_2 obj _) F.entry_enumerate_new
    (dl_enumerate_newT l items n dct sl) ⟨hl, ?_⟩
  have hz : (s.heap.push { cls := .type "tuple_iterator", data := .fields #[.ref l, .int 0 0] }).objs.size = s.heap.objs.size + 1 := Heap.size_push ..
  show _ ∧ _
  rw [hz]
  have he : IsEnum ((s.heap.push { cls := .type "tuple_iterator", data := .fields #[.ref l, .int 0 0] }).push
      { cls := .type "enumerate", data := .fields #[.none, .bool false, .ref s.heap.objs.size, rawInt 0, .none, .none] }) (s.heap.objs.size + 1) s.heap.objs.size 0 .none := by
    have := Heap.get?_push_size (s.heap.push { cls := .type "tuple_iterator", data := .fields #[.ref l, .int 0 0] })
      (o := { cls := .type "enumerate", data := .fields #[.none, .bool false, .ref s.heap.objs.size, rawInt 0, .none, .none] }) rfl
    rw [hz] at this; exact this
  refine ⟨⟨_, he, rfl⟩, h _ he ⟨_, Heap.get?_push_of_some _ (Heap.get?_push_size _ rfl), rfl, rfl⟩ (by rw [Heap.size_push, hz]) fun b o x => Heap.get?_push_of_some _ (Heap.get?_push_of_some _ x)⟩
end
end PySem
namespace DL
open PySem PySem.Spec PyProof.Rows L2
variable [Wr]
def IteT (K : PySem.W.Frag) (a : Addr) : It :=
  ⟨fun i H => ∃ (xs : List V) (x : V), SqT K H a xs ∧ xs[i]? = some x, fun i H v H' => ∃ T x o, v = .ref T ∧ H T = none ∧ Xo o ∧ H' = upd H T (.frz o (.tup [.int (i : Nat), x])) ∧ ∀ xs, SqT K H a xs → xs[i]? = some x, fun i H => ∃ xs : List V, SqT K H a xs ∧ xs.length ≤ i⟩
theorem turn_enumT {P : Program} {w : World} {K : PySem.W.Frag} {elts : List Expr} {kk : Nat} {tpos : Pos} (a e it : Addr) :
    Turn P w K (.Tuple elts kk tpos) (IteT K a) [e, it] e (fun i h => (∃ old, IsEnum h e it ((i : Nat) : Int) old) ∧ h.IsTupleIter it a i ∧ e ≠ it ∧ a ≠ e ∧ a ≠ it) where
  mem := by simp
  obj := fun i h st b hb => by
    obtain ⟨⟨old, he⟩, ⟨o, ho, hc, hd⟩, _⟩ := st
    have e' : b = e ∨ b = it := by simpa using hb
    rcases e' with z | z
    · rw [z]; exact ⟨_, he, fun v q => nomatch q⟩
    · rw [z]; exact ⟨o, ho, fun v q => by rw [hd] at q; cases q⟩
  keep := fun i h h' st k => let ⟨⟨old, he⟩, hi, hne⟩ := st; ⟨⟨old, k e (by simp) _ he⟩, hi.at fun o q => k it (by simp) o q, hne⟩
  item := by
    intro X hP hw hK hc i pins s σ H E I hf st hg
    subst hP hw hK
    obtain ⟨⟨old, he⟩, hit, hne, hae, hai⟩ := st
    obtain ⟨xs, x, hq, hx⟩ := hg
    obtain ⟨its, rv, p, hz⟩ := I.tuple hq
    obtain ⟨u, hu, ru⟩ := rv.get hx
    have hel : e < s.heap.objs.size := Heap.lt_size he
    have hil : it < s.heap.objs.size := by obtain ⟨_, q, _⟩ := hit; exact Heap.lt_size q
    have hlt : i < its.toArray.size := by
      have := (List.getElem?_eq_some_iff.mp hu).1
      simpa using this
    have Dr := Draws.tuple (prog := X.prog) (w := X.w) (A := X.A.in1) (show X.A.in1.handled = none from I.ok.hd hc) it a hai its.toArray
    refine wpAny_pyNext_enum_itemD Dr he ⟨hit, show s.heap.IsTuple a its.toArray from p⟩ hlt hne (by simp [hne, Ne.symm hae]) fun y h' tk hy ho hst' hT hsz hk => ?_
    have ey : y = u := by
      have h1 : its.toArray[i]? = some y := hy
      have h2 : its.toArray[i]? = some u := by simpa using hu
      rw [h1] at h2; exact Option.some.inj h2
    subst ey
    refine ⟨_, rfl, wpAny_letOwnedTupleGo_enum (s := { s with heap := h', toks := tk + 1 }) ho fun h'' he' sb => ?_⟩
    have hT2 : h''.get? s.heap.objs.size = some { cls := .type "tuple", data := .seq #[.int i tk, y] } := (sb.2 _ (Nat.ne_of_gt hel)).trans hT
    have new : ObjOk X.prog X.w (upd H s.heap.objs.size (.frz { cls := .type "tuple", data := .seq #[.int i tk, y] } (.tup [.int (i : Nat), x]))) h'' s.heap.objs.size (.frz { cls := .type "tuple", data := .seq #[.int i tk, y] } (.tup [.int (i : Nat), x])) :=
      ⟨hT2, by show 2 ≤ sizeLine; decide, [.int i tk, y], .cons ⟨_, rfl⟩ (.cons ru .nil), ⟨_, hT2, rfl, _, rfl⟩⟩
    have I1 : Inv X pins σ (upd H s.heap.objs.size (.frz { cls := .type "tuple", data := .seq #[.int i tk, y] } (.tup [.int (i : Nat), x]))) { s with heap := h'', toks := tk + 1 } :=
      I.turnedNew (ch := [e, it]) (fun b ob hb q => (sb.2 b (fun z => hb (by simp [z]))).trans (hk b ob (fun z => hb (by simp [z])) (fun z => hb (by simp [z])) q)) hf (Nat.le_refl _) new
    refine ⟨.ref s.heap.objs.size, _, I1, rfl, ⟨_, x, _, rfl, I.hok.fresh (Nat.le_refl _), ⟨rfl, rfl⟩, rfl, fun ys hy => by rw [I.tuple_inj hy hq]; exact hx⟩, ⟨⟨y, ?_⟩, hst'.1.at fun o q => (sb.2 it (Ne.symm hne)).trans q, hne, hae, hai⟩, fun b hb => ?_⟩
    · have e1 : ((i + 1 : Nat) : Int) = (i : Int) + 1 := by omega
      rw [e1]; exact he'
    · have hb' : b < s.heap.objs.size := by
        have e' : b = e ∨ b = it := by simpa using hb
        rcases e' with z | z
        · rw [z]; exact hel
        · rw [z]; exact hil
      rw [upd_ne (Nat.ne_of_lt hb')]
      exact (hf b hb).1
  done := by
    intro X hP hw hK hc i pins s σ H E I hf st hg
    subst hP hw hK
    obtain ⟨⟨old, he⟩, hit, hne, hae, hai⟩ := st
    obtain ⟨xs, hq, hx⟩ := hg
    obtain ⟨its, rv, p, hz⟩ := I.tuple hq
    obtain ⟨f0, f1, f2, f3, f4, f5⟩ := hf it (by simp)
    have hl := rv.length
    unfold pyNext
    have hT : s.TypeIs (.ref e) "enumerate" := ⟨_, he, rfl⟩
    refine wpAny_bind (wpAny_attempt (wpAny_callSpecial?_slot (name := Str.ofString "__next__") hT F.slot_enumerate_next
      (wpAny_call_entry F.slot_enumerate_next hT F.entry_enumerate_next ?_ (F.args_enumerate_next_1 _))))
    show wpAny _ _ (field (.ref e) 2 >>= _) _ _ _
    refine wpAny_bind (wpAny_field he rfl (x := .ref it) rfl ?_)
    refine wpAny_bind (wpAny_nextOf_tuple_end (show X.A.in1.handled = none from I.ok.hd hc) hit (show s.heap.IsTuple a its.toArray from p) (by simp; omega) fun h' x he' hx' => ?_)
    obtain ⟨o, ho, hc'⟩ := hx'
    refine wpAny_bind (wpAny_isInstance (T := "StopIteration") (b := true) ⟨o, ho, hc'⟩ isSubtype_stop ?_)
    exact wpAny_pure ⟨rfl, I.turned (t' := s.toks) (fun b o hb q => he' b o hb q) f0 f1 f3 f4 f5⟩
  self := fun A i s Q E st h => let ⟨⟨_, he⟩, _⟩ := st; wpAny_pyIter_enum he h
/-- enumerate of a list or a tuple -/
def iEnumA (K : PySem.W.Frag) (ta : TA) : TI := fun σ H R => ta σ H fun vs H1 => ∃ a xs, vs = [.ref a] ∧ ((SqL K H1 a xs ∧ R (Ite K a) H1) ∨ (SqT K H1 a xs ∧ R (IteT K a) H1))
theorem pi_enumA {X : Cx} {e : Expr} {ta : TA} {p pos tpos : Pos} {elts : List Expr} {kk : Nat} (hg : Gl X "enumerate") (hm : X.mg "enumerate" = none) (ha : PA X [e] ta) (hs : starEach [e] X.env = [(false, eval e X.env)] := by rfl) :
    PI X (.Tuple elts kk tpos) (.Call (.Name "enumerate" p) [e] [] pos) (iEnumA X.K ta) := by
  refine ⟨fun pins s σ H R I h => ?_⟩
  refine Call_ (ld_blt I hg hm boot_enumerate (PyProof.Rows.callWith_type1 (thn (ha.run pos pins s σ H _ I h) fun us s1 ⟨vs, H1, I1, r1, q1⟩ => ?_) hs rfl))
  obtain ⟨a, xs, ex, q1⟩ := q1
  subst ex
  cases r1 with
  | cons r rr =>
    cases rr
    cases r
    have fpo : ∀ b, (b = s1.heap.objs.size + 1 ∨ b = s1.heap.objs.size) → FpOk X pins H1 b := fun b e' => by
      have hle : s1.heap.objs.size ≤ b := by
        rcases e' with z | z
        · rw [z]; exact Nat.le_add_right _ _
        · rw [z]; exact Nat.le_refl _
      exact I1.fpOk hle (I1.hok.fresh hle)
    rcases q1 with ⟨hq, q⟩ | ⟨hq, q⟩
    · obtain ⟨its, rv, p', hz⟩ := I1.list hq
      refine call_enumerate_list p'.isList fun h' he hit hsz hk => wpAny_pyIter_enum he ?_
      have I2 : Inv X pins σ H1 { s1 with heap := h' } := I1.kept (t' := s1.toks) hk
      exact ⟨s1.heap.objs.size + 1, [s1.heap.objs.size + 1, s1.heap.objs.size], _, _, H1, rfl, I2, turn_enum a (s1.heap.objs.size + 1) s1.heap.objs.size, ⟨⟨.none, he⟩, hit, Nat.succ_ne_self _⟩, fun b hb => fpo b (by simpa using hb), q⟩
    · obtain ⟨its, rv, p', hz⟩ := I1.tuple hq
      have hal : a < s1.heap.objs.size := p'.lt
      refine dl_call_enumerate_tuple (show s1.heap.IsTuple a its.toArray from p') fun h' he hit hsz hk => wpAny_pyIter_enum he ?_
      have I2 : Inv X pins σ H1 { s1 with heap := h' } := I1.kept (t' := s1.toks) hk
      exact ⟨s1.heap.objs.size + 1, [s1.heap.objs.size + 1, s1.heap.objs.size], _, _, H1, rfl, I2, turn_enumT a (s1.heap.objs.size + 1) s1.heap.objs.size, ⟨⟨.none, he⟩, hit, Nat.succ_ne_self _, Nat.ne_of_lt (Nat.lt_succ_of_lt hal), Nat.ne_of_lt hal⟩, fun b hb => fpo b (by simpa using hb), q⟩
def YPairX (f g : Nat → Option V) (i : Nat) (H : Hp) (v : V) (H' : Hp) : Prop := ∃ T a b o, v = .ref T ∧ H T = none ∧ Xo o ∧ H' = upd H T (.frz o (.tup [a, b])) ∧ f i = some a ∧ g i = some b
theorem walk_enumT {K : PySem.W.Frag} {a : Addr} {xs : List V} : Walk (IteT K a) xs.length (fun H => SqT K H a xs) (YPairX (fun i => some (.int (i : Nat))) (fun i => xs[i]?)) := by
  refine ⟨fun i _ hi q => ⟨xs, xs[i], q, by simp [hi]⟩, fun _ q => ⟨xs, q, Nat.le_refl _⟩, fun i H v H' _ q y => ?_⟩
  obtain ⟨T, x, o, h1, h2, ho, h3, h4⟩ := y
  exact ⟨T, .int (i : Nat), x, o, h1, h2, ho, h3, rfl, h4 xs q⟩
end DL

set_option Elab.async false
set_option linter.all false
set_option maxRecDepth 100000
set_option maxHeartbeats 4000000
namespace DL
open PySem PySem.Spec PyProof.Rows L2
variable [Wr]
/-! ### targets -/
structure RG (g : TG) (fg : D → En → Option En) (js : List Nat) : Prop where
  go : ∀ (B S0 : Hp) (M : List Addr) (σ : L2.St) (H S : Hp) (ρ : En) (v : V) (d : D) (ρ' : En) (Q : L2.St → Hp → Prop), Rel B S0 M σ H S ρ → Rp S v d → fg d ρ = some ρ' →
    (∀ σ' : L2.St, (∀ i, i ∉ js → σ'[i]? = σ[i]?) → σ'.length = σ.length → Rel B S0 M σ' H S ρ' → Q σ' H) → g v σ H Q
structure RGs (g : TGs) (fg : List D → En → Option En) (js : List Nat) : Prop where
  go : ∀ (B S0 : Hp) (M : List Addr) (σ : L2.St) (H S : Hp) (ρ : En) (v : List V) (d : List D) (ρ' : En) (Q : L2.St → Hp → Prop), Rel B S0 M σ H S ρ → RpL S v d → fg d ρ = some ρ' →
    (∀ σ' : L2.St, (∀ i, i ∉ js → σ'[i]? = σ[i]?) → σ'.length = σ.length → Rel B S0 M σ' H S ρ' → Q σ' H) → g v σ H Q
def gN (j : Nat) : D → En → Option En := fun d ρ => some (ρ.set j (.sh d))
def gsNil : List D → En → Option En
  | [], ρ => some ρ
  | _, _ => none
def gsCons (g : D → En → Option En) (gs : List D → En → Option En) : List D → En → Option En
  | d :: ds, ρ => (g d ρ).bind (gs ds)
  | _, _ => none
def gT (n : Nat) (gs : List D → En → Option En) : D → En → Option En
  | .tuple ds, ρ => if ds.length = n then gs ds ρ else none
  | _, _ => none
theorem rg_name (j : Nat) : RG (gName j) (gN j) [j] := ⟨fun B S0 M σ H S ρ v d ρ' Q R r h k => by
  cases h
  refine k (σ.set j (some v)) (fun i hi => ?_) (by simp) (R.setSh r)
  rw [List.getElem?_set_ne (fun z => hi (by simp [z]))]⟩
theorem rgs_nil : RGs gNil gsNil [] := ⟨fun B S0 M σ H S ρ v d ρ' Q R r h k => by
  cases d with
  | nil => cases h; exact ⟨r, k σ (fun _ _ => rfl) rfl R⟩
  | cons => cases h⟩
theorem rgs_cons {t : TG} {g : D → En → Option En} {js : List Nat} {u : TGs} {gs : List D → En → Option En} {ks : List Nat} (h1 : RG t g js) (h2 : RGs u gs ks) : RGs (gCons t u) (gsCons g gs) (js ++ ks) := ⟨fun B S0 M σ H S ρ v d ρ' Q R r h k => by
  cases d with
  | nil => cases h
  | cons d ds =>
    obtain ⟨w, ws, rfl, r1, r2⟩ := r
    obtain ⟨ρ1, e1, e2⟩ := Option.bind_eq_some_iff.mp (show (g d ρ).bind (gs ds) = some ρ' from h)
    refine ⟨w, ws, rfl, h1.go B S0 M σ H S ρ w d ρ1 _ R r1 e1 fun σ1 c1 l1 R1 => ?_⟩
    refine h2.go B S0 M σ1 H S ρ1 ws ds ρ' Q R1 r2 e2 fun σ2 c2 l2 R2 => ?_
    exact k σ2 (fun i hi => (c2 i fun z => hi (List.mem_append_right _ z)).trans (c1 i fun z => hi (List.mem_append_left _ z))) (l2.trans l1) R2⟩
theorem rg_tup {K : PySem.W.Frag} {n : Nat} {t : TGs} {gs : List D → En → Option En} {js : List Nat} (h : RGs t gs js) : RG (gTup K n t) (gT n gs) js := ⟨fun B S0 M σ H S ρ v d ρ' Q R r e k => by
  unfold gT at e
  split at e
  · split at e
    · rename_i hl
      obtain ⟨a, xs, rfl, h1, r1⟩ := r
      exact ⟨a, xs, rfl, Tp.sq R.sub h1, by rw [r1.length]; exact hl, h.go B S0 M σ H S ρ xs _ ρ' Q R r1 e k⟩
    · cases e
  · cases e⟩
/-! ### what is walked -/
def DW (J : It) (S : Hp) (ds : List D) : Prop := Walk J ds.length (fun H => Ex S H) (fun i H x H' => ∃ d, ds[i]? = some d ∧ ((H' = H ∧ Rp S x d) ∨ ∃ T xs es o, x = .ref T ∧ H T = none ∧ Xo o ∧ H' = upd H T (.frz o (.tup xs)) ∧ d = .tuple es ∧ RpL S xs es))
def AI (ER : Er) (B S0 : Hp) (M : List Addr) (σ : L2.St) (S : Hp) (Q : It → Hp → Prop) : Res (List D × En) → Prop
  | .ok (ds, ρ') => ∀ J H' S', Ex S S' → Rel B S0 M σ H' S' ρ' → DW J S' ds → Q J H'
  | .err c fs => ∀ H', Kp B S0 M H' → ER c fs H'
  | .no => False
structure RI (ER : Er) (t : TI) (f : Fa) : Prop where
  go : ∀ B S0 M σ H S ρ Q, Rel B S0 M σ H S ρ → AI ER B S0 M σ S Q (f ρ) → t σ H Q
section
variable {ER : Er} {ta tb tc te : TE} {fa fb fc : Fd} {fe fe' : Fe} {t u : TT} {ft fu : Ft} {K : PySem.W.Frag} {tr : TA} {fr : Fa}
theorem AD.bindI {B S0 : Hp} {M : List Addr} {σ : L2.St} {S : Hp} {Q : It → Hp → Prop} {Q' : VK} {x : Res (D × En)} {k : D × En → Res (List D × En)} (h : AI ER B S0 M σ S Q (x.bind k))
    (c : ∀ d ρ' v H' S', Ex S S' → Rel B S0 M σ H' S' ρ' → Rp S' v d → AI ER B S0 M σ S' Q (k (d, ρ')) → Q' v H') : AD ER B S0 M σ S Q' x := by
  cases x with
  | ok a =>
    intro v H' S' e R r
    refine c a.1 a.2 v H' S' e R r ?_
    replace h : AI ER B S0 M σ S Q (k a) := h
    show AI ER B S0 M σ S' Q (k a)
    cases hk : k a with
    | ok b => rw [hk] at h; exact fun J H2 S2 e2 R2 w => h J H2 S2 (e.trans e2) R2 w
    | err c fs => rw [hk] at h; exact h
    | no => rw [hk] at h; exact h
  | err c fs => exact h
  | no => exact (show False from h).elim
theorem AA.bindI {B S0 : Hp} {M : List Addr} {σ : L2.St} {S : Hp} {Q : It → Hp → Prop} {Q' : List V → Hp → Prop} {x : Res (List D × En)} {k : List D × En → Res (List D × En)} (h : AI ER B S0 M σ S Q (x.bind k))
    (c : ∀ d ρ' v H' S', Ex S S' → Rel B S0 M σ H' S' ρ' → RpL S' v d → AI ER B S0 M σ S' Q (k (d, ρ')) → Q' v H') : AA ER B S0 M σ S Q' x := by
  cases x with
  | ok a =>
    intro v H' S' e R r
    refine c a.1 a.2 v H' S' e R r ?_
    replace h : AI ER B S0 M σ S Q (k a) := h
    show AI ER B S0 M σ S' Q (k a)
    cases hk : k a with
    | ok b => rw [hk] at h; exact fun J H2 S2 e2 R2 w => h J H2 S2 (e.trans e2) R2 w
    | err c fs => rw [hk] at h; exact h
    | no => rw [hk] at h; exact h
  | err c fs => exact h
  | no => exact (show False from h).elim
/-- a list, a tuple, a text -/
def iSeq (K : PySem.W.Frag) (tl : TE) : TI := fun σ H R => tl σ H fun x H1 => (∃ a, x = .ref a ∧ (∃ xs, SqL K H1 a xs) ∧ R (Itl K a) H1) ∨ (∃ a, x = .ref a ∧ (∃ xs, SqT K H1 a xs) ∧ R (Itt K a) H1) ∨ ∃ z, x = .str z ∧ R (Its z) H1
theorem pi_seq {X : Cx} {tg l : Expr} {tl : TE} (hl : PE X l tl) : PI X tg l (iSeq X.K tl) := by
  refine ⟨fun pins s σ H R I h => ?_⟩
  refine thn (hl.run pins s σ H _ I h) fun v s1 ⟨x, H1, I1, r1, q1⟩ => ?_
  rcases q1 with ⟨a, e, ⟨xs, hq⟩, q⟩ | ⟨a, e, ⟨xs, hq⟩, q⟩ | ⟨z, e, q⟩
  · subst e
    cases r1
    obtain ⟨its, rv, p, hz⟩ := I1.list hq
    refine wpAny_pyIter_list p.isList ?_
    refine ⟨s1.heap.objs.size, [s1.heap.objs.size], _, _, H1, rfl, I1.kept (t' := s1.toks) fun b o e => Heap.get?_push_of_some _ e, turn_list a _, ⟨_, Heap.get?_push_size _ rfl, rfl, rfl⟩, fun b hb => ?_, q⟩
    have e : b = s1.heap.objs.size := by simpa using hb
    subst e
    exact I1.fpOk (Nat.le_refl _) (I1.hok.fresh (Nat.le_refl _))
  · subst e
    cases r1
    obtain ⟨its, rv, p, hz⟩ := I1.tuple hq
    refine wpAny_pyIter_tuple (show s1.heap.IsTuple a its.toArray from p) ?_
    refine ⟨s1.heap.objs.size, [s1.heap.objs.size], _, _, H1, rfl, I1.kept (t' := s1.toks) fun b o e => Heap.get?_push_of_some _ e, turn_tuple a _, ⟨_, Heap.get?_push_size _ rfl, rfl, rfl⟩, fun b hb => ?_, q⟩
    have e : b = s1.heap.objs.size := by simpa using hb
    subst e
    exact I1.fpOk (Nat.le_refl _) (I1.hok.fresh (Nat.le_refl _))
  · subst e
    obtain ⟨t, rfl⟩ := r1
    cases ha : z.cps.all (· < 128)
    · exact wpAny_pyIter_wide ha (pi_one (tk := s1.toks) I1 _ (turn_str _ z t "str_iterator" (.inr rfl)) ⟨_, Heap.get?_push_size _ rfl, rfl, rfl⟩ q)
    · exact wpAny_pyIter_ascii ha (pi_one (tk := s1.toks) I1 _ (turn_str _ z t "str_ascii_iterator" (.inl rfl)) ⟨_, Heap.get?_push_size _ rfl, rfl, rfl⟩ q)
def seqOf : D → Option (List D)
  | .list ds => some ds
  | .tuple ds => some ds
  | .str z => some (z.cps.toList.map fun c => .str ⟨#[c]⟩)
  | _ => none
def optL (o : Option (List D)) (ρ : En) : Res (List D × En) := match o with
  | some ds => .ok (ds, ρ)
  | none => .no
def dSeq (fa : Fd) : Fa := fun ρ => (fa ρ).bind fun p => optL (seqOf p.1) p.2
theorem dw_items {J : It} {S : Hp} {xs : List V} {ds : List D} (r : RpL S xs ds) {G : Hp → Prop} (w : Walk J xs.length G (YAt xs)) (g : ∀ H, Ex S H → G H) : DW J S ds := by
  unfold DW
  rw [← r.length]
  refine w.mono g fun i H x H' _ _ y => ?_
  obtain ⟨e, hx⟩ := y
  obtain ⟨d, h1, h2⟩ := r.getV hx
  exact ⟨d, h1, .inl ⟨e, h2⟩⟩
theorem ri_seq (h : RD ER ta fa) : RI ER (iSeq K ta) (dSeq fa) := ⟨fun B S0 M σ H S ρ Q R a => by
  refine h.go B S0 M σ H S ρ _ R (AD.bindI a fun d ρ1 x H1 S1 e1 R1 r1 a1 => ?_)
  replace a1 : AI ER B S0 M σ S1 Q (optL (seqOf d) ρ1) := a1
  cases d with
  | list ds =>
    obtain ⟨p, xs, rfl, h1, r⟩ := r1
    exact .inl ⟨p, rfl, ⟨xs, SqL.of (R1.sub _ _ h1)⟩, a1 _ H1 S1 (Ex.refl S1) R1 (dw_items r (walk_list (K := K) (a := p)) fun H' e => SqL.of (e _ _ h1))⟩
  | tuple ds =>
    obtain ⟨p, xs, rfl, h1, r⟩ := r1
    exact .inr (.inl ⟨p, rfl, ⟨xs, Tp.sq R1.sub h1⟩, a1 _ H1 S1 (Ex.refl S1) R1 (dw_items r (walk_tup (K := K) (a := p)) fun H' e => Tp.sq e h1)⟩)
  | str z =>
    refine .inr (.inr ⟨z, r1, a1 _ H1 S1 (Ex.refl S1) R1 ?_⟩)
    show Walk _ _ _ _
    have hl : (z.cps.toList.map fun c => (.str ⟨#[c]⟩ : D)).length = z.cps.size := by simp
    rw [hl]
    refine walk_str.mono (fun _ _ => trivial) fun i H' x H'' _ _ y => ?_
    obtain ⟨e, c, hc, hv⟩ := y
    exact ⟨.str ⟨#[c]⟩, by simp [hc], .inl ⟨e, hv⟩⟩
  | _ => exact (show False from a1).elim⟩
/-- range -/
def rngD (lo hi : Int) : List D := (List.range (hi - lo).toNat).map fun (i : Nat) => .int (lo + (i : Int))
def rng1 : List D → Option (List D)
  | [.int j] => if s62 j = true then some (rngD 0 j) else none
  | _ => none
def rng2 : List D → Option (List D)
  | [.int i, .int j] => if (s62 i && s62 j) = true then some (rngD i j) else none
  | _ => none
def dRng1 (f : Fa) : Fa := fun ρ => (f ρ).bind fun p => optL (rng1 p.1) p.2
def dRng2 (f : Fa) : Fa := fun ρ => (f ρ).bind fun p => optL (rng2 p.1) p.2
theorem dw_range {S : Hp} (lo hi : Int) : DW (Itr lo (hi - lo).toNat) S (rngD lo hi) := by
  unfold DW
  have hl : (rngD lo hi).length = (hi - lo).toNat := by simp [rngD]
  rw [hl]
  refine walk_range.mono (fun _ _ => trivial) fun i H' x H'' hi' _ y => ?_
  obtain ⟨e, hv⟩ := y
  exact ⟨.int (lo + i), by simp [rngD, hi'], .inl ⟨e, hv⟩⟩
theorem ri_rng1 (h : RA ER tr fr) : RI ER (iRng1 tr) (dRng1 fr) := ⟨fun B S0 M σ H S ρ Q R a => by
  refine h.go B S0 M σ H S ρ _ R (AA.bindI a fun ds ρ1 xs H1 S1 e1 R1 r1 a1 => ?_)
  replace a1 : AI ER B S0 M σ S1 Q (optL (rng1 ds) ρ1) := a1
  unfold rng1 at a1
  split at a1
  · rename_i j
    split at a1
    · rename_i hz
      obtain ⟨v, rfl, r2⟩ := RpL.one_inv r1
      rw [show v = .int j from r2]
      refine ⟨j, rfl, (s62_ok hz).1, (s62_ok hz).2, a1 _ H1 S1 (Ex.refl S1) R1 ?_⟩
      have := dw_range (S := S1) 0 j
      rw [Int.sub_zero] at this
      exact this
    · exact (show False from a1).elim
  · exact (show False from a1).elim⟩
theorem ri_rng2 (h : RA ER tr fr) : RI ER (iRng2 tr) (dRng2 fr) := ⟨fun B S0 M σ H S ρ Q R a => by
  refine h.go B S0 M σ H S ρ _ R (AA.bindI a fun ds ρ1 xs H1 S1 e1 R1 r1 a1 => ?_)
  replace a1 : AI ER B S0 M σ S1 Q (optL (rng2 ds) ρ1) := a1
  unfold rng2 at a1
  split at a1
  · rename_i i j
    split at a1
    · rename_i hz
      have hz' := Bool.and_eq_true_iff.mp hz
      obtain ⟨v, w, rfl, r2, r3⟩ := RpL.two_inv r1
      rw [show v = .int i from r2, show w = .int j from r3]
      exact ⟨i, j, rfl, ⟨(s62_ok hz'.1).1, (s62_ok hz'.1).2, (s62_ok hz'.2).1, (s62_ok hz'.2).2⟩, a1 _ H1 S1 (Ex.refl S1) R1 (dw_range i j)⟩
    · exact (show False from a1).elim
  · exact (show False from a1).elim⟩
/-- enumerate, zip -/
def enumD (ds : List D) : List D := (List.range ds.length).map fun i => .tuple [.int (i : Nat), ds.getD i .none]
def zipD (ds es : List D) : List D := (ds.zip es).map fun p => .tuple [p.1, p.2]
def enumOf : List D → Option (List D)
  | [.tuple ds] => some (enumD ds)
  | _ => none
def zipOf : List D → Option (List D)
  | [.list ds, .list es] => some (zipD ds es)
  | [.tuple ds, .tuple es] => some (zipD ds es)
  | _ => none
def dEnum (f : Fa) : Fa := fun ρ => (f ρ).bind fun p => optL (enumOf p.1) p.2
def dZip (f : Fa) : Fa := fun ρ => (f ρ).bind fun p => optL (zipOf p.1) p.2
theorem dw_enum {J : It} {S : Hp} {xs : List V} {ds : List D} (r : RpL S xs ds) {G : Hp → Prop} (w : Walk J xs.length G (YPairX (fun i => some (.int (i : Nat))) (fun i => xs[i]?))) (g : ∀ H, Ex S H → G H) : DW J S (enumD ds) := by
  unfold DW
  have hl : (enumD ds).length = xs.length := by rw [r.length]; simp [enumD]
  rw [hl]
  refine w.mono g fun i H x H' hi _ y => ?_
  obtain ⟨T, a, b, o, h1, h2, ho, h3, h4, h5⟩ := y
  obtain ⟨d, hd, rd⟩ := r.getV h5
  have hi' : i < ds.length := by rw [← r.length]; exact hi
  cases h4
  refine ⟨.tuple [.int (i : Nat), d], ?_, .inr ⟨T, _, _, o, h1, h2, ho, h3, rfl, .cons rfl (.cons rd .nil)⟩⟩
  have hd' : ds[i] = d := by
    rw [List.getElem?_eq_getElem hi'] at hd; exact Option.some.inj hd
  simp [enumD, hi', hd']
theorem ri_enum (h : RA ER tr fr) : RI ER (iEnumA K tr) (dEnum fr) := ⟨fun B S0 M σ H S ρ Q R a => by
  refine h.go B S0 M σ H S ρ _ R (AA.bindI a fun ds ρ1 xs H1 S1 e1 R1 r1 a1 => ?_)
  replace a1 : AI ER B S0 M σ S1 Q (optL (enumOf ds) ρ1) := a1
  unfold enumOf at a1
  split at a1
  · obtain ⟨v, rfl, p, ys, rfl, h1, r⟩ := RpL.one_inv r1
    exact ⟨p, ys, rfl, .inr ⟨Tp.sq R1.sub h1, a1 _ H1 S1 (Ex.refl S1) R1 (dw_enum r (walk_enumT (K := K) (a := p)) fun H' e => Tp.sq e h1)⟩⟩
  · exact (show False from a1).elim⟩
end
end DL

set_option Elab.async false
set_option linter.all false
set_option maxRecDepth 100000
set_option maxHeartbeats 4000000
namespace DL
open PySem PySem.Spec PyProof.Rows L2
variable [Wr]
section
variable {ER : Er} {ta tb tc te : TE} {fa fb fc : Fd} {fe fe' : Fe} {t u : TT} {ft fu : Ft} {K : PySem.W.Frag} {tr : TA} {fr : Fa} {ts us : TS} {fs gs : Fs}
/-! ### small statements -/
def onR {α : Type} (x : Res (α × En)) (k : α → En → Out) : Out := match x with
  | .ok (a, ρ) => k a ρ
  | .err c fs => .err c fs
  | .no => .no
theorem AE.bindS {B S0 : Hp} {M : List Addr} {σ : L2.St} {S : Hp} {E : Ends} {Q : VK} {x : Res (Rv × En)} {k : Rv → En → Out}
    (h : AS ER B S0 M S E (onR x k))
    (c : ∀ rv ρ' v H' S', Ex S S' → Rel B S0 M σ H' S' ρ' → Good B M σ H' S' ρ' v rv → AS ER B S0 M S' E (k rv ρ') → Q v H') : AE ER B S0 M σ S Q x := by
  cases x with
  | ok a => exact fun v H' S' e R g => c a.1 a.2 v H' S' e R g (AS.later e h)
  | err c fs => exact h
  | no => exact (show False from h).elim
theorem AT.bindS {B S0 : Hp} {M : List Addr} {σ : L2.St} {S : Hp} {E : Ends} {Q : Bool → Hp → Prop} {x : Res (Bool × En)} {k : Bool → En → Out}
    (h : AS ER B S0 M S E (onR x k))
    (c : ∀ rv ρ' H' S', Ex S S' → Rel B S0 M σ H' S' ρ' → AS ER B S0 M S' E (k rv ρ') → Q rv H') : AT ER B S0 M σ S Q x := by
  cases x with
  | ok a => exact fun H' S' e R => c a.1 a.2 H' S' e R (AS.later e h)
  | err c fs => exact h
  | no => exact (show False from h).elim
theorem AD.bindS {B S0 : Hp} {M : List Addr} {σ : L2.St} {S : Hp} {E : Ends} {Q : VK} {x : Res (D × En)} {k : D → En → Out}
    (h : AS ER B S0 M S E (onR x k))
    (c : ∀ d ρ' v H' S', Ex S S' → Rel B S0 M σ H' S' ρ' → Rp S' v d → AS ER B S0 M S' E (k d ρ') → Q v H') : AD ER B S0 M σ S Q x := by
  cases x with
  | ok a => exact fun v H' S' e R g => c a.1 a.2 v H' S' e R g (AS.later e h)
  | err c fs => exact h
  | no => exact (show False from h).elim
def setRv (i : Nat) (rv : Rv) (ρ : En) : En := match rv with
  | .sh d => ρ.set i (.sh d)
  | .fr ds => ρ.set i (.ow ds)
  | .fk kvs => ρ.set i (.od kvs)
def sAsg (i : Nat) (f : Fe) : Fs := fun ρ => onR (f ρ) fun rv ρ' => .nx (setRv i rv ρ')
def sDrop (f : Fe) : Fs := fun ρ => onR (f ρ) fun _ ρ' => .nx ρ'
def sRet (f : Fe) : Fs := fun ρ => onR (f ρ) fun rv ρ' => .rt rv ρ'
def sPass : Fs := fun ρ => .nx ρ
def sBrk : Fs := fun ρ => .bk ρ
def sCnt : Fs := fun ρ => .ct ρ
def sIf (f : Ft) (a b : Fs) : Fs := fun ρ => onR (f ρ) fun c ρ' => if c = true then a ρ' else b ρ'
def sSeq (a b : Fs) : Fs := fun ρ => match a ρ with
  | .nx ρ' => b ρ'
  | o => o
theorem Rel.setRv {B S0 : Hp} {M : List Addr} {σ : L2.St} {H S : Hp} {ρ : En} {rv : Rv} {v : V} (R : Rel B S0 M σ H S ρ) (i : Nat) (g : Good B M σ H S ρ v rv) : Rel B S0 M (σ.set i (some v)) H S (DL.setRv i rv ρ) := by
  cases rv with
  | sh d => exact R.setSh g
  | fr ds =>
    obtain ⟨p, vs, rfl, h1, h2, h3, h4, h5, h6⟩ := g
    exact R.setOwn (s0 := .ow ds) ⟨p, vs, rfl, h1, h3, h2, h4, h5⟩ h6
  | fk kvs =>
    obtain ⟨p, vs, rfl, h1, h2, h3, h4, h5, h6⟩ := g
    exact R.setOwn (s0 := .od kvs) ⟨p, vs, rfl, h1, h3, h2, h4, h5⟩ h6
theorem rs_asg (i : Nat) (h : RE ER te fe) : RS ER (tAsg te (gName i)) (sAsg i fe) := ⟨fun B S0 M σ H S ρ E R a =>
  h.go B S0 M σ H S ρ _ R (AE.bindS a fun rv ρ' v H' S' e R1 g a1 => a1 _ H' S' (Ex.refl S') (R1.setRv i g))⟩
theorem rs_drop (h : RE ER te fe) : RS ER (tDrop te) (sDrop fe) := ⟨fun B S0 M σ H S ρ E R a =>
  h.go B S0 M σ H S ρ _ R (AE.bindS a fun rv ρ' v H' S' e R1 g a1 => a1 σ H' S' (Ex.refl S') R1)⟩
theorem rs_ret (h : RE ER te fe) : RS ER (tRet te) (sRet fe) := ⟨fun B S0 M σ H S ρ E R a =>
  h.go B S0 M σ H S ρ _ R (AE.bindS a fun rv ρ' v H' S' e R1 g a1 => a1 v σ H' S' (Ex.refl S') R1 g)⟩
theorem rs_pass : RS ER tNext sPass := ⟨fun B S0 M σ H S ρ E R a => a σ H S (Ex.refl S) R⟩
theorem rs_brk : RS ER tBreak sBrk := ⟨fun B S0 M σ H S ρ E R a => a σ H S (Ex.refl S) R⟩
theorem rs_cnt : RS ER tCont sCnt := ⟨fun B S0 M σ H S ρ E R a => a σ H S (Ex.refl S) R⟩
theorem rs_never : RS ER tNever (fun _ => .no) := ⟨fun B S0 M σ H S ρ E R a => (show False from a).elim⟩
theorem rs_if (h : RT ER t ft) (ha : RS ER ts fs) (hb : RS ER us gs) : RS ER (tIfS t ts us) (sIf ft fs gs) := ⟨fun B S0 M σ H S ρ E R a => by
  refine h.go B S0 M σ H S ρ _ R (AT.bindS a fun b ρ' H' S' e R1 a1 => ?_)
  cases b with
  | true => exact ha.go B S0 M σ H' S' ρ' E R1 a1
  | false => exact hb.go B S0 M σ H' S' ρ' E R1 a1⟩
theorem rs_seq (ha : RS ER ts fs) (hb : RS ER us gs) : RS ER (tSeq ts us) (sSeq fs gs) := ⟨fun B S0 M σ H S ρ E R a => by
  refine ha.go B S0 M σ H S ρ _ R ?_
  unfold sSeq at a
  cases e : fs ρ with
  | nx ρ' =>
    rw [e] at a
    exact fun σ' H' S' e1 R1 => hb.go B S0 M σ' H' S' ρ' E R1 (AS.later e1 a)
  | rt rv ρ' => rw [e] at a; exact a
  | bk ρ' => rw [e] at a; exact a
  | ct ρ' => rw [e] at a; exact a
  | err c fs => rw [e] at a; exact a
  | no => rw [e] at a; exact a⟩
/-! ### for -/
def sLoop (fg : D → En → Option En) (fb : Fs) : List D → En → Out
  | [], ρ => .nx ρ
  | d :: ds, ρ => match fg d ρ with
    | none => .no
    | some ρ1 => match fb ρ1 with
      | .nx ρ2 => sLoop fg fb ds ρ2
      | .ct ρ2 => sLoop fg fb ds ρ2
      | .bk ρ2 => .nx ρ2
      | .rt rv ρ2 => .rt rv ρ2
      | .err c fs => .err c fs
      | .no => .no
def sFor (fi : Fa) (fg : D → En → Option En) (fb : Fs) : Fs := fun ρ => onR (fi ρ) fun ds ρ' => sLoop fg fb ds ρ'
theorem rs_for {wi : TI} {fi : Fa} {g : TG} {fg : D → En → Option En} {js : List Nat} (hi : RI ER wi fi) (hg : RG g fg js) (hb : RS ER ts fs) : RS ER (tFor wi g ts) (sFor fi fg fs) := ⟨fun B S0 M σ H S ρ E R a => by
  refine hi.go B S0 M σ H S ρ _ R ?_
  unfold sFor at a
  cases e : fi ρ with
  | err c fs => rw [e] at a; exact a
  | no => rw [e] at a; exact (show False from a).elim
  | ok p =>
    obtain ⟨ds, ρ0⟩ := p
    rw [e] at a
    replace a : AS ER B S0 M S E (sLoop fg fs ds ρ0) := a
    intro J H1 S1 e1 R1 w
    refine for_it w (fun i σ' H' => ∃ S' ρ', Ex S1 S' ∧ Rel B S0 M σ' H' S' ρ' ∧ AS ER B S0 M S' E (sLoop fg fs (ds.drop i) ρ')) ⟨S1, ρ0, Ex.refl S1, R1, AS.later e1 a⟩ ?_ ?_ ?_
    · rintro i σ' H' _ ⟨S', ρ', e2, R2, _⟩
      exact e2.trans R2.sub
    · rintro i x σ' H' H'' hi' ⟨S', ρ', e2, R2, a2⟩ ⟨d, hd, y⟩
      have hdr : ds.drop i = d :: ds.drop (i + 1) := by
        have hlt : i < ds.length := hi'
        rw [List.drop_eq_getElem_cons hlt]
        rw [List.getElem?_eq_getElem hlt] at hd
        rw [Option.some.inj hd]
      rw [hdr] at a2
      obtain ⟨S2, e3, R3, r3⟩ : ∃ S2, Ex S' S2 ∧ Rel B S0 M σ' H'' S2 ρ' ∧ Rp S2 x d := by
        rcases y with ⟨rfl, r⟩ | ⟨T, xs, es, ob, rfl, hT, hob, rfl, rfl, r⟩
        · exact ⟨S', Ex.refl S', R2, Rp.mono e2 _ r⟩
        · exact ⟨upd S' T (.frz ob (.tup xs)), Ex.new (R2.fresh hT).2, R2.pub hT, Rp.tup ⟨ob, upd_same, hob⟩ (RpL.mono (e2.trans (Ex.new (R2.fresh hT).2)) _ r)⟩
      have a3 : AS ER B S0 M S2 E (sLoop fg fs (d :: ds.drop (i + 1)) ρ') := AS.later e3 a2
      unfold sLoop at a3
      cases eg : fg d ρ' with
      | none => rw [eg] at a3; exact (show False from a3).elim
      | some ρ1 =>
        rw [eg] at a3
        refine hg.go B S0 M σ' H'' S2 ρ' x d ρ1 _ R3 r3 eg fun σ2 _ _ R4 => ?_
        refine hb.go B S0 M σ2 H'' S2 ρ1 _ R4 ?_
        simp only at a3
        cases eb : fs ρ1 with
        | nx ρ2 => rw [eb] at a3; exact fun σ3 H3 S3 e5 R5 => ⟨S3, ρ2, (e2.trans e3).trans e5, R5, AS.later e5 a3⟩
        | ct ρ2 => rw [eb] at a3; exact fun σ3 H3 S3 e5 R5 => ⟨S3, ρ2, (e2.trans e3).trans e5, R5, AS.later e5 a3⟩
        | bk ρ2 => rw [eb] at a3; exact a3
        | rt rv ρ2 => rw [eb] at a3; exact a3
        | err c fs => rw [eb] at a3; exact a3
        | no => rw [eb] at a3; exact a3
    · rintro σ' H' ⟨S', ρ', e2, R2, a2⟩
      rw [List.drop_length] at a2
      exact a2 σ' H' S' (Ex.refl S') R2⟩
/-! ### while -/
def sWhile (ft : Ft) (fb : Fs) : Nat → Fs
  | 0, _ => .no
  | n + 1, ρ => onR (ft ρ) fun b ρ1 => if b = true then (match fb ρ1 with
    | .nx ρ2 => sWhile ft fb n ρ2
    | .ct ρ2 => sWhile ft fb n ρ2
    | .bk ρ2 => .nx ρ2
    | .rt rv ρ2 => .rt rv ρ2
    | .err c fs => .err c fs
    | .no => .no) else .nx ρ1
theorem rs_while (n : Nat) (h : RT ER t ft) (hb : RS ER ts fs) : RS ER (tWhile t ts) (sWhile ft fs n) := ⟨fun B S0 M σ H S ρ E R a => by
  refine ⟨fun m σ' H' => ∃ S' ρ', Ex S S' ∧ Rel B S0 M σ' H' S' ρ' ∧ AS ER B S0 M S' E (sWhile ft fs m ρ'), ⟨n, S, ρ, Ex.refl S, R, a⟩, ?_⟩
  rintro m σ' H' ⟨S', ρ', e1, R1, a1⟩
  cases m with
  | zero => exact (show False from a1).elim
  | succ m =>
    replace a1 : AS ER B S0 M S' E (onR (ft ρ') fun b ρ1 => if b = true then (match fs ρ1 with
      | .nx ρ2 => sWhile ft fs m ρ2
      | .ct ρ2 => sWhile ft fs m ρ2
      | .bk ρ2 => .nx ρ2
      | .rt rv ρ2 => .rt rv ρ2
      | .err c fs => .err c fs
      | .no => .no) else .nx ρ1) := a1
    refine h.go B S0 M σ' H' S' ρ' _ R1 (AT.bindS a1 fun b ρ1 H2 S2 e2 R2 a2 => ?_)
    cases b with
    | false => exact a2 σ' H2 S2 (Ex.refl S2) R2
    | true =>
      simp only [if_true] at a2 ⊢
      refine ⟨fun σ2 H3 => ∃ S3 ρ3, Ex S S3 ∧ Rel B S0 M σ2 H3 S3 ρ3 ∧ AS ER B S0 M S3 E (sWhile ft fs m ρ3), fun σ2 H3 z => ⟨m, Nat.lt_succ_self m, z⟩, ?_⟩
      refine hb.go B S0 M σ' H2 S2 ρ1 _ R2 ?_
      cases eb : fs ρ1 with
      | nx ρ2 => rw [eb] at a2; exact fun σ3 H3 S3 e5 R5 => ⟨S3, ρ2, (e1.trans e2).trans e5, R5, AS.later e5 a2⟩
      | ct ρ2 => rw [eb] at a2; exact fun σ3 H3 S3 e5 R5 => ⟨S3, ρ2, (e1.trans e2).trans e5, R5, AS.later e5 a2⟩
      | bk ρ2 => rw [eb] at a2; exact a2
      | rt rv ρ2 => rw [eb] at a2; exact a2
      | err c fs => rw [eb] at a2; exact a2
      | no => rw [eb] at a2; exact a2⟩
end
/-! ### comprehensions -/
def wipeE (ρ : En) : List Nat → En
  | [] => ρ
  | v :: vs => (wipeE ρ vs).set v .no
theorem Rel.wipe {B S0 : Hp} {M : List Addr} {σ : L2.St} {H S : Hp} {ρ : En} (R : Rel B S0 M σ H S ρ) : ∀ vs : List Nat, Rel B S0 M (L2.wipe σ vs) H S (wipeE ρ vs)
  | [] => R
  | v :: vs => (R.wipe vs).setNo none
theorem wipe_get {σ : L2.St} {i : Nat} : ∀ {vs : List Nat}, i ∉ vs → (wipe σ vs)[i]? = σ[i]?
  | [], _ => rfl
  | v :: vs, h => by
    have h1 : v ≠ i := fun z => h (by simp [z])
    have h2 : i ∉ vs := fun z => h (by simp [z])
    show ((wipe σ vs).set v none)[i]? = _
    rw [List.getElem?_set_ne h1, wipe_get h2]
theorem wipe_in {σ : L2.St} {i : Nat} : ∀ {vs : List Nat}, i ∈ vs → i < σ.length → (wipe σ vs)[i]? = some none
  | v :: vs, h, hl => by
    show ((wipe σ vs).set v none)[i]? = _
    by_cases e : v = i
    · subst e
      rw [List.getElem?_set_self (by rw [wipe_length]; exact hl)]
    · rw [List.getElem?_set_ne e]
      exact wipe_in ((List.mem_cons.mp h).resolve_left fun z => e z.symm) hl
theorem wipe_same {σ σ' : L2.St} {vs js : List Nat} (hl : σ'.length = σ.length) (h : ∀ i, i ∉ js → σ'[i]? = σ[i]?) (hs : ∀ j ∈ js, j ∈ vs) : wipe σ' vs = wipe σ vs := by
  apply List.ext_getElem?
  intro i
  by_cases hi : i ∈ vs
  · by_cases hz : i < σ.length
    · rw [wipe_in hi hz, wipe_in hi (by rw [hl]; exact hz)]
    · rw [List.getElem?_eq_none (by rw [wipe_length, hl]; omega), List.getElem?_eq_none (by rw [wipe_length]; omega)]
  · rw [wipe_get hi, wipe_get hi]
    exact h i fun z => hi (hs i z)
/-- behind the block: its own names are as they were, if they held something shared -/
def backE (ρ0 ρ : En) : List Nat → En
  | [] => ρ
  | v :: vs => (backE ρ0 ρ vs).set v (match ρ0[v]? with
    | some (.sh d) => .sh d
    | _ => .no)
theorem backE_length (ρ0 ρ : En) : ∀ vs, (backE ρ0 ρ vs).length = ρ.length
  | [] => rfl
  | v :: vs => by show ((backE ρ0 ρ vs).set v _).length = _; rw [List.length_set, backE_length ρ0 ρ vs]
theorem backE_out (ρ0 ρ : En) {i : Nat} : ∀ {vs : List Nat}, i ∉ vs → (backE ρ0 ρ vs)[i]? = ρ[i]?
  | [], _ => rfl
  | v :: vs, h => by
    show ((backE ρ0 ρ vs).set v _)[i]? = _
    rw [List.getElem?_set_ne (fun z => h (by simp [z])), backE_out ρ0 ρ fun z => h (by simp [z])]
theorem backE_in (ρ0 ρ : En) {i : Nat} {s : Sl} : ∀ {vs : List Nat}, i ∈ vs → (backE ρ0 ρ vs)[i]? = some s → s = .no ∨ ∃ d, s = .sh d ∧ ρ0[i]? = some (.sh d)
  | v :: vs, h, e => by
    replace e : ((backE ρ0 ρ vs).set v (match ρ0[v]? with
      | some (.sh d) => .sh d
      | _ => .no))[i]? = some s := e
    rcases getElem?_set_cases e with ⟨rfl, rfl, _⟩ | ⟨ne, e'⟩
    · split
      · rename_i d hd
        exact .inr ⟨d, rfl, hd⟩
      · exact .inl rfl
    · exact backE_in ρ0 ρ ((List.mem_cons.mp h).resolve_left fun z => ne z.symm) e'
theorem Rel.back {B S0 : Hp} {M : List Addr} {σ : L2.St} {H S H0 S' : Hp} {ρ0 ρ : En} {vs : List Nat} (R0 : Rel B S0 M σ H0 S' ρ0) (e : Ex S' S) (R : Rel B S0 M (L2.wipe σ vs) H S ρ) : Rel B S0 M σ H S (backE ρ0 ρ vs) where
  sub := R.sub
  s0 := R.s0
  keep := R.keep
  there := R.there
  base := R.base
  tabs := R.tabs
  len := by rw [backE_length, ← R.len, wipe_length]
  ats := fun i s h => by
    by_cases hi : i ∈ vs
    · rcases backE_in ρ0 ρ hi h with rfl | ⟨d, rfl, hd⟩
      · trivial
      · obtain ⟨v, ev, r⟩ := R0.ats i _ hd
        exact ⟨v, ev, Rp.mono e _ r⟩
    · rw [backE_out ρ0 ρ hi] at h
      have q := R.ats i s h
      rw [wipe_get hi] at q
      exact q
  apart := fun i j s s' l ij h1 h2 o1 o2 q1 q2 => by
    have out : ∀ (k : Nat) (t : Sl), (backE ρ0 ρ vs)[k]? = some t → t.own = true → k ∉ vs := fun k t hk ot hi => by
      rcases backE_in ρ0 ρ hi hk with rfl | ⟨d, rfl, _⟩
      · cases ot
      · cases ot
    have n1 := out i s h1 o1
    have n2 := out j s' h2 o2
    rw [backE_out ρ0 ρ n1] at h1
    rw [backE_out ρ0 ρ n2] at h2
    exact R.apart i j s s' l ij h1 h2 o1 o2 (by rw [wipe_get n1]; exact q1) (by rw [wipe_get n2]; exact q2)
/-- an object of nobody's is written -/
theorem Rel.writeN {B S0 : Hp} {M : List Addr} {σ : L2.St} {H S : Hp} {ρ : En} {p : Addr} {o : HO} (R : Rel B S0 M σ H S ρ) (n : Nobody B M σ S ρ p) : Rel B S0 M σ (upd H p o) S ρ where
  sub := fun a u q => by rw [upd_ne (ne_of_none q n.1)]; exact R.sub a u q
  s0 := R.s0
  keep := fun a u q m => by rw [upd_ne (ne_of_none q n.2.1)]; exact R.keep a u q m
  there := fun a m => by
    rw [upd_ne (fun z => n.2.2.1 (by rw [← z]; exact m))]; exact R.there a m
  base := R.base
  len := R.len
  ats := fun i s q => (R.ats i s q).mono (Ex.refl S) fun l u e ow h1 h2 => ⟨by rw [upd_ne (fun z => n.2.2.2 i s q ow (by rw [e, z]))]; exact h1, h2⟩
  tabs := R.tabs.mono (Ex.refl S) fun q _ ps h1 h2 h3 => ⟨h1, (upd_ne fun z => n.2.2.1 (by rw [← z]; exact h1)).trans h3, h2⟩
  apart := R.apart
section
variable {ER : Er} {ta tb tc te : TE} {fa fb fc : Fd} {fe fe' : Fe} {tt u : TT} {ft fu : Ft} {K : PySem.W.Frag}
def lcLoop (fg : D → En → Option En) (ft : Ft) (fe : Fd) (vs : List Nat) : List D → En → List D → Res (List D × En)
  | [], ρ, acc => .ok (acc, ρ)
  | d :: ds, ρ, acc => match fg d ρ with
    | none => .no
    | some ρ1 => match ft ρ1 with
      | .ok (true, ρ2) => (match fe ρ2 with
        | .ok (y, ρ3) => if szOk acc.length = true then lcLoop fg ft fe vs ds (wipeE ρ3 vs) (acc ++ [y]) else .no
        | _ => .no)
      | .ok (false, ρ2) => lcLoop fg ft fe vs ds (wipeE ρ2 vs) acc
      | _ => .no
def dLc (fi : Fa) (fg : D → En → Option En) (ft : Ft) (fe : Fd) (vs : List Nat) : Fe := fun ρ => (fi ρ).bind fun p => (lcLoop fg ft fe vs p.1 (wipeE p.2 vs) []).bind fun q => .ok (.fr q.1, backE p.2 q.2 vs)
abbrev ER0 : Er := fun _ _ _ => False
theorem re_lc {wi : TI} {fi : Fa} {g : TG} {fg : D → En → Option En} {js vs : List Nat} (hi : RI ER wi fi) (hg : RG g fg js) (hj : ∀ j ∈ js, j ∈ vs) (ht : RT ER0 tt ft) (he : RD ER0 te fa) : RE ER (tLc wi g tt te vs) (dLc fi fg ft fa vs) := ⟨fun B S0 M σ H S ρ Q R a => by
  refine hi.go B S0 M σ H S ρ _ R ?_
  unfold dLc at a
  cases e : fi ρ with
  | err c fs => rw [e] at a; exact a
  | no => rw [e] at a; exact (show False from a).elim
  | ok p =>
    obtain ⟨ds, ρ0⟩ := p
    rw [e] at a
    replace a : AE ER B S0 M σ S Q ((lcLoop fg ft fa vs ds (wipeE ρ0 vs) []).bind fun q => .ok (.fr q.1, backE ρ0 q.2 vs)) := a
    intro J H1 S1 e1 R1 w L hL
    have W0 := R1.wipe vs
    refine lc_it w (fun i H' => ∃ S' ρ' acc dacc, Ex S1 S' ∧ H' L = some (.lst acc) ∧ RpL S' acc dacc ∧ Nobody B M (wipe σ vs) S' ρ' L ∧ Rel B S0 M (wipe σ vs) H' S' ρ' ∧ AE ER B S0 M σ S' Q ((lcLoop fg ft fa vs (ds.drop i) ρ' dacc).bind fun q => .ok (.fr q.1, backE ρ0 q.2 vs)))
      ⟨S1, wipeE ρ0 vs, [], [], Ex.refl S1, upd_same, RpL.nil, W0.nobody hL, W0.lay hL, AE.later e1 a⟩ ?_ ?_ ?_
    · rintro i H' _ ⟨S', ρ', acc, dacc, e2, _, _, _, R2, _⟩
      exact e2.trans R2.sub
    · rintro i x H' H'' hi' ⟨S', ρ', acc, dacc, e2, hacc, racc, nb, R2, a2⟩ ⟨d, hd, y⟩
      have hdr : ds.drop i = d :: ds.drop (i + 1) := by
        have hlt : i < ds.length := hi'
        rw [List.drop_eq_getElem_cons hlt]
        rw [List.getElem?_eq_getElem hlt] at hd
        rw [Option.some.inj hd]
      rw [hdr] at a2
      have P2 := R2.pin hacc nb.1 nb.2.2.1 nb.2.2.2
      obtain ⟨S2, e3, R3, r3⟩ : ∃ S2, Ex S' S2 ∧ Rel (upd B L (.lst acc)) S0 M (wipe σ vs) H'' S2 ρ' ∧ Rp S2 x d := by
        rcases y with ⟨rfl, r⟩ | ⟨T, xs, es, ob, rfl, hT, hob, rfl, rfl, r⟩
        · exact ⟨S', Ex.refl S', P2, Rp.mono e2 _ r⟩
        · exact ⟨upd S' T (.frz ob (.tup xs)), Ex.new (P2.fresh hT).2, P2.pub hT, Rp.tup ⟨ob, upd_same, hob⟩ (RpL.mono (e2.trans (Ex.new (P2.fresh hT).2)) _ r)⟩
      have a3 : AE ER B S0 M σ S2 Q ((lcLoop fg ft fa vs (d :: ds.drop (i + 1)) ρ' dacc).bind fun q => .ok (.fr q.1, backE ρ0 q.2 vs)) := AE.later e3 a2
      unfold lcLoop at a3
      cases eg : fg d ρ' with
      | none => rw [eg] at a3; exact (show False from a3).elim
      | some ρ1 =>
        rw [eg] at a3
        refine hg.go (upd B L (.lst acc)) S0 M (wipe σ vs) H'' S2 ρ' x d ρ1 _ R3 r3 eg fun σ2 c2 l2 R4 => ?_
        have ws : wipe σ2 vs = wipe (wipe σ vs) vs := wipe_same l2 c2 hj
        have ww : wipe (wipe σ vs) vs = wipe σ vs := by
          apply List.ext_getElem?
          intro k
          by_cases hk : k ∈ vs
          · by_cases hz : k < σ.length
            · rw [wipe_in hk (by rw [wipe_length]; exact hz), wipe_in hk hz]
            · rw [List.getElem?_eq_none (by rw [wipe_length, wipe_length]; omega), List.getElem?_eq_none (by rw [wipe_length]; omega)]
          · rw [wipe_get hk]
        have ws' : wipe σ2 vs = wipe σ vs := ws.trans ww
        refine ⟨ws', ?_⟩
        simp only at a3
        have hB : Ex B (upd B L (.lst acc)) := Ex.new nb.2.1
        refine ht.go (upd B L (.lst acc)) S0 M σ2 H'' S2 ρ1 _ R4 ?_
        cases et : ft ρ1 with
        | err c fs => rw [et] at a3; exact (show False from a3).elim
        | no => rw [et] at a3; exact (show False from a3).elim
        | ok b =>
          obtain ⟨b, ρ2⟩ := b
          rw [et] at a3
          intro H3 S3 e5 R5
          cases b with
          | false =>
            simp only [Bool.false_eq_true, if_false]
            have k5 := R5.pinned (p := L) (o := .lst acc) upd_same nb.2.2.1
            have R6 : Rel B S0 M (wipe σ vs) H3 S3 (wipeE ρ2 vs) := by
              have := (R5.weak hB).wipe vs
              rw [ws'] at this
              exact this
            have P6 : Rel (upd B L (.lst acc)) S0 M (wipe σ vs) H3 S3 (wipeE ρ2 vs) := by
              have := R5.wipe vs
              rw [ws'] at this
              exact this
            refine ⟨S3, wipeE ρ2 vs, acc, dacc, (e2.trans e3).trans e5, k5.2, RpL.mono (e3.trans e5) _ racc, ⟨?_, nb.2.1, nb.2.2.1, (P6.pinned (p := L) (o := .lst acc) upd_same nb.2.2.1).1⟩, R6, AE.later e5 a3⟩
            rw [R5.base L _ upd_same, ← P2.base L _ upd_same]; exact nb.1
          | true =>
            simp only [if_true]
            refine he.go (upd B L (.lst acc)) S0 M σ2 H3 S3 ρ2 _ R5 ?_
            simp only at a3
            cases ee : fa ρ2 with
            | err c fs => rw [ee] at a3; exact (show False from a3).elim
            | no => rw [ee] at a3; exact (show False from a3).elim
            | ok z =>
              obtain ⟨z, ρ3⟩ := z
              rw [ee] at a3
              simp only at a3
              by_cases hz : szOk dacc.length = true
              · rw [if_pos hz] at a3
                intro yv H4 S4 e6 R6 r6
                have k6 := R6.pinned (p := L) (o := .lst acc) upd_same nb.2.2.1
                have P7 : Rel (upd B L (.lst acc)) S0 M (wipe σ vs) H4 S4 (wipeE ρ3 vs) := by
                  have := R6.wipe vs
                  rw [ws'] at this
                  exact this
                have sL : S4 L = none := by rw [R6.base L _ upd_same, ← P2.base L _ upd_same]; exact nb.1
                have nb7 : Nobody B M (wipe σ vs) S4 (wipeE ρ3 vs) L := ⟨sL, nb.2.1, nb.2.2.1, (P7.pinned (p := L) (o := .lst acc) upd_same nb.2.2.1).1⟩
                have racc4 := RpL.mono ((e3.trans e5).trans e6) _ racc
                refine ⟨acc, k6.2, by rw [racc.length]; exact sz_lt hz, S4, wipeE ρ3 vs, acc ++ [yv], dacc ++ [z], ((e2.trans e3).trans e5).trans e6, upd_same, racc4.append (.one r6), nb7, (P7.weak hB).writeN nb7, AE.later (e5.trans e6) a3⟩
              · rw [if_neg hz] at a3; exact (show False from a3).elim
    · rintro H' ⟨S', ρ', acc, dacc, e2, hacc, racc, nb, R2, a2⟩
      rw [List.drop_length] at a2
      replace a2 : AE ER B S0 M σ S' Q (.ok (.fr dacc, backE ρ0 ρ' vs)) := a2
      have R3 := R1.back e2 R2
      refine a2 (.ref L) H' S' (Ex.refl S') R3 ⟨L, acc, rfl, hacc, racc, nb.1, nb.2.1, nb.2.2.1, fun i s h o z => ?_⟩
      have hi : i ∉ vs := fun hi => by
        rcases backE_in ρ0 ρ' hi h with rfl | ⟨d, rfl, _⟩
        · cases o
        · cases o
      rw [backE_out ρ0 ρ' hi] at h
      exact nb.2.2.2 i s h o (by rw [wipe_get hi]; exact z)⟩
end
end DL

set_option Elab.async false
set_option linter.all false
set_option maxRecDepth 100000
set_option maxHeartbeats 4000000
namespace DL
open PySem PySem.Spec PyProof.Rows L2
variable [Wr]
/-! ### lists that are changed -/
def lstOf : Sl → Option (List D)
  | .ow ds => some ds
  | .io ds => some ds
  | _ => none
def putSl : Sl → List D → Sl
  | .ow _, ds => .ow ds
  | .io _, ds => .io ds
  | s, _ => s
theorem Rel.mutL {B S0 : Hp} {M : List Addr} {σ : L2.St} {H S : Hp} {ρ : En} (R : Rel B S0 M σ H S ρ) {i : Nat} {s : Sl} {ds : List D} (e : ρ[i]? = some s) (h : lstOf s = some ds) :
    ∃ l vs, σ[i]? = some (some (.ref l)) ∧ H l = some (.lst vs) ∧ S l = none ∧ RpL S vs ds ∧ (∀ a o, B a = some o → a ∉ M → a ≠ l) ∧ NoSl σ (ρ.set i .no) l ∧
      (∀ H' S' ws es, H' l = some (.lst ws) → S' l = none → RpL S' ws es → SlAt B M H' S' (some (some (.ref l))) (putSl s es)) ∧ ∀ ws es, RpL S ws es → Rel B S0 M σ (upd H l (.lst ws)) S (ρ.set i (putSl s es)) := by
  have q := R.ats i s e
  have out : ∀ l, s.own = true → σ[i]? = some (some (.ref l)) → NoSl σ (ρ.set i .no) l := fun l os ev j s' ej oj z => by
    rcases getElem?_set_cases ej with ⟨rfl, rfl, _⟩ | ⟨ne, ej'⟩
    · cases oj
    · exact R.apart i j _ s' l ne e ej' os oj ev z
  cases s with
  | no => cases h
  | sh d => cases h
  | od kvs => cases h
  | oT ps => cases h
  | ow es =>
    cases h
    obtain ⟨l, vs, ev, h1, h2, h3, h4⟩ := q
    refine ⟨l, vs, ev, h1, h2, h3, fun a o hb _ z => (by rw [z, h4.1] at hb; cases hb), out l rfl ev, fun H' S' ws es g1 g2 g3 => ⟨l, ws, rfl, g1, g2, g3, h4⟩, fun ws es r => R.write e rfl ev ⟨l, ws, rfl, upd_same, h2, r, h4⟩⟩
  | io es =>
    cases h
    obtain ⟨l, vs, ev, h1, h2, h3, h4⟩ := q
    refine ⟨l, vs, ev, h1, h2, h3, fun a o _ m z => m (by rw [z]; exact h4), out l rfl ev, fun H' S' ws es g1 g2 g3 => ⟨l, ws, rfl, g1, g2, g3, h4⟩, fun ws es r => R.write e rfl ev ⟨l, ws, rfl, upd_same, h2, r, h4⟩⟩
def isL (ρ : En) (i : Nat) : Bool := (ρ[i]?.bind lstOf).isSome
/-- the list at slot i becomes g of it; what g gives besides -/
def updL {α : Type} (i : Nat) (g : List D → Option (α × List D)) (ρ : En) : Option (α × En) := match ρ[i]? with
  | some s => (lstOf s).bind fun ds => (g ds).map fun p => (p.1, ρ.set i (putSl s p.2))
  | none => none
theorem updL_some {α : Type} {i : Nat} {g : List D → Option (α × List D)} {ρ : En} {a : α} {ρ' : En} (h : updL i g ρ = some (a, ρ')) : ∃ s ds es, ρ[i]? = some s ∧ lstOf s = some ds ∧ g ds = some (a, es) ∧ ρ' = ρ.set i (putSl s es) := by
  unfold updL at h
  split at h
  · rename_i s hs
    obtain ⟨ds, h1, h2⟩ := Option.bind_eq_some_iff.mp h
    obtain ⟨p, h3, h4⟩ := Option.map_eq_some_iff.mp h2
    cases h4
    exact ⟨s, ds, p.2, hs, h1, h3, rfl⟩
  · cases h
theorem isL_addr {B S0 : Hp} {M : List Addr} {σ : L2.St} {H S : Hp} {ρ : En} (R : Rel B S0 M σ H S ρ) {i : Nat} (h : isL ρ i = true) : ∃ l vs, σ[i]? = some (some (.ref l)) ∧ H l = some (.lst vs) := by
  unfold isL at h
  obtain ⟨ds, h0⟩ := Option.isSome_iff_exists.mp h
  obtain ⟨s, e, h1⟩ := Option.bind_eq_some_iff.mp h0
  obtain ⟨l, vs, ev, hv, _⟩ := R.mutL e h1
  exact ⟨l, vs, ev, hv⟩
section
variable {ER : Er} {ta tb tc te : TE} {fa fb fc : Fd} {fe fe' : Fe} {t u : TT} {ft fu : Ft} {K : PySem.W.Frag} {tr : TA} {fr : Fa} {ts us : TS} {fs gs : Fs}
/-- x.append(e) -/
def sApp (i : Nat) (fa : Fd) : Fs := fun ρ => if isL ρ i = true then onR (fa ρ) fun d ρ1 => match updL i (fun ds => if szOk ds.length = true then some ((), ds ++ [d]) else none) ρ1 with
  | some p => .nx p.2
  | none => .no
  else .no
theorem rs_app (i : Nat) (h : RD ER te fa) : RS ER (tDrop (tBM K "list" rAppend (tVar i) (tCons te tNil))) (sApp i fa) := ⟨fun B S0 M σ H S ρ E R a => by
  unfold sApp at a
  split at a
  · rename_i hi
    obtain ⟨l, vs, ev, hv⟩ := isL_addr R hi
    refine ⟨.ref l, ev, .inl ⟨rfl, vs, SqL.of hv⟩, h.go B S0 M σ H S ρ _ R (AD.bindS a fun d ρ1 v H1 S1 e1 R1 r1 a1 => ?_)⟩
    split at a1
    · rename_i p hp
      obtain ⟨s, ds, es, hs, h1, h2, h3⟩ := updL_some (a := p.1) (ρ' := p.2) hp
      obtain ⟨l', vs', ev', hv', _, r', _, _, _, w⟩ := R1.mutL hs h1
      rw [ev] at ev'
      injection ev' with ev'; injection ev' with ev'; injection ev' with ev'
      subst ev'
      split at h2
      · rename_i hz
        injection h2 with h2; injection h2 with _ h2
        subst h2
        refine ⟨l, vs', v, rfl, rfl, hv', by rw [r'.length]; exact sz_lt hz, ?_⟩
        rw [h3] at a1
        exact a1 σ _ S1 (Ex.refl S1) (w (vs' ++ [v]) (ds ++ [d]) (r'.append (.one r1)))
      · cases h2
    · exact (show False from a1).elim
  · exact (show False from a).elim⟩
/-- x[k] = e -/
def sSet (i : Nat) (fe fk : Fd) : Fs := fun ρ => onR (fe ρ) fun d ρ1 => if isL ρ1 i = true then onR (fk ρ1) fun k ρ2 => match k with
  | .int k => (match updL i (fun ds => (ixN ds.length k).map fun j => ((), ds.set j d)) ρ2 with
    | some p => .nx p.2
    | none => .no)
  | _ => .no
  else .no
theorem rs_set (i : Nat) (h : RD ER te fa) (hk : RD ER tb fb) : RS ER (tAsg te (gSub (tVar i) tb rSetL)) (sSet i fa fb) := ⟨fun B S0 M σ H S ρ E R a => by
  refine h.go B S0 M σ H S ρ _ R (AD.bindS a fun d ρ1 v H1 S1 e1 R1 r1 a1 => ?_)
  split at a1
  · rename_i hi
    obtain ⟨l, vs, ev, hv⟩ := isL_addr R1 hi
    refine ⟨.ref l, ev, hk.go B S0 M σ H1 S1 ρ1 _ R1 (AD.bindS a1 fun k ρ2 kv H2 S2 e2 R2 r2 a2 => ?_)⟩
    cases k with
    | int k =>
      simp only at a2
      split at a2
      · rename_i p hp
        obtain ⟨s, ds, es, hs, h1, h2, h3⟩ := updL_some (a := p.1) (ρ' := p.2) hp
        obtain ⟨l', vs', ev', hv', _, r', _, _, _, w⟩ := R2.mutL hs h1
        rw [ev] at ev'
        injection ev' with ev'; injection ev' with ev'; injection ev' with ev'
        subst ev'
        obtain ⟨j, hj, h4⟩ := Option.map_eq_some_iff.mp h2
        injection h4 with _ h4
        subst h4
        refine ⟨l, vs', k, j, rfl, r2, hv', by rw [r'.length]; exact hj, ?_⟩
        rw [h3] at a2
        exact a2 σ _ S2 (Ex.refl S2) (w (vs'.set j v) (ds.set j d) (r'.set (Rp.mono e2 _ r1) j))
      · exact (show False from a2).elim
    | _ => exact (show False from a2).elim
  · exact (show False from a1).elim⟩
/-- x.insert(k, e) -/
def rIns : V → List V → Hp → VK → Prop := fun x vs H Q => ∃ (l : Addr) (xs : List V) (i : Int) (y : V), x = .ref l ∧ vs = [.int i, y] ∧ H l = some (.lst xs) ∧ xs.length < sizeLine ∧ 0 ≤ i ∧ i < 2 ^ 63 ∧ Q .non (upd H l (.lst (xs.take i.toNat ++ y :: xs.drop i.toNat)))
end
/-! ### what a def promises -/
def PGood (H H' S' : Hp) (v : V) : Rv → Prop
  | .sh d => Rp S' v d
  | .fr ds => ∃ p vs, v = .ref p ∧ H p = none ∧ H' p = some (.lst vs) ∧ S' p = none ∧ RpL S' vs ds
  | .fk kvs => ∃ p ws, v = .ref p ∧ H p = none ∧ H' p = some (.dK ws) ∧ S' p = none ∧ RpK S' ws kvs
abbrev EWT := XK → Er
abbrev EW0 : EWT := fun _ _ _ _ => False
/-- all but the tables stays -/
def Kt (H H' : Hp) : Prop := ∀ a o, H a = some o → a ∉ tbs → H' a = some o
def spP (n : Nat) (EW : EWT) (F : List D → Res Rv) : Sp := fun vs H Q E => ∃ S ds, Ex S H ∧ TabsOk tbs H S ∧ RpL S vs ds ∧ ds.length = n ∧ match F ds with
  | .ok rv => ∀ v H' S', Ex S S' → Ex S' H' → Kt H H' → (∀ a o, H a = some o → S' a = S a) → TabsOk tbs H' S' → PGood H H' S' v rv → Q v H'
  | .err c fs => ∀ H', Kp H S tbs H' → EW E c fs H'
  | .no => False
/-- the first argument is a list that is changed -/
def spB (n : Nat) (EW : EWT) (F : List D → List D → Res (Rv × List D)) : Sp := fun vs H Q E => ∃ S l ws xs ds es, vs = .ref l :: ws ∧ H l = some (.lst xs) ∧ Ex S H ∧ TabsOk tbs H S ∧ S l = none ∧ RpL S xs ds ∧ RpL S ws es ∧ es.length + 1 = n ∧ match F ds es with
  | .ok (rv, ds') => ∀ v H' S' ys, Ex S S' → Ex S' H' → (∀ a o, a ≠ l → a ∉ tbs → H a = some o → H' a = some o) → (∀ a o, H a = some o → S' a = S a) → TabsOk tbs H' S' → H' l = some (.lst ys) → RpL S' ys ds' → PGood H H' S' v rv → Q v H'
  | .err c fs => ∀ H', Kp H S (l :: tbs) H' → EW E c fs H'
  | .no => False
def startE (m : Nat) (ds : List D) : En := ds.map .sh ++ List.replicate (m - ds.length) .no
def startB (m : Nat) (bs ds : List D) : En := .io bs :: ds.map .sh ++ List.replicate (m - (ds.length + 1)) .no
def outP : Out → Res Rv
  | .nx _ => .ok (.sh .none)
  | .rt rv _ => .ok rv
  | .err c fs => .err c fs
  | _ => .no
def io0 (rv : Rv) (ρ : En) : Res (Rv × List D) := match ρ with
  | .io ds :: _ => .ok (rv, ds)
  | _ => .no
def outB : Out → Res (Rv × List D)
  | .nx ρ => io0 (.sh .none) ρ
  | .rt rv ρ => io0 rv ρ
  | .err c fs => .err c fs
  | _ => .no
def runP (m : Nat) (f : Fs) (ds : List D) : Res Rv := outP (f (startE m ds))
def runB (m : Nat) (f : Fs) (bs ds : List D) : Res (Rv × List D) := outB (f (startB m bs ds))
theorem RpL.start {S : Hp} : ∀ {ds : List D} {vs : List V} {i : Nat} {s : Sl}, RpL S vs ds → (ds.map Sl.sh)[i]? = some s → ∃ d v, s = .sh d ∧ (vs.map some)[i]? = some (some v) ∧ Rp S v d := fun {ds vs i s} r h => by
  rw [List.getElem?_map] at h
  obtain ⟨d, h1, h2⟩ := Option.map_eq_some_iff.mp h
  obtain ⟨v, h3, h4⟩ := r.get h1
  exact ⟨d, v, h2.symm, by rw [List.getElem?_map, h3]; rfl, h4⟩
theorem rel_start {S H : Hp} {vs : List V} {ds : List D} {N : List Str} (sub : Ex S H) (tb : TabsOk tbs H S) (r : RpL S vs ds) (hn : ds.length ≤ N.length) : Rel H S tbs (start N vs) H S (startE N.length ds) where
  sub := sub
  s0 := Ex.refl S
  keep := fun _ _ h _ => h
  there := fun a h => by obtain ⟨ps, z⟩ := tb.tbl h; exact ⟨_, z⟩
  tabs := tb
  base := fun _ _ _ => rfl
  len := by
    unfold L2.start startE
    simp [r.length]
  ats := fun i s h => by
    unfold startE at h
    unfold L2.start
    have hl := r.length
    by_cases hi : i < ds.length
    · rw [List.getElem?_append_left (by simpa using hi)] at h
      obtain ⟨d, v, rfl, h1, h2⟩ := r.start h
      exact ⟨v, by rw [List.getElem?_append_left (by simp; omega)]; exact h1, h2⟩
    · rw [List.getElem?_append_right (by simpa using hi)] at h
      have : s = .no := by
        have := List.mem_of_getElem? h
        exact List.eq_of_mem_replicate this
      subst this
      trivial
  apart := fun i j s s' l ij h1 h2 o1 o2 _ _ => by
    unfold startE at h1
    by_cases hi : i < ds.length
    · rw [List.getElem?_append_left (by simpa using hi)] at h1
      obtain ⟨d, v, rfl, _, _⟩ := r.start h1
      cases o1
    · rw [List.getElem?_append_right (by simpa using hi)] at h1
      rw [List.eq_of_mem_replicate (List.mem_of_getElem? h1)] at o1
      cases o1
theorem rel_startB {S H : Hp} {l : Addr} {xs ws : List V} {bs ds : List D} {N : List Str} (sub : Ex S H) (tb : TabsOk tbs H S) (hl : H l = some (.lst xs)) (hs : S l = none) (rb : RpL S xs bs) (r : RpL S ws ds) (hn : ds.length + 1 ≤ N.length) : Rel H S (l :: tbs) (start N (.ref l :: ws)) H S (startB N.length bs ds) where
  sub := sub
  s0 := Ex.refl S
  keep := fun _ _ h _ => h
  there := fun a h => by
    rcases List.mem_cons.mp h with rfl | h
    · exact ⟨_, hl⟩
    · obtain ⟨ps, z⟩ := tb.tbl h; exact ⟨_, z⟩
  tabs := tb.up fun a h => List.mem_cons_of_mem _ h
  base := fun _ _ _ => rfl
  len := by
    unfold L2.start startB
    simp [r.length]
  ats := fun i s h => by
    unfold startB at h
    unfold L2.start
    have hle := r.length
    cases i with
    | zero =>
      have : s = .io bs := by simpa using h.symm
      subst this
      exact ⟨l, xs, by simp, hl, hs, rb, List.mem_cons_self⟩
    | succ i =>
      have h' : (ds.map Sl.sh ++ List.replicate (N.length - (ds.length + 1)) Sl.no)[i]? = some s := by simpa using h
      have goal : ∀ x, ((ws.map some : List (Option V)) ++ List.replicate (N.length - (ws.length + 1)) none)[i]? = x → ((List.map some (V.ref l :: ws)) ++ List.replicate (N.length - (V.ref l :: ws).length) none)[i + 1]? = x := fun x hx => by simpa using hx
      by_cases hi : i < ds.length
      · rw [List.getElem?_append_left (by simpa using hi)] at h'
        obtain ⟨d, v, rfl, h1, h2⟩ := r.start h'
        exact ⟨v, goal _ (by rw [List.getElem?_append_left (by simp; omega)]; exact h1), h2⟩
      · rw [List.getElem?_append_right (by simpa using hi)] at h'
        have : s = .no := List.eq_of_mem_replicate (List.mem_of_getElem? h')
        subst this
        trivial
  apart := fun i j s s' p ij h1 h2 o1 o2 _ _ => by
    have only : ∀ (k : Nat) (t : Sl), (startB N.length bs ds)[k]? = some t → t.own = true → k = 0 := fun k t hk ot => by
      cases k with
      | zero => rfl
      | succ k =>
        have h' : (ds.map Sl.sh ++ List.replicate (N.length - (ds.length + 1)) Sl.no)[k]? = some t := by
          unfold startB at hk
          simpa using hk
        by_cases hi : k < ds.length
        · rw [List.getElem?_append_left (by simpa using hi)] at h'
          obtain ⟨d, v, rfl, _, _⟩ := r.start h'
          cases ot
        · rw [List.getElem?_append_right (by simpa using hi)] at h'
          rw [List.eq_of_mem_replicate (List.mem_of_getElem? h')] at ot
          cases ot
    exact ij ((only i s h1 o1).trans (only j s' h2 o2).symm)
section
variable {P : Program} {w : World} {K : PySem.W.Frag} {mg : Str → Option Value} {base : Heap}
theorem Good.toP {B : Hp} {σ : L2.St} {H S : Hp} {M : List Addr} {ρ : En} {v : V} {rv : Rv} (g : Good B M σ H S ρ v rv) : PGood B H S v rv := by
  cases rv with
  | sh d => exact g
  | fr ds => obtain ⟨p, vs, e, h1, h2, h3, h4, _⟩ := g; exact ⟨p, vs, e, h4, h1, h3, h2⟩
  | fk kvs => obtain ⟨p, vs, e, h1, h2, h3, h4, _⟩ := g; exact ⟨p, vs, e, h4, h1, h3, h2⟩
/-- a def by its body -/
theorem fnP {CX : CXT} {EW : EWT} {x qual : Str} {params : Arguments} {body : List Stmt} {scope : Scope} {f : Addr} {fd : FuncData} {N ps : List Str} {k n m : Nat} {fs : Fs}
    (F : FunD K x qual params body scope [] [] f fd) (S : FnScope N ps scope) (hn : ps.length = n) (hm : N.length = m)
    (hbody : ∀ (cdv : Value) (A : Around) (outer : List Env) (s : Shared) (H : Hp) (E : XK), Room k (A.deeper (envOfC qual scope s.heap.objs.size f cdv)) →
      ∃ t, PSs (cxOf CX P w K mg base N qual scope f cdv A outer s H E) body t ∧ RS (EW E) t fs) : FnOk P w K mg base CX (k + 1) f fd ps (spP n EW (runP m fs)) := by
  subst hm
  have hNl : n ≤ N.length := by
    have := congrArg List.length S.pre
    rw [List.length_take] at this
    omega
  refine F.ok S (fun vs H Q E h => ?_) (fun cdv A outer s H vs Q E hr h => ?_)
  · obtain ⟨S', ds, _, _, r, hl, _⟩ := h
    rw [r.length, hl, hn]
  · obtain ⟨S', ds, sub, tb, r, hl, h⟩ := h
    obtain ⟨t, h1, h2⟩ := hbody cdv A outer s H E hr
    refine ⟨t, h1, h2.go H S' tbs _ H S' _ _ (rel_start sub tb r (by omega)) ?_⟩
    unfold runP at h
    cases e : fs (startE N.length ds) with
    | nx ρ' =>
      rw [e] at h
      exact fun σ' H' S2 e1 R1 => h .non H' S2 e1 R1.sub (fun a o q z => R1.keep a o q z) (fun a o q => R1.base a o q) R1.tabs rfl
    | rt rv ρ' =>
      rw [e] at h
      exact fun v σ' H' S2 e1 R1 g => h v H' S2 e1 R1.sub (fun a o q z => R1.keep a o q z) (fun a o q => R1.base a o q) R1.tabs g.toP
    | bk ρ' => rw [e] at h; exact (show False from h).elim
    | ct ρ' => rw [e] at h; exact (show False from h).elim
    | err c fs => rw [e] at h; exact fun H' kp => h H' kp
    | no => rw [e] at h; exact (show False from h).elim
theorem fnB {CX : CXT} {EW : EWT} {x qual : Str} {params : Arguments} {body : List Stmt} {scope : Scope} {f : Addr} {fd : FuncData} {N ps : List Str} {k n m : Nat} {fs : Fs}
    (F : FunD K x qual params body scope [] [] f fd) (S : FnScope N ps scope) (hn : ps.length = n) (hm : N.length = m)
    (hbody : ∀ (cdv : Value) (A : Around) (outer : List Env) (s : Shared) (H : Hp) (E : XK), Room k (A.deeper (envOfC qual scope s.heap.objs.size f cdv)) →
      ∃ t, PSs (cxOf CX P w K mg base N qual scope f cdv A outer s H E) body t ∧ RS (EW E) t fs) : FnOk P w K mg base CX (k + 1) f fd ps (spB n EW (runB m fs)) := by
  subst hm
  have hNl : n ≤ N.length := by
    have := congrArg List.length S.pre
    rw [List.length_take] at this
    omega
  refine F.ok S (fun vs H Q E h => ?_) (fun cdv A outer s H vs Q E hr h => ?_)
  · obtain ⟨S', l, ws, xs, bs, ds, rfl, _, _, _, _, _, r, hl, _⟩ := h
    rw [List.length_cons, r.length, hl, hn]
  · obtain ⟨S', l, ws, xs, bs, ds, rfl, hv, sub, tb, hs, rb, r, hl, h⟩ := h
    obtain ⟨t, h1, h2⟩ := hbody cdv A outer s H E hr
    refine ⟨t, h1, h2.go H S' (l :: tbs) _ H S' _ _ (rel_startB sub tb hv hs rb r (by omega)) ?_⟩
    unfold runB at h
    have fin : ∀ {rv : Rv} {ρ' : En} {v : V} {σ' : L2.St} {H' S2 : Hp}, (match io0 rv ρ' with
        | .ok (rv, ds') => ∀ v H' S2 ys, Ex S' S2 → Ex S2 H' → (∀ a o, a ≠ l → a ∉ tbs → H a = some o → H' a = some o) → (∀ a o, H a = some o → S2 a = S' a) → TabsOk tbs H' S2 → H' l = some (.lst ys) → RpL S2 ys ds' → PGood H H' S2 v rv → Q v H'
        | .err c fs => ∀ H', Kp H S' (l :: tbs) H' → EW E c fs H'
        | .no => False) → Ex S' S2 → Rel H S' (l :: tbs) σ' H' S2 ρ' → PGood H H' S2 v rv → Q v H' := fun {rv ρ' v σ' H' S2} h e1 R1 g => by
      cases ρ' with
      | nil => exact (show False from h).elim
      | cons s0 rest =>
        cases s0 with
        | io bs' =>
          obtain ⟨l', vs', ev, g1, g2, g3, g4⟩ := R1.ats 0 (.io bs') rfl
          have : l' = l := by
            rcases List.mem_cons.mp g4 with z | z
            · exact z
            · obtain ⟨ps, z2⟩ := R1.tabs.tbl z
              rw [g1] at z2; cases z2
          subst this
          exact h v H' S2 vs' e1 R1.sub (fun a o ne nt q => R1.keep a o q (fun z => (List.mem_cons.mp z).elim ne nt)) (fun a o q => R1.base a o q) R1.tabs.low g1 g3 g
        | _ => exact (show False from h).elim
    cases e : fs (startB N.length bs ds) with
    | nx ρ' => rw [e] at h; exact fun σ' H' S2 e1 R1 => fin h e1 R1 (v := .non) (rv := .sh .none) rfl
    | rt rv ρ' => rw [e] at h; exact fun v σ' H' S2 e1 R1 g => fin h e1 R1 g.toP
    | bk ρ' => rw [e] at h; exact (show False from h).elim
    | ct ρ' => rw [e] at h; exact (show False from h).elim
    | err c fs => rw [e] at h; exact fun H' kp => h H' kp
    | no => rw [e] at h; exact (show False from h).elim
end
/-! ### calls of defs -/
section
variable {ER : Er} {EW : EWT} {E : XK} {tr : TA} {fr : Fa} {n : Nat}
theorem PGood.back {B S0 : Hp} {M : List Addr} {σ : L2.St} {H S H' S' : Hp} {ρ ρ' : En} {v : V} {rv : Rv} (R : Rel B S0 M σ H S ρ) (hρ : ∀ (i : Nat) (s : Sl), ρ'[i]? = some s → s.own = true → ∃ s', ρ[i]? = some s' ∧ s'.own = true) (g : PGood H H' S' v rv) : Good B M σ H' S' ρ' v rv := by
  have nb : ∀ p, H p = none → NoSl σ ρ' p := fun p hp i s e o z => by
    obtain ⟨s', e', o'⟩ := hρ i s e o
    exact R.noSl hp i s' e' o' z
  cases rv with
  | sh d => exact g
  | fr ds => obtain ⟨p, vs, e, h1, h2, h3, h4⟩ := g; exact ⟨p, vs, e, h2, h4, h3, (R.nobody h1).2.1, (R.nobody h1).2.2.1, nb p h1⟩
  | fk ds => obtain ⟨p, vs, e, h1, h2, h3, h4⟩ := g; exact ⟨p, vs, e, h2, h4, h3, (R.nobody h1).2.1, (R.nobody h1).2.2.1, nb p h1⟩
def dCallF (n : Nat) (F : List D → Res Rv) (f : Fa) : Fe := fun ρ => (f ρ).bind fun p => if p.1.length = n then (F p.1).bind fun rv => .ok (rv, p.2) else .no
/-- behind a call that raised -/
theorem Rel.kpAfter {B S0 : Hp} {M : List Addr} {σ : L2.St} {H1 S1 H' : Hp} {ρ : En} {L : List Addr} (R1 : Rel B S0 M σ H1 S1 ρ) (hL : ∀ a ∈ L, a ∈ M ∨ B a = none) (k : Kp H1 S1 L H') (ht : ∀ a ∈ tbs, a ∈ L) : Kp B S0 M H' := by
  obtain ⟨k1, S', k2, k3, k4, k5, k6⟩ := k
  have nl : ∀ a o, B a = some o → a ∉ M → a ∉ L := fun a o h m z => (hL a z).elim m fun q => by rw [h] at q; cases q
  have th : ∀ a o, B a = some o → ∃ o', H1 a = some o' := fun a o h => by
    by_cases m : a ∈ M
    · exact R1.there a m
    · exact ⟨o, R1.keep a o h m⟩
  refine ⟨fun a o h m => k1 a o (R1.keep a o h m) (nl a o h m), S', R1.s0.trans k2, k3, k4.low.up R1.tabs.sub, fun a m => ?_, fun a o h => ?_⟩
  · by_cases z : a ∈ L
    · exact k5 a z
    · obtain ⟨o, ho⟩ := R1.there a m
      exact ⟨o, k1 a o ho z⟩
  · obtain ⟨o', ho'⟩ := th a o h
    rw [k6 a o' ho', R1.base a o h]
theorem Rel.notab {B S0 : Hp} {M : List Addr} {σ : L2.St} {H S : Hp} {ρ : En} (R : Rel B S0 M σ H S ρ) {i : Nat} {s : Sl} {l : Addr} (e : ρ[i]? = some s) (o : s.own = true) (ev : σ[i]? = some (some (.ref l))) : l ∉ tbs := fun z => by
  obtain ⟨ps, h⟩ := R.tabs.tbl z
  exact R.no_tbl e o ev h
theorem re_callG {F F' : List D → Res Rv} (hok : ∀ ds rv, F' ds = .ok rv → F ds = .ok rv) (hE : ∀ ds c fs, F' ds = .err c fs → F ds = .err c fs ∧ ∀ H, ER c fs H → EW E c fs H) (h : RA ER tr fr) : RE ER (tCall (spP n EW F) [] E tr) (dCallF n F' fr) := ⟨fun B S0 M σ H S ρ Q R a => by
  refine h.go B S0 M σ H S ρ _ R (AA.bindE a fun ds ρ1 xs H1 S1 e1 R1 r1 a1 => ?_)
  simp only at a1
  split at a1
  · rename_i hl
    refine ⟨S1, ds, R1.sub, R1.tabs.low, by rw [List.append_nil]; exact r1, hl, ?_⟩
    cases eF : F' ds with
    | ok rv =>
      rw [eF] at a1
      rw [hok ds rv eF]
      intro v H' S' e2 s2 k2 b2 t2 g2
      refine a1 v H' S' e2 ⟨s2, R1.s0.trans e2, fun b o hb hm => k2 _ _ (R1.keep b o hb hm) fun z => hm (R1.tabs.sub b z), fun b hm => ?_, fun b o hb => ?_, R1.len, fun i s hi => ?_, R1.apart, t2.up R1.tabs.sub⟩ (PGood.back R1 (fun i s e o => ⟨s, e, o⟩) g2)
      · by_cases z : b ∈ tbs
        · obtain ⟨ps, z⟩ := t2.tbl z
          exact ⟨_, z⟩
        · obtain ⟨o, ho⟩ := R1.there b hm
          exact ⟨o, k2 _ _ ho z⟩
      · have : ∃ o', H1 b = some o' := by
          by_cases hm : b ∈ M
          · exact R1.there b hm
          · exact ⟨o, R1.keep b o hb hm⟩
        obtain ⟨o', ho'⟩ := this
        rw [b2 b o' ho', R1.base b o hb]
      · exact (R1.ats i s hi).mono e2 fun l o ev ow h1 h2 => ⟨k2 _ _ h1 (R1.notab hi ow ev), by rw [b2 l o h1]; exact h2⟩
    | err c fs =>
      rw [eF] at a1
      rw [(hE ds c fs eF).1]
      exact fun H' k => (hE ds c fs eF).2 H' (a1 H' (R1.kpAfter (fun a z => .inl (R1.tabs.sub a z)) k fun _ z => z))
    | no => rw [eF] at a1; exact (show False from a1).elim
  · exact (show False from a1).elim⟩
theorem re_callF {F : List D → Res Rv} (hE : ∀ c fs H, ER c fs H → EW E c fs H) (h : RA ER tr fr) : RE ER (tCall (spP n EW F) [] E tr) (dCallF n F fr) := re_callG (fun _ _ e => e) (fun _ c fs e => ⟨e, hE c fs⟩) h
/-- of a def that raises nothing -/
def noErr {α : Type} : Res α → Res α
  | .ok a => .ok a
  | _ => .no
@[simp] theorem noErr_ok {α : Type} (a : α) : noErr (.ok a) = .ok a := rfl
theorem noErr_of {α : Type} {x : Res α} {a : α} (h : noErr x = .ok a) : x = .ok a := by
  cases x with
  | ok b => exact h
  | err c fs => cases h
  | no => cases h
theorem noErr_ne {α : Type} {x : Res α} {c : Str} {fs : List V} (h : noErr x = .err c fs) : False := by
  cases x with
  | ok b => cases h
  | err c fs => cases h
  | no => cases h
def dCall0 (n : Nat) (F : List D → Res Rv) (f : Fa) : Fe := dCallF n (fun ds => noErr (F ds)) f
theorem re_call0 {F : List D → Res Rv} (h : RA ER tr fr) : RE ER (tCall (spP n EW F) [] E tr) (dCall0 n F fr) := re_callG (fun _ _ e => noErr_of e) (fun _ _ _ e => (noErr_ne e).elim) h
def dCallB (n : Nat) (F : List D → List D → Res (Rv × List D)) (i : Nat) (f : Fa) : Fe := fun ρ => if isL ρ i = true then (f ρ).bind fun p => if p.1.length + 1 = n then (match p.2[i]? with
  | some s => (match lstOf s with
    | some bs => (F bs p.1).bind fun q => .ok (q.1, p.2.set i (putSl s q.2))
    | none => .no)
  | none => .no) else .no else .no
theorem re_callBG {F F' : List D → List D → Res (Rv × List D)} (i : Nat) (hok : ∀ bs ds rv, F' bs ds = .ok rv → F bs ds = .ok rv) (hE : ∀ bs ds c fs, F' bs ds = .err c fs → F bs ds = .err c fs ∧ ∀ H, ER c fs H → EW E c fs H) (h : RA ER tr fr) : RE ER (tCall (spB n EW F) [] E (tCons (tVar i) tr)) (dCallB n F' i fr) := ⟨fun B S0 M σ H S ρ Q R a => by
  unfold dCallB at a
  split at a
  · rename_i hi
    obtain ⟨l, vs, ev, hv⟩ := isL_addr R hi
    refine ⟨.ref l, ev, h.go B S0 M σ H S ρ _ R (AA.bindE a fun ds ρ1 xs H1 S1 e1 R1 r1 a1 => ?_)⟩
    simp only at a1
    split at a1
    · rename_i hl
      split at a1
      · rename_i s hs
        split at a1
        · rename_i bs hbs
          obtain ⟨l', vs', ev', hv', hS', rb, hkeep, hno, hput, _⟩ := R1.mutL hs hbs
          rw [ev] at ev'
          injection ev' with ev'; injection ev' with ev'; injection ev' with ev'
          subst ev'
          refine ⟨S1, l, xs, vs', bs, ds, by rw [List.append_nil], hv', R1.sub, R1.tabs.low, hS', rb, r1, hl, ?_⟩
          have mOrB : l ∈ M ∨ B l = none := by
            by_cases m : l ∈ M
            · exact .inl m
            · refine .inr ?_
              cases hb : B l with
              | none => rfl
              | some o => exact absurd rfl (hkeep l o hb m)
          have sown : s.own = true := by
            cases s with
            | ow => rfl
            | io => rfl
            | _ => cases hbs
          cases eF : F' bs ds with
          | ok q =>
            obtain ⟨rv, bs'⟩ := q
            rw [eF] at a1
            rw [hok bs ds _ eF]
            intro v H' S' ys e2 s2 k2 b2 t2 hy ry g2
            have old : ∀ (j : Nat) (t : Sl), (ρ1.set i (putSl s bs'))[j]? = some t → t.own = true → ∃ t', ρ1[j]? = some t' ∧ t'.own = true := fun j t hj ot => by
              rcases getElem?_set_cases hj with ⟨rfl, rfl, _⟩ | ⟨_, hj'⟩
              · exact ⟨s, hs, sown⟩
              · exact ⟨t, hj', ot⟩
            refine a1 v H' S' e2 ⟨s2, R1.s0.trans e2, fun b o hb hm => k2 _ _ (hkeep b o hb hm) (fun z => hm (R1.tabs.sub b z)) (R1.keep b o hb hm), fun b hm => ?_, fun b o hb => ?_, by rw [List.length_set]; exact R1.len, fun j t hj => ?_, fun j k t t' m jk h1 h2 o1 o2 q1 q2 => ?_, t2.up R1.tabs.sub⟩ (PGood.back R1 old g2)
            · by_cases z : b = l
              · rw [z]; exact ⟨_, hy⟩
              · by_cases zt : b ∈ tbs
                · obtain ⟨ps, zt⟩ := t2.tbl zt
                  exact ⟨_, zt⟩
                · obtain ⟨o, ho⟩ := R1.there b hm
                  exact ⟨o, k2 _ _ z zt ho⟩
            · have : ∃ o', H1 b = some o' := by
                by_cases hm : b ∈ M
                · exact R1.there b hm
                · exact ⟨o, R1.keep b o hb hm⟩
              obtain ⟨o', ho'⟩ := this
              rw [b2 b o' ho', R1.base b o hb]
            · rcases getElem?_set_cases hj with ⟨rfl, rfl, _⟩ | ⟨ne, hj'⟩
              · rw [ev]
                exact hput H' S' ys bs' hy (by rw [b2 l _ hv']; exact hS') ry
              · refine (R1.ats j t hj').mono e2 fun m o em ow h1 h2 => ⟨k2 _ _ ?_ (R1.notab hj' ow em) h1, by rw [b2 m o h1]; exact h2⟩
                intro z
                exact R1.apart i j s t l ne hs hj' sown ow ev (by rw [em, z])
            · obtain ⟨t1, z1, p1⟩ := old j t h1 o1
              obtain ⟨t2, z2, p2⟩ := old k t' h2 o2
              exact R1.apart j k t1 t2 m jk z1 z2 p1 p2 q1 q2
          | err c fs =>
            rw [eF] at a1
            rw [(hE bs ds c fs eF).1]
            exact fun H' k => (hE bs ds c fs eF).2 H' (a1 H' (R1.kpAfter (fun a z => (List.mem_cons.mp z).elim (fun y => by rw [y]; exact mOrB) fun y => .inl (R1.tabs.sub a y)) k fun _ z => List.mem_cons_of_mem _ z))
          | no => rw [eF] at a1; exact (show False from a1).elim
        · exact (show False from a1).elim
      · exact (show False from a1).elim
    · exact (show False from a1).elim
  · exact (show False from a).elim⟩
def dCallB0 (n : Nat) (F : List D → List D → Res (Rv × List D)) (i : Nat) (f : Fa) : Fe := dCallB n (fun bs ds => noErr (F bs ds)) i f
theorem re_callB0 {F : List D → List D → Res (Rv × List D)} (i : Nat) (h : RA ER tr fr) : RE ER (tCall (spB n EW F) [] E (tCons (tVar i) tr)) (dCallB0 n F i fr) := re_callBG i (fun _ _ _ e => noErr_of e) (fun _ _ _ _ e => (noErr_ne e).elim) h
end
end DL

set_option Elab.async false
set_option linter.all false
set_option maxRecDepth 100000
set_option maxHeartbeats 4000000
namespace DL
open PySem PySem.Spec PyProof.Rows L2
variable [Wr]
/-! ### several values at once, new ones kept apart -/
def GoodL (M : List Addr) (σ : L2.St) (H S : Hp) (ρ : En) : Hp → List V → List Rv → Prop
  | _, [], [] => True
  | B, v :: vs, .sh d :: rvs => Rp S v d ∧ GoodL M σ H S ρ B vs rvs
  | B, v :: vs, .fr ds :: rvs => ∃ p xs, v = .ref p ∧ H p = some (.lst xs) ∧ RpL S xs ds ∧ Nobody B M σ S ρ p ∧ GoodL M σ H S ρ (upd B p (.lst xs)) vs rvs
  | B, v :: vs, .fk ds :: rvs => ∃ p xs, v = .ref p ∧ H p = some (.dK xs) ∧ RpK S xs ds ∧ Nobody B M σ S ρ p ∧ GoodL M σ H S ρ (upd B p (.dK xs)) vs rvs
  | _, _, _ => False
theorem nobody_upd {B B2 : Hp} {M : List Addr} {σ σ2 : L2.St} {S : Hp} {ρ ρ2 : En} {p : Addr} {o : HO} (h : ∀ q, Nobody B M σ S ρ q → Nobody B2 M σ2 S ρ2 q) (q : Addr) (n : Nobody (upd B p o) M σ S ρ q) : Nobody (upd B2 p o) M σ2 S ρ2 q := by
  have ne : q ≠ p := fun z => by
    have := n.2.1
    rw [z, upd_same] at this; cases this
  have hb : B q = none := by
    have := n.2.1
    rw [upd_ne ne] at this; exact this
  obtain ⟨h1, h2, h3, h4⟩ := h q ⟨n.1, hb, n.2.2.1, n.2.2.2⟩
  exact ⟨h1, by rw [upd_ne ne]; exact h2, h3, h4⟩
theorem GoodL.map {M : List Addr} {σ σ2 : L2.St} {H S : Hp} {ρ ρ2 : En} : ∀ {rvs : List Rv} {vs : List V} {B B2 : Hp}, (∀ q, Nobody B M σ S ρ q → Nobody B2 M σ2 S ρ2 q) → GoodL M σ H S ρ B vs rvs → GoodL M σ2 H S ρ2 B2 vs rvs
  | [], [], _, _, _, _ => trivial
  | .sh d :: rvs, v :: vs, _, _, h, ⟨g1, g2⟩ => ⟨g1, GoodL.map h g2⟩
  | .fr d :: rvs, v :: vs, _, _, h, ⟨p, xs, e, g1, g2, g3, g4⟩ => ⟨p, xs, e, g1, g2, h p g3, GoodL.map (nobody_upd h) g4⟩
  | .fk d :: rvs, v :: vs, _, _, h, ⟨p, xs, e, g1, g2, g3, g4⟩ => ⟨p, xs, e, g1, g2, h p g3, GoodL.map (nobody_upd h) g4⟩
  | [], _ :: _, _, _, _, g => g.elim
  | .sh _ :: _, [], _, _, _, g => g.elim
  | .fr _ :: _, [], _, _, _, g => g.elim
  | .fk _ :: _, [], _, _, _, g => g.elim
def setS : List Nat → List V → L2.St → L2.St
  | j :: js, v :: vs, σ => setS js vs (σ.set j (some v))
  | _, _, σ => σ
def setAll : List Nat → List Rv → En → En
  | j :: js, rv :: rvs, ρ => setAll js rvs (setRv j rv ρ)
  | _, _, ρ => ρ
theorem noSl_set {σ : L2.St} {ρ : En} {p q : Addr} {j : Nat} {s : Sl} (n : NoSl σ ρ q) (ne : q ≠ p) : NoSl (σ.set j (some (.ref p))) (ρ.set j s) q := fun i t e o z => by
  rcases getElem?_set_cases e with ⟨rfl, rfl, hl⟩ | ⟨ij, e'⟩
  · rcases getElem?_set_cases z with ⟨_, h, _⟩ | ⟨h, _⟩
    · injection h with h; injection h with h; exact ne h
    · exact h rfl
  · rw [List.getElem?_set_ne ij] at z
    exact n i t e' o z
theorem noSl_setSh {σ : L2.St} {ρ : En} {q : Addr} {j : Nat} {v : V} {d : D} (n : NoSl σ ρ q) : NoSl (σ.set j (some v)) (ρ.set j (.sh d)) q := fun i t e o z => by
  rcases getElem?_set_cases e with ⟨rfl, rfl, hl⟩ | ⟨ij, e'⟩
  · cases o
  · rw [List.getElem?_set_ne ij] at z
    exact n i t e' o z
theorem Rel.setAll {B S0 : Hp} {M : List Addr} {H S : Hp} : ∀ {js : List Nat} {rvs : List Rv} {vs : List V} {σ : L2.St} {ρ : En}, Rel B S0 M σ H S ρ → GoodL M σ H S ρ B vs rvs → js.length = rvs.length → Rel B S0 M (setS js vs σ) H S (DL.setAll js rvs ρ)
  | [], [], [], _, _, R, _, _ => R
  | j :: js, .sh d :: rvs, v :: vs, σ, ρ, R, ⟨g1, g2⟩, hl => by
    show Rel B S0 M (setS js vs (σ.set j (some v))) H S (DL.setAll js rvs (DL.setRv j (.sh d) ρ))
    refine Rel.setAll (R.setRv j (rv := .sh d) g1) (GoodL.map (fun q n => ⟨n.1, n.2.1, n.2.2.1, noSl_setSh n.2.2.2⟩) g2) (by simpa using hl)
  | j :: js, .fr d :: rvs, v :: vs, σ, ρ, R, ⟨p, xs, e, g1, g2, g3, g4⟩, hl => by
    subst e
    show Rel B S0 M (setS js vs (σ.set j (some (.ref p)))) H S (DL.setAll js rvs (DL.setRv j (.fr d) ρ))
    refine Rel.setAll (R.setRv j (rv := .fr d) ⟨p, xs, rfl, g1, g2, g3⟩) (GoodL.map (fun q n => ?_) g4) (by simpa using hl)
    have ne : q ≠ p := fun z => by
      have := n.2.1
      rw [z, upd_same] at this; cases this
    exact ⟨n.1, by have := n.2.1; rw [upd_ne ne] at this; exact this, n.2.2.1, noSl_set n.2.2.2 ne⟩
  | j :: js, .fk d :: rvs, v :: vs, σ, ρ, R, ⟨p, xs, e, g1, g2, g3, g4⟩, hl => by
    subst e
    show Rel B S0 M (setS js vs (σ.set j (some (.ref p)))) H S (DL.setAll js rvs (DL.setRv j (.fk d) ρ))
    refine Rel.setAll (R.setRv j (rv := .fk d) ⟨p, xs, rfl, g1, g2, g3⟩) (GoodL.map (fun q n => ?_) g4) (by simpa using hl)
    have ne : q ≠ p := fun z => by
      have := n.2.1
      rw [z, upd_same] at this; cases this
    exact ⟨n.1, by have := n.2.1; rw [upd_ne ne] at this; exact this, n.2.2.1, noSl_set n.2.2.2 ne⟩
theorem GoodL.length {M : List Addr} {σ : L2.St} {H S : Hp} {ρ : En} : ∀ {rvs : List Rv} {vs : List V} {B : Hp}, GoodL M σ H S ρ B vs rvs → vs.length = rvs.length
  | [], [], _, _ => rfl
  | .sh d :: rvs, v :: vs, _, ⟨_, g2⟩ => congrArg Nat.succ (GoodL.length g2)
  | .fr d :: rvs, v :: vs, _, ⟨_, _, _, _, _, _, g⟩ => congrArg Nat.succ (GoodL.length g)
  | .fk d :: rvs, v :: vs, _, ⟨_, _, _, _, _, _, g⟩ => congrArg Nat.succ (GoodL.length g)
  | [], _ :: _, _, g => g.elim
  | .sh _ :: _, [], _, g => g.elim
  | .fr _ :: _, [], _, g => g.elim
  | .fk _ :: _, [], _, g => g.elim
abbrev Fv := En → Res (List Rv × En)
def AV (ER : Er) (B S0 : Hp) (M : List Addr) (σ : L2.St) (S : Hp) (Q : List V → Hp → Prop) : Res (List Rv × En) → Prop
  | .ok (rvs, ρ') => ∀ vs H' S', Ex S S' → Rel B S0 M σ H' S' ρ' → GoodL M σ H' S' ρ' B vs rvs → Q vs H'
  | .err c fs => ∀ H', Kp B S0 M H' → ER c fs H'
  | .no => False
structure RV (ER : Er) (t : TA) (f : Fv) : Prop where
  go : ∀ B S0 M σ H S ρ Q, Rel B S0 M σ H S ρ → AV ER B S0 M σ S Q (f ρ) → t σ H Q
def vNil : Fv := fun ρ => .ok ([], ρ)
def vCons (fe : Fe) (fr : Fv) : Fv := fun ρ => (fe ρ).bind fun p => (fr p.2).bind fun q => .ok (p.1 :: q.1, q.2)
section
variable {ER : Er} {ta tb tc te : TE} {fa fb fc : Fd} {fe fe' : Fe} {t u : TT} {ft fu : Ft} {K : PySem.W.Frag} {tr : TA} {fr : Fa} {fv : Fv} {ts us : TS} {fs gs : Fs}
theorem rv_nil : RV ER tNil vNil := ⟨fun B S0 M σ H S ρ Q R a => a [] H S (Ex.refl S) R trivial⟩
theorem rv_cons (ha : RE ER ta fe) (hr : RV ER tr fv) : RV ER (tCons ta tr) (vCons fe fv) := ⟨fun B S0 M σ H S ρ Q R a => by
  refine ha.go B S0 M σ H S ρ _ R ?_
  unfold vCons at a
  cases e : fe ρ with
  | err c fs => rw [e] at a; exact a
  | no => rw [e] at a; exact (show False from a).elim
  | ok p =>
    obtain ⟨rv, ρ1⟩ := p
    rw [e] at a
    replace a : AV ER B S0 M σ S Q ((fv ρ1).bind fun q => .ok (rv :: q.1, q.2)) := a
    intro v H1 S1 e1 R1 g1
    -- the rest, with what is to be kept
    have rest : ∀ (B' : Hp), Ex B B' → Rel B' S0 M σ H1 S1 ρ1 → (∀ vs H' S' rvs ρ', Ex S1 S' → Rel B' S0 M σ H' S' ρ' → GoodL M σ H' S' ρ' B' vs rvs → GoodL M σ H' S' ρ' B (v :: vs) (rv :: rvs)) → tr σ H1 fun xs H2 => Q (v :: xs) H2 := fun B' hB R' k => by
      refine hr.go B' S0 M σ H1 S1 ρ1 _ R' ?_
      cases e2 : fv ρ1 with
      | err c fs => rw [e2] at a; exact fun H' kp => a H' (kp.weak hB)
      | no => rw [e2] at a; exact (show False from a).elim
      | ok q =>
        rw [e2] at a
        exact fun vs H' S' e3 R3 g3 => a (v :: vs) H' S' (e1.trans e3) (R3.weak hB) (k vs H' S' q.1 q.2 e3 R3 g3)
    cases rv with
    | sh d => exact rest B (Ex.refl B) R1 fun vs H' S' rvs ρ' e3 _ g3 => ⟨Rp.mono e3 _ g1, g3⟩
    | fr ds =>
      obtain ⟨p, xs, rfl, h1, h2, nb⟩ := g1
      have P := R1.pin h1 nb.1 nb.2.2.1 nb.2.2.2
      refine rest (upd B p (.lst xs)) (Ex.new nb.2.1) P fun vs H' S' rvs ρ' e3 R3 g3 => ?_
      have k := R3.pinned (p := p) (o := .lst xs) upd_same nb.2.2.1
      exact ⟨p, xs, rfl, k.2, RpL.mono e3 _ h2, ⟨by rw [R3.base p _ upd_same, ← P.base p _ upd_same]; exact nb.1, nb.2.1, nb.2.2.1, k.1⟩, g3⟩
    | fk ds =>
      obtain ⟨p, xs, rfl, h1, h2, nb⟩ := g1
      have P := R1.pin h1 nb.1 nb.2.2.1 nb.2.2.2
      refine rest (upd B p (.dK xs)) (Ex.new nb.2.1) P fun vs H' S' rvs ρ' e3 R3 g3 => ?_
      have k := R3.pinned (p := p) (o := .dK xs) upd_same nb.2.2.1
      exact ⟨p, xs, rfl, k.2, RpK.mono e3 h2, ⟨by rw [R3.base p _ upd_same, ← P.base p _ upd_same]; exact nb.1, nb.2.1, nb.2.2.1, k.1⟩, g3⟩⟩
/-- a, b = x, y -/
def sPar (js : List Nat) (f : Fv) : Fs := fun ρ => onR (f ρ) fun rvs ρ1 => if js.length = rvs.length then .nx (setAll js rvs ρ1) else .no
theorem AV.bindS {B S0 : Hp} {M : List Addr} {σ : L2.St} {S : Hp} {E : Ends} {Q : List V → Hp → Prop} {x : Res (List Rv × En)} {k : List Rv → En → Out}
    (h : AS ER B S0 M S E (onR x k))
    (c : ∀ rv ρ' v H' S', Ex S S' → Rel B S0 M σ H' S' ρ' → GoodL M σ H' S' ρ' B v rv → AS ER B S0 M S' E (k rv ρ') → Q v H') : AV ER B S0 M σ S Q x := by
  cases x with
  | ok a => exact fun v H' S' e R g => c a.1 a.2 v H' S' e R g (AS.later e h)
  | err c fs => exact h
  | no => exact (show False from h).elim
theorem rs_par {i j : Nat} (h : RV ER tr fv) : RS ER (tPar i j tr) (sPar [i, j] fv) := ⟨fun B S0 M σ H S ρ E R a => by
  refine h.go B S0 M σ H S ρ _ R (AV.bindS a fun rvs ρ1 vs H1 S1 e1 R1 g1 a1 => ?_)
  by_cases hl : [i, j].length = rvs.length
  · rw [if_pos hl] at a1
    have hv := g1.length
    obtain ⟨v, w, rfl⟩ : ∃ v w, vs = [v, w] := by
      match vs, (show vs.length = 2 by rw [hv, ← hl]; rfl) with
      | [v, w], _ => exact ⟨v, w, rfl⟩
    exact ⟨v, w, rfl, a1 _ H1 S1 (Ex.refl S1) (R1.setAll (js := [i, j]) g1 hl)⟩
  · rw [if_neg hl] at a1; exact (show False from a1).elim⟩
theorem rs_par3 {i j l : Nat} (h : RV ER tr fv) : RS ER (L2.tPar3 i j l tr) (sPar [i, j, l] fv) := ⟨fun B S0 M σ H S ρ E R a => by
  refine h.go B S0 M σ H S ρ _ R (AV.bindS a fun rvs ρ1 vs H1 S1 e1 R1 g1 a1 => ?_)
  by_cases hl : [i, j, l].length = rvs.length
  · rw [if_pos hl] at a1
    have hv := g1.length
    obtain ⟨v, w, x, rfl⟩ : ∃ v w x, vs = [v, w, x] := by
      match vs, (show vs.length = 3 by rw [hv, ← hl]; rfl) with
      | [v, w, x], _ => exact ⟨v, w, x, rfl⟩
    exact ⟨v, w, x, rfl, a1 _ H1 S1 (Ex.refl S1) (R1.setAll (js := [i, j, l]) g1 hl)⟩
  · rw [if_neg hl] at a1; exact (show False from a1).elim⟩
/-- names as a tuple's targets -/
def gNames : List Nat → TGs
  | [] => gNil
  | j :: js => gCons (gName j) (gNames js)
theorem gNames_ok {Q : L2.St → Hp → Prop} : ∀ {js : List Nat} {vs : List V} {σ : L2.St} {H : Hp}, vs.length = js.length → Q (setS js vs σ) H → gNames js vs σ H Q
  | [], [], _, _, _, q => ⟨rfl, q⟩
  | j :: js, v :: vs, σ, H, hl, q => ⟨v, vs, rfl, gNames_ok (js := js) (vs := vs) (σ := σ.set j (some v)) (by simpa using hl) q⟩
/-- the same by a tuple that is made -/
theorem rs_parT {js : List Nat} (hjs : js.length ≤ 1000) (h : RV ER tr fv) : RS ER (tAsg (tTup tr) (gTup K js.length (gNames js))) (sPar js fv) := ⟨fun B S0 M σ H S ρ E R a => by
  refine h.go B S0 M σ H S ρ _ R (AV.bindS a fun rvs ρ1 vs H1 S1 e1 R1 g1 a1 => ?_)
  by_cases hl : js.length = rvs.length
  · rw [if_pos hl] at a1
    have hv := g1.length
    have hz := sizeLine_eq
    refine ⟨by omega, fun p hp => ⟨p, vs, rfl, SqT.of upd_same, by omega, gNames_ok (by omega) ?_⟩⟩
    refine a1 _ _ S1 (Ex.refl S1) ((R1.lay hp).setAll (js := js) ?_ hl)
    have up : ∀ (vz : List V) {rvs : List Rv} {vs : List V} {B' : Hp}, (GoodL M σ H1 S1 ρ1 B' vs rvs) → GoodL M σ (upd H1 p (.tup vz)) S1 ρ1 B' vs rvs := by
      intro vz rvs
      induction rvs with
      | nil => intro vs B' g; cases vs with
        | nil => trivial
        | cons => exact (show False from g).elim
      | cons rv rvs ih =>
        intro vs B' g
        cases vs with
        | nil => cases rv <;> exact (show False from g).elim
        | cons v vs =>
          cases rv with
          | sh d => exact ⟨g.1, ih g.2⟩
          | fr d => obtain ⟨q, xs, e, h1, h2, h3, h4⟩ := g; exact ⟨q, xs, e, by rw [upd_ne (ne_of_none h1 hp)]; exact h1, h2, h3, ih h4⟩
          | fk d => obtain ⟨q, xs, e, h1, h2, h3, h4⟩ := g; exact ⟨q, xs, e, by rw [upd_ne (ne_of_none h1 hp)]; exact h1, h2, h3, ih h4⟩
    exact up vs g1
  · rw [if_neg hl] at a1; exact (show False from a1).elim⟩
/-- a, b = e -/
def sUnp (fg : D → En → Option En) (f : Fd) : Fs := fun ρ => onR (f ρ) fun d ρ1 => match fg d ρ1 with
  | some ρ2 => .nx ρ2
  | none => .no
theorem rs_unp {g : TG} {fg : D → En → Option En} {js : List Nat} (h : RD ER te fa) (hg : RG g fg js) : RS ER (tAsg te g) (sUnp fg fa) := ⟨fun B S0 M σ H S ρ E R a => by
  refine h.go B S0 M σ H S ρ _ R (AD.bindS a fun d ρ1 v H1 S1 e1 R1 r1 a1 => ?_)
  cases eg : fg d ρ1 with
  | none => rw [eg] at a1; exact (show False from a1).elim
  | some ρ2 =>
    rw [eg] at a1
    exact hg.go B S0 M σ H1 S1 ρ1 v d ρ2 _ R1 r1 eg fun σ' _ _ R2 => a1 σ' H1 S1 (Ex.refl S1) R2⟩
/-- x += e, ints -/
def sAug (i : Nat) (f : Fd) : Fs := fun ρ => match ρ[i]? with
  | some (.sh (.int a)) => onR (f ρ) fun d ρ1 => (match d with
    | .int b => .nx (ρ1.set i (.sh (.int (a + b))))
    | _ => .no)
  | _ => .no
theorem rs_aug (i : Nat) (h : RD ER te fa) : RS ER (tAug i te (ipI fun a b => a + b)) (sAug i fa) := ⟨fun B S0 M σ H S ρ E R a => by
  unfold sAug at a
  split at a
  · rename_i n hn
    obtain ⟨v, ev, r⟩ := R.ats i _ hn
    refine ⟨v, ev, h.go B S0 M σ H S ρ _ R (AD.bindS a fun d ρ1 w H1 S1 e1 R1 r1 a1 => ?_)⟩
    cases d with
    | int b => exact ⟨n, b, r, r1, a1 _ H1 S1 (Ex.refl S1) (R1.setSh rfl)⟩
    | _ => exact (show False from a1).elim
  · exact (show False from a).elim⟩
/-- x[k] += e, a list of ints -/
theorem pget_list {X : Cx} : PGet X (rIxL X.K) := by
  intro pins s σ H o i ov iv Q I ro ri h
  obtain ⟨p, xs, k, z, rfl, rfl, hq, he, q⟩ := h
  cases ro
  obtain ⟨t, rfl⟩ := ri
  obtain ⟨its, r, pl, hz⟩ := I.list hq
  obtain ⟨j, h1, h2, h3, h4, h5⟩ := atI_get he
  obtain ⟨w, ew, rw'⟩ := r.get h2
  have hl := r.length
  have hn := line63
  have fin : EP X pins σ Q w s := ⟨z, H, I, rw', q⟩
  by_cases h0 : 0 ≤ k
  · have hj : k.toNat = j := by
      rw [seqIndex_of h0 h5] at h1
      exact Option.some.inj h1
    exact wpAny_getItem_list pl.isList h0 (by omega) (by rw [hj]; simpa using ew) fin
  · have hj : (k + (its.toArray.size : Int)).toNat = j := by
      rw [seqIndex_neg (by omega) h4] at h1
      rw [List.size_toArray, ← hl]
      exact Option.some.inj h1
    exact wpAny_getItem_list_neg pl.isList (by omega) (by rw [List.size_toArray] <;> omega) (by omega) (by rw [hj]; simpa using ew) fin
def sAugI (i : Nat) (fk fe : Fd) : Fs := fun ρ => if isL ρ i = true then onR (fk ρ) fun k ρ1 => match k, ρ1[i]?.bind lstOf with
  | .int k, some ds => (match atI ds k with
    | some (.int a) => onR (fe ρ1) fun d ρ2 => (match d with
      | .int b => (match updL i (fun ds => (ixN ds.length k).map fun j => ((), ds.set j (.int (a + b)))) ρ2 with
        | some p => .nx p.2
        | none => .no)
      | _ => .no)
    | _ => .no)
  | _, _ => .no
  else .no
theorem rs_augI (i : Nat) (hk : RD ER tb fb) (h : RD ER te fa) : RS ER (tAugS (tVar i) tb te (rIxL K) (ipI fun a b => a + b) rSetL) (sAugI i fb fa) := ⟨fun B S0 M σ H S ρ E R a => by
  unfold sAugI at a
  split at a
  · rename_i hi
    obtain ⟨l, vs, ev, hv⟩ := isL_addr R hi
    refine ⟨.ref l, ev, hk.go B S0 M σ H S ρ _ R (AD.bindS a fun k ρ1 kv H1 S1 e1 R1 r1 a1 => ?_)⟩
    split at a1
    · rename_i k ds hd
      split at a1
      · rename_i n hn
        obtain ⟨s, hs, h1⟩ := Option.bind_eq_some_iff.mp hd
        obtain ⟨l', vs', ev', hv', _, r', _, _, _, w⟩ := R1.mutL hs h1
        rw [ev] at ev'
        injection ev' with ev'; injection ev' with ev'; injection ev' with ev'
        subst ev'
        obtain ⟨x, hx, rx⟩ := r'.atI hn
        refine ⟨l, vs', k, x, rfl, r1, SqL.of hv', hx, ?_⟩
        refine h.go B S0 M σ H1 S1 ρ1 _ R1 (AD.bindS a1 fun d ρ2 y H2 S2 e2 R2 r2 a2 => ?_)
        cases d with
        | int b =>
          simp only at a2
          split at a2
          · rename_i p hp
            obtain ⟨s2, ds2, es, hs2, h12, h2, h3⟩ := updL_some (a := p.1) (ρ' := p.2) hp
            obtain ⟨l2, vs2, ev2, hv2, _, rr2, _, _, _, w2⟩ := R2.mutL hs2 h12
            rw [ev] at ev2
            injection ev2 with ev2; injection ev2 with ev2; injection ev2 with ev2
            subst ev2
            obtain ⟨j, hj, h4⟩ := Option.map_eq_some_iff.mp h2
            injection h4 with _ h4
            subst h4
            refine ⟨n, b, rx, r2, l, vs2, k, j, rfl, r1, hv2, by rw [rr2.length]; exact hj, ?_⟩
            rw [h3] at a2
            exact a2 σ _ S2 (Ex.refl S2) (w2 (vs2.set j (.int (n + b))) (ds2.set j (.int (n + b))) (rr2.set (show Rp S2 (.int (n + b)) (.int (n + b)) from rfl) j))
          · exact (show False from a2).elim
        | _ => exact (show False from a2).elim
      · exact (show False from a1).elim
    · exact (show False from a1).elim
  · exact (show False from a).elim⟩
end
end DL

set_option Elab.async false
set_option linter.all false
set_option maxRecDepth 100000
set_option maxHeartbeats 4000000
namespace DL
open PySem PySem.Spec PyProof.Rows L2
variable [Wr]
/-! ### a new list of new lists -/
abbrev Its' := List (Addr × List V)
abbrev RpLL (S : Hp) (its : Its') (bss : List (List D)) : Prop := Paired (fun (q : Addr × List V) (bs : List D) => RpL S q.2 bs) its bss
theorem RpLL.mono {S S' : Hp} (e : Ex S S') {its : Its'} {bss : List (List D)} (h : RpLL S its bss) : RpLL S' its bss := Paired.mapP h fun _ _ r => RpL.mono e _ r
theorem paired_snoc {α β : Type} {G : α → β → Prop} {a : α} {b : β} (g : G a b) : ∀ {l : List α} {m : List β}, Paired G l m → Paired G (l ++ [a]) (m ++ [b])
  | _, _, .nil => .cons g .nil
  | _, _, .cons h r => .cons h (paired_snoc g r)
def refs (its : Its') : List V := its.map fun q => .ref q.1
def spLL (n : Nat) (EW : EWT) (F : List D → Option (List (List D))) : Sp := fun vs H Q E => ∃ S ds, Ex S H ∧ TabsOk tbs H S ∧ RpL S vs ds ∧ ds.length = n ∧ match F ds with
  | some bss => ∀ p its H' S', Ex S S' → Ex S' H' → Kt H H' → (∀ a o, H a = some o → S' a = S a) → TabsOk tbs H' S' → H p = none → H' p = some (.lst (refs its)) → S' p = none → (its.map Prod.fst).Nodup →
      (∀ q ∈ its, H q.1 = none ∧ H' q.1 = some (.lst q.2) ∧ S' q.1 = none ∧ q.1 ≠ p) → RpLL S' its bss → Q (.ref p) H'
  | none => False
def llLoop (j : Nat) (fe : Fe) (vs : List Nat) : List D → En → Option (List (List D))
  | [], _ => some []
  | d :: ds, ρ => match fe (ρ.set j (.sh d)) with
    | .ok (.fr bs, ρ') => (llLoop j fe vs ds (wipeE ρ' vs)).map (bs :: ·)
    | _ => none
def dLL (fi : Fa) (j : Nat) (fe : Fe) (vs : List Nat) (ρ : En) : Option (List (List D)) := match fi ρ with
  | .ok (ds, ρ0) => llLoop j fe vs ds (wipeE ρ0 vs)
  | _ => none
section
variable {ER : Er} {te : TE} {fe : Fe} {K : PySem.W.Frag}
theorem lcLL {wi : TI} {fi : Fa} {j : Nat} {vs : List Nat} (hi : RI ER wi fi) (hj : j ∈ vs) (he : RE ER0 te fe) {B S0 : Hp} {M : List Addr} {σ : L2.St} {H S : Hp} {ρ : En} {Q : VK} {bss : List (List D)} (R : Rel B S0 M σ H S ρ) (hb : dLL fi j fe vs ρ = some bss) (hbl : bss.length ≤ 1000)
    (a : ∀ p its H' S', Ex S S' → Ex S' H' → (∀ a o, B a = some o → a ∉ M → H' a = some o) → (∀ a o, B a = some o → S' a = S0 a) → TabsOk M H' S' → B p = none → H' p = some (.lst (refs its)) → S' p = none → (its.map Prod.fst).Nodup →
      (∀ q ∈ its, B q.1 = none ∧ H' q.1 = some (.lst q.2) ∧ S' q.1 = none ∧ q.1 ≠ p) → RpLL S' its bss → Q (.ref p) H') : tLc wi (gName j) tYes te vs σ H Q := by
  refine hi.go B S0 M σ H S ρ _ R ?_
  unfold dLL at hb
  cases e : fi ρ with
  | err c fs => rw [e] at hb; cases hb
  | no => rw [e] at hb; cases hb
  | ok p =>
    obtain ⟨ds, ρ0⟩ := p
    rw [e] at hb
    replace hb : llLoop j fe vs ds (wipeE ρ0 vs) = some bss := hb
    intro J H1 S1 e1 R1 w L hL
    have W0 := R1.wipe vs
    refine lc_it w (fun i H' => ∃ S' ρ' B1 its dn rest, Ex S1 S' ∧ Ex B B1 ∧ Rel B1 S0 M (wipe σ vs) H' S' ρ' ∧ H' L = some (.lst (refs its)) ∧ Nobody B1 M (wipe σ vs) S' ρ' L ∧
      (∀ q ∈ its, B1 q.1 = some (.lst q.2) ∧ B q.1 = none ∧ q.1 ∉ M ∧ S0 q.1 = none ∧ q.1 ≠ L) ∧ (its.map Prod.fst).Nodup ∧ its.length ≤ i ∧ RpLL S' its dn ∧ llLoop j fe vs (ds.drop i) ρ' = some rest ∧ bss = dn ++ rest)
      ⟨S1, wipeE ρ0 vs, B, [], [], bss, Ex.refl S1, Ex.refl B, W0.lay hL, upd_same, W0.nobody hL, fun q hq => (by cases hq), List.Pairwise.nil, Nat.le_refl _, .nil, hb, rfl⟩ ?_ ?_ ?_
    · rintro i H' _ ⟨S', ρ', B1, its, dn, rest, e2, _, R2, _⟩
      exact e2.trans R2.sub
    · rintro i x H' H'' hi' ⟨S', ρ', B1, its, dn, rest, e2, eB, R2, hLv, nb, hits, hnd, hlen, rll, hrest, hall⟩ ⟨d, hd, y⟩
      have hdr : ds.drop i = d :: ds.drop (i + 1) := by
        have hlt : i < ds.length := hi'
        rw [List.drop_eq_getElem_cons hlt]
        rw [List.getElem?_eq_getElem hlt] at hd
        rw [Option.some.inj hd]
      rw [hdr] at hrest
      unfold llLoop at hrest
      have P2 := R2.pin hLv nb.1 nb.2.2.1 nb.2.2.2
      obtain ⟨S2, e3, R3, r3⟩ : ∃ S2, Ex S' S2 ∧ Rel (upd B1 L (.lst (refs its))) S0 M (wipe σ vs) H'' S2 ρ' ∧ Rp S2 x d := by
        rcases y with ⟨rfl, r⟩ | ⟨T, xs, es, ob, rfl, hT, hob, rfl, rfl, r⟩
        · exact ⟨S', Ex.refl S', P2, Rp.mono e2 _ r⟩
        · exact ⟨upd S' T (.frz ob (.tup xs)), Ex.new (P2.fresh hT).2, P2.pub hT, Rp.tup ⟨ob, upd_same, hob⟩ (RpL.mono (e2.trans (Ex.new (P2.fresh hT).2)) _ r)⟩
      have R4 := R3.setSh (i := j) r3
      have ws' : wipe ((wipe σ vs).set j (some x)) vs = wipe σ vs := by
        have l2 : ((wipe σ vs).set j (some x)).length = σ.length := by rw [List.length_set, wipe_length]
        apply List.ext_getElem?
        intro k
        by_cases hk : k ∈ vs
        · by_cases hz : k < σ.length
          · rw [wipe_in hk (by rw [l2]; exact hz), wipe_in hk hz]
          · rw [List.getElem?_eq_none (by rw [wipe_length, l2]; omega), List.getElem?_eq_none (by rw [wipe_length]; omega)]
        · rw [wipe_get hk, List.getElem?_set_ne (fun z => hk (by rw [← z]; exact hj))]
      refine ⟨ws', ?_⟩
      show te ((wipe σ vs).set j (some x)) H'' _
      refine he.go _ S0 M _ H'' S2 _ _ R4 ?_
      cases ee : fe (ρ'.set j (.sh d)) with
      | err c fs => rw [ee] at hrest; cases hrest
      | no => rw [ee] at hrest; cases hrest
      | ok z =>
        obtain ⟨rv, ρ3⟩ := z
        rw [ee] at hrest
        cases rv with
        | sh => cases hrest
        | fk => cases hrest
        | fr bs =>
          replace hrest : (llLoop j fe vs (ds.drop (i + 1)) (wipeE ρ3 vs)).map (bs :: ·) = some rest := hrest
          obtain ⟨rest', hr1, hr2⟩ := Option.map_eq_some_iff.mp hrest
          rintro v H4 S4 e6 R6 ⟨p, xs, rfl, h1, h2, n6⟩
          have hnd1 : Ex B1 (upd B1 L (.lst (refs its))) := Ex.new nb.2.1
          have k6 := R6.pinned (p := L) (o := .lst (refs its)) upd_same nb.2.2.1
          have sL : S4 L = none := by rw [R6.base L _ upd_same, ← P2.base L _ upd_same]; exact nb.1
          have pL : p ≠ L := fun z => by
            have := n6.2.1
            rw [z, upd_same] at this; cases this
          have pB1 : B1 p = none := hnd1.none n6.2.1
          have pB : B p = none := eB.none pB1
          -- the new one is kept from now on
          have P7 : Rel B1 S0 M (wipe σ vs) H4 S4 (wipeE ρ3 vs) := by
            have := (R6.weak hnd1).wipe vs
            rw [ws'] at this
            exact this
          have PL : NoSl (wipe σ vs) (wipeE ρ3 vs) L := by
            have := R6.wipe vs
            rw [ws'] at this
            exact (this.pinned (p := L) (o := .lst (refs its)) upd_same nb.2.2.1).1
          have Pp : NoSl (wipe σ vs) (wipeE ρ3 vs) p := fun a s ea oa za => by
            have Rw := R6.wipe vs
            rw [ws'] at Rw
            -- a slot of the wiped frame is a slot of the frame
            have sub : ∀ (us : List Nat) (a : Nat) (s : Sl), (wipeE ρ3 us)[a]? = some s → s.own = true → ρ3[a]? = some s ∧ a ∉ us := by
              intro us
              induction us with
              | nil => intro a s h _; exact ⟨h, by simp⟩
              | cons u us ih =>
                intro a s h o
                rcases getElem?_set_cases (show ((wipeE ρ3 us).set u .no)[a]? = some s from h) with ⟨rfl, rfl, _⟩ | ⟨ne, h'⟩
                · cases o
                · obtain ⟨q1, q2⟩ := ih a s h' o
                  exact ⟨q1, by simp [q2, Ne.symm ne]⟩
            obtain ⟨q1, q2⟩ := sub vs a s ea oa
            refine n6.2.2.2 a s q1 oa ?_
            have : (wipe ((wipe σ vs).set j (some x)) vs)[a]? = some (some (.ref p)) := by rw [ws']; exact za
            rw [wipe_get q2] at this
            exact this
          have P8 := P7.pin h1 n6.1 n6.2.2.1 Pp
          have nbL : Nobody (upd B1 p (.lst xs)) M (wipe σ vs) S4 (wipeE ρ3 vs) L := ⟨sL, by rw [upd_ne (Ne.symm pL)]; exact nb.2.1, nb.2.2.1, PL⟩
          have hlt : i < ds.length := hi'
          refine ⟨refs its, k6.2, ?_, S4, wipeE ρ3 vs, upd B1 p (.lst xs), its ++ [(p, xs)], dn ++ [bs], rest', ((e2.trans e3).trans e6), eB.trans (Ex.new pB1), P8.writeN nbL, ?_, nbL, ?_, ?_, ?_, ?_, hr1, ?_⟩
          · unfold refs
            rw [List.length_map, Paired.length rll, sizeLine_eq]
            have := congrArg List.length hall
            rw [List.length_append] at this
            omega
          · rw [upd_same]; unfold refs; rw [List.map_append]; rfl
          · intro q hq
            rcases List.mem_append.mp hq with hq | hq
            · obtain ⟨z1, z2, z3, z4, z5⟩ := hits q hq
              exact ⟨by rw [upd_ne (fun z => by rw [z, pB1] at z1; cases z1)]; exact z1, z2, z3, z4, z5⟩
            · have : q = (p, xs) := by simpa using hq
              subst this
              exact ⟨upd_same, pB, n6.2.2.1, by rw [← P8.base p _ upd_same]; exact n6.1, pL⟩
          · rw [List.map_append, List.nodup_append]
            refine ⟨hnd, by simp, fun a ha b hb z => ?_⟩
            have hb' : b = p := by simpa using hb
            obtain ⟨q, hq, rfl⟩ := List.mem_map.mp ha
            obtain ⟨z1, _⟩ := hits q hq
            rw [z, hb', pB1] at z1; cases z1
          · rw [List.length_append, List.length_singleton]; omega
          · exact paired_snoc (G := fun (q : Addr × List V) (bs : List D) => RpL S4 q.2 bs) (a := (p, xs)) h2 (RpLL.mono (e3.trans e6) rll)
          · rw [hall, ← hr2, List.append_assoc]; rfl
    · rintro H' ⟨S', ρ', B1, its, dn, rest, e2, eB, R2, hLv, nb, hits, hnd, _, rll, hrest, hall⟩
      rw [List.drop_length] at hrest
      have : rest = [] := by
        unfold llLoop at hrest
        exact (Option.some.inj hrest).symm
      rw [this, List.append_nil] at hall
      refine a L its H' S' (e1.trans e2) R2.sub (fun b o h m => R2.keep b o (eB b o h) m) (fun b o h => R2.base b o (eB b o h)) R2.tabs (eB.none nb.2.1) hLv nb.1 hnd (fun q hq => ?_) (by rw [hall]; exact rll)
      obtain ⟨z1, z2, z3, z4, z5⟩ := hits q hq
      exact ⟨z2, R2.keep _ _ z1 z3, by rw [R2.base _ _ z1]; exact z4, z5⟩
/-! ### a for over a new list of new lists -/
def sLoopB (j : Nat) (fb : Fs) : List (List D) → En → Out
  | [], ρ => .nx ρ
  | bs :: bss, ρ => match fb (ρ.set j (.ow bs)) with
    | .nx ρ2 => sLoopB j fb bss ρ2
    | .ct ρ2 => sLoopB j fb bss ρ2
    | .bk ρ2 => .nx ρ2
    | .rt rv ρ2 => .rt rv ρ2
    | .err c fs => .err c fs
    | .no => .no
def sForB (n : Nat) (F : List D → Option (List (List D))) (fa : Fa) (j : Nat) (fb : Fs) : Fs := fun ρ => onR (fa ρ) fun ds ρ1 => if ds.length = n then (match F ds with
  | some bss => sLoopB j fb bss ρ1
  | none => .no) else .no
def pinL (B : Hp) : Its' → Hp
  | [] => B
  | q :: r => upd (pinL B r) q.1 (.lst q.2)
theorem pinL_none {B : Hp} {a : Addr} : ∀ {its : Its'}, B a = none → (∀ q ∈ its, q.1 ≠ a) → pinL B its a = none
  | [], h, _ => h
  | q :: r, h, n => by
    show upd (pinL B r) q.1 (.lst q.2) a = none
    rw [upd_ne (Ne.symm (n q (by simp)))]
    exact pinL_none h fun q hq => n q (by simp [hq])
theorem pinL_ex {B : Hp} : ∀ {its : Its'}, (∀ q ∈ its, B q.1 = none) → (its.map Prod.fst).Nodup → Ex B (pinL B its)
  | [], _, _ => Ex.refl B
  | q :: r, h, nd => by
    have nd' := List.nodup_cons.mp nd
    refine (pinL_ex (fun q hq => h q (by simp [hq])) nd'.2).trans (Ex.new ?_)
    exact pinL_none (h q (by simp)) fun q' hq' z => nd'.1 (List.mem_map.mpr ⟨q', hq', z⟩)
theorem Rel.pinL {B S0 : Hp} {M : List Addr} {σ : L2.St} {H S : Hp} {ρ : En} (R : Rel B S0 M σ H S ρ) : ∀ {its : Its'}, (∀ q ∈ its, H q.1 = some (.lst q.2) ∧ S q.1 = none ∧ q.1 ∉ M ∧ NoSl σ ρ q.1) → Rel (DL.pinL B its) S0 M σ H S ρ
  | [], _ => R
  | q :: r, h => by
    obtain ⟨h1, h2, h3, h4⟩ := h q (by simp)
    exact (R.pinL (its := r) fun q hq => h q (by simp [hq])).pin h1 h2 h3 h4
theorem rs_forB {EW : EWT} {E : XK} {n : Nat} {F : List D → Option (List (List D))} {tr : TA} {fa : Fa} {j : Nat} {ts : TS} {fs : Fs} (ha : RA ER tr fa) (hb : RS ER ts fs) : RS ER (tFor (iSeq K (tCall (spLL n EW F) [] E tr)) (gName j) ts) (sForB n F fa j fs) := ⟨fun B S0 M σ H S ρ D R a => by
  refine ha.go B S0 M σ H S ρ _ R ?_
  unfold sForB at a
  cases e : fa ρ with
  | err c fs => rw [e] at a; exact a
  | no => rw [e] at a; exact (show False from a).elim
  | ok p =>
    obtain ⟨ds, ρ1⟩ := p
    rw [e] at a
    replace a : AS ER B S0 M S D (if ds.length = n then (match F ds with
      | some bss => sLoopB j fs bss ρ1
      | none => .no) else .no) := a
    intro xs H1 S1 e1 R1 r1
    by_cases hl : ds.length = n
    · rw [if_pos hl] at a
      show spLL n EW F (xs ++ []) H1 _ E
      refine ⟨S1, ds, R1.sub, R1.tabs.low, by rw [List.append_nil]; exact r1, hl, ?_⟩
      cases eF : F ds with
      | none => rw [eF] at a; exact (show False from a).elim
      | some bss =>
        rw [eF] at a
        replace a : AS ER B S0 M S D (sLoopB j fs bss ρ1) := a
        intro p its H2 S2 e2 s2 k2 b2 t2 hp hp2 sp nd hits rll
        -- the frame behind the call
        have R2 : Rel B S0 M σ H2 S2 ρ1 := by
          refine ⟨s2, R1.s0.trans e2, fun b o hb hm => k2 _ _ (R1.keep b o hb hm) fun z => hm (R1.tabs.sub b z), fun b hm => ?_, fun b o hb => ?_, R1.len, fun i s hi => ?_, R1.apart, t2.up R1.tabs.sub⟩
          · by_cases z : b ∈ tbs
            · obtain ⟨ps, z⟩ := t2.tbl z
              exact ⟨_, z⟩
            · obtain ⟨o, ho⟩ := R1.there b hm
              exact ⟨o, k2 _ _ ho z⟩
          · have : ∃ o', H1 b = some o' := by
              by_cases hm : b ∈ M
              · exact R1.there b hm
              · exact ⟨o, R1.keep b o hb hm⟩
            obtain ⟨o', ho'⟩ := this
            rw [b2 b o' ho', R1.base b o hb]
          · exact (R1.ats i s hi).mono e2 fun l o ev ow h1 h2 => ⟨k2 _ _ h1 (R1.notab hi ow ev), by rw [b2 l o h1]; exact h2⟩
        have fr : ∀ b, H1 b = none → B b = none ∧ b ∉ M ∧ NoSl σ ρ1 b := fun b hb => by
          obtain ⟨_, z2, z3, z4⟩ := R1.nobody hb
          exact ⟨z2, z3, z4⟩
        refine .inl ⟨p, rfl, ⟨_, SqL.of hp2⟩, ?_⟩
        have pin0 : Rel (upd (DL.pinL B its) p (.lst (refs its))) S0 M σ H2 S2 ρ1 :=
          (R2.pinL (its := its) fun q hq => ⟨(hits q hq).2.1, (hits q hq).2.2.1, (fr q.1 (hits q hq).1).2.1, (fr q.1 (hits q hq).1).2.2⟩).pin hp2 sp (fr p hp).2.1 (fr p hp).2.2
        refine for_it (walk_list (K := K) (a := p) (xs := refs its)) (fun i σ' H' => ∃ S' ρ' rest brest, Ex S2 S' ∧ its.drop i = rest ∧ bss.drop i = brest ∧ Rel (upd (DL.pinL B rest) p (.lst (refs its))) S0 M σ' H' S' ρ' ∧ AS ER B S0 M S' D (sLoopB j fs brest ρ'))
          ⟨S2, ρ1, its, bss, Ex.refl S2, rfl, rfl, pin0, AS.later (e1.trans e2) a⟩ ?_ ?_ ?_
        · rintro i σ' H' _ ⟨S', ρ', rest, brest, _, _, _, R3, _⟩
          exact SqL.of (R3.keep p _ upd_same (fr p hp).2.1)
        · rintro i x σ' H' H'' hi' ⟨S', ρ', rest, brest, e3, hr, hbr, R3, a3⟩ ⟨rfl, hx⟩
          have hil : i < its.length := by
            have : (refs its).length = its.length := by simp [refs]
            omega
          have hlb : its.length = bss.length := Paired.length rll
          have hdr : its.drop i = its[i] :: its.drop (i + 1) := List.drop_eq_getElem_cons hil
          have hdb : bss.drop i = bss[i]'(by omega) :: bss.drop (i + 1) := List.drop_eq_getElem_cons (by omega)
          have hxe : x = .ref its[i].1 := by
            unfold refs at hx
            rw [List.getElem?_map, List.getElem?_eq_getElem hil] at hx
            exact (Option.some.inj hx).symm
          obtain ⟨qi, hqi⟩ : ∃ q, q = its[i] := ⟨_, rfl⟩
          have hq : qi ∈ its := by rw [hqi]; exact List.getElem_mem hil
          obtain ⟨q1, q2, q3, q4⟩ := hits qi hq
          rw [← hr, hdr, ← hqi] at R3
          rw [← hbr, hdb] at a3
          have ndd : ((its.drop i).map Prod.fst).Nodup := by
            rw [List.map_drop]
            exact nd.sublist (List.drop_sublist _ _)
          rw [hdr, ← hqi, List.map_cons, List.nodup_cons] at ndd
          have inB : ∀ q ∈ its.drop (i + 1), B q.1 = none := fun q hq => (fr q.1 (hits q (List.mem_of_mem_drop hq)).1).1
          have atq : upd (DL.pinL B (qi :: its.drop (i + 1))) p (.lst (refs its)) qi.1 = some (.lst qi.2) := by
            rw [upd_ne q4]
            exact upd_same
          have pk := R3.pinned atq (fr qi.1 q1).2.1
          have smaller : Ex (upd (DL.pinL B (its.drop (i + 1))) p (.lst (refs its))) (upd (DL.pinL B (qi :: its.drop (i + 1))) p (.lst (refs its))) := fun b o hb => by
            by_cases z : b = p
            · rw [z, upd_same] at hb ⊢; exact hb
            · rw [upd_ne z] at hb ⊢
              have : b ≠ qi.1 := fun y => by
                rw [y, pinL_none (fr qi.1 q1).1 fun q hq z => ndd.1 (List.mem_map.mpr ⟨q, hq, z⟩)] at hb
                cases hb
              show upd (DL.pinL B (its.drop (i + 1))) qi.1 (.lst qi.2) b = some o
              rw [upd_ne this]; exact hb
          have R4 := R3.weak smaller
          have noneq : upd (DL.pinL B (its.drop (i + 1))) p (.lst (refs its)) qi.1 = none := by
            rw [upd_ne q4]
            exact pinL_none (fr qi.1 q1).1 fun q hq z => ndd.1 (List.mem_map.mpr ⟨q, hq, z⟩)
          have S'q : S' qi.1 = none := by
            rw [R3.base _ _ atq, ← pin0.base qi.1 (.lst qi.2) ?_]
            · exact q3
            · rw [upd_ne q4]
              have hmem : ∀ (l : Its'), qi ∈ l → (l.map Prod.fst).Nodup → DL.pinL B l qi.1 = some (.lst qi.2) := by
                intro l
                induction l with
                | nil => intro h _; cases h
                | cons c l ih =>
                  intro h nd
                  rcases List.mem_cons.mp h with rfl | h
                  · exact upd_same
                  · have ndc := List.nodup_cons.mp nd
                    show upd (DL.pinL B l) c.1 (.lst c.2) qi.1 = _
                    rw [upd_ne (fun z => ndc.1 (List.mem_map.mpr ⟨qi, h, z⟩))]
                    exact ih h ndc.2
              exact hmem its hq nd
          have rq : RpL S' qi.2 (bss[i]'(by omega)) := by
            have g : ∀ {l : Its'} {m : List (List PyData)} {k : Nat} {q : Addr × List V}, RpLL S2 l m → l[k]? = some q → ∃ b, m[k]? = some b ∧ RpL S2 q.2 b := fun r h => paired_get r h
            obtain ⟨b, hb1, hb2⟩ := g rll (List.getElem?_eq_getElem hil)
            rw [List.getElem?_eq_getElem (by omega)] at hb1
            rw [hqi, Option.some.inj hb1]
            exact RpL.mono e3 _ hb2
          have R5 := R4.setOwn (i := j) (s0 := .ow (bss[i]'(by omega))) ⟨qi.1, qi.2, rfl, pk.2, S'q, rq, noneq, (fr qi.1 q1).2.1⟩ pk.1
          show ts _ (σ'.set j (some x)) H''
          rw [hxe, ← hqi]
          refine hb.go _ S0 M _ H'' S' _ _ R5 ?_
          unfold sLoopB at a3
          have toB : Ex B (upd (DL.pinL B (its.drop (i + 1))) p (.lst (refs its))) := by
            refine (pinL_ex inB ndd.2).trans (Ex.new ?_)
            exact pinL_none (fr p hp).1 fun q hq => (hits q (List.mem_of_mem_drop hq)).2.2.2
          cases eb : fs (ρ'.set j (.ow (bss[i]'(by omega)))) with
          | nx ρ2 => rw [eb] at a3; exact fun σ3 H3 S3 e5 R6 => ⟨S3, ρ2, _, _, e3.trans e5, rfl, rfl, R6, AS.later e5 a3⟩
          | ct ρ2 => rw [eb] at a3; exact fun σ3 H3 S3 e5 R6 => ⟨S3, ρ2, _, _, e3.trans e5, rfl, rfl, R6, AS.later e5 a3⟩
          | bk ρ2 => rw [eb] at a3; exact fun σ3 H3 S3 e5 R6 => a3 σ3 H3 S3 e5 (R6.weak toB)
          | rt rv ρ2 =>
            rw [eb] at a3
            intro v σ3 H3 S3 e5 R6 g6
            refine a3 v σ3 H3 S3 e5 (R6.weak toB) ?_
            cases rv with
            | sh d => exact g6
            | fr d => obtain ⟨p', vs', z1, z2, z3, z4, z5, z6⟩ := g6; exact ⟨p', vs', z1, z2, z3, z4, toB.none z5, z6⟩
            | fk d => obtain ⟨p', vs', z1, z2, z3, z4, z5, z6⟩ := g6; exact ⟨p', vs', z1, z2, z3, z4, toB.none z5, z6⟩
          | err c fs => rw [eb] at a3; exact fun H' kp => a3 H' (kp.weak toB)
          | no => rw [eb] at a3; exact (show False from a3).elim
        · rintro σ' H' ⟨S', ρ', rest, brest, e3, hr, hbr, R3, a3⟩
          have hz : (refs its).length = its.length := by simp [refs]
          have hlb : its.length = bss.length := Paired.length rll
          rw [hz, List.drop_length] at hr
          rw [hz, hlb, List.drop_length] at hbr
          subst hr hbr
          exact a3 σ' H' S' (Ex.refl S') (R3.weak (Ex.new (fr p hp).1))
    · rw [if_neg hl] at a; exact (show False from a).elim⟩
end
end DL

set_option Elab.async false
set_option linter.all false
set_option maxRecDepth 100000
set_option maxHeartbeats 4000000
namespace DL
open PySem PySem.Spec PyProof.Rows L2
variable [Wr]
/-! ### built-ins by their names -/
structure Bn (mg : Str → Option Value) : Prop where
  abs : mg "abs" = none
  all : mg "all" = none
  any : mg "any" = none
  bool : mg "bool" = none
  dict : mg "dict" = none
  enumerate : mg "enumerate" = none
  int : mg "int" = none
  isinstance : mg "isinstance" = none
  len : mg "len" = none
  list : mg "list" = none
  max : mg "max" = none
  min : mg "min" = none
  range : mg "range" = none
  repr : mg "repr" = none
  set : mg "set" = none
  sorted : mg "sorted" = none
  str : mg "str" = none
  sum : mg "sum" = none
  tuple : mg "tuple" = none
  zip : mg "zip" = none
theorem b_abs : bootBuiltins "abs" = some (.builtin "abs") := by decide +kernel
theorem b_all : bootBuiltins "all" = some (.builtin "all") := by decide +kernel
theorem b_any : bootBuiltins "any" = some (.builtin "any") := by decide +kernel
theorem b_bool : bootBuiltins "bool" = some (.type "bool") := by decide +kernel
theorem b_dict : bootBuiltins "dict" = some (.type "dict") := by decide +kernel
theorem b_int : bootBuiltins "int" = some (.type "int") := by decide +kernel
theorem b_isinstance : bootBuiltins "isinstance" = some (.builtin "isinstance") := by decide +kernel
theorem b_len : bootBuiltins "len" = some (.builtin "len") := by decide +kernel
theorem b_list : bootBuiltins "list" = some (.type "list") := by decide +kernel
theorem b_max : bootBuiltins "max" = some (.builtin "max") := by decide +kernel
theorem b_min : bootBuiltins "min" = some (.builtin "min") := by decide +kernel
theorem b_repr : bootBuiltins "repr" = some (.builtin "repr") := by decide +kernel
theorem b_set : bootBuiltins "set" = some (.type "set") := by decide +kernel
theorem b_sorted : bootBuiltins "sorted" = some (.builtin "sorted") := by decide +kernel
theorem b_str : bootBuiltins "str" = some (.type "str") := by decide +kernel
theorem b_sum : bootBuiltins "sum" = some (.builtin "sum") := by decide +kernel
theorem b_tuple : bootBuiltins "tuple" = some (.type "tuple") := by decide +kernel
section
variable {X : Cx}
theorem c_len : CallR X (.builtin "len") (rLenD X.K) := call_len
theorem c_tuple : CallR X (.type "tuple") (rTupleF X.K) := by
  intro pins s σ H vs us Q I rv hx
  obtain ⟨pt, ys, rfl, hx⟩ := hx
  obtain ⟨u, rfl, ru⟩ := vals1 rv
  cases ru
  rcases hx with ⟨sq, qx⟩ | ⟨sq, qx⟩
  · obtain ⟨its, ri, pl, sz⟩ := I.list sq
    have hlen := ri.length
    refine call_tuple_list pl.isList (fun hh kp => ?_) (by simp only [List.size_toArray] <;> omega)
    have Ia : Inv X pins σ H { s with heap := hh } := I.kept (t' := s.toks) kp
    have Ib : Inv X pins σ (upd H hh.objs.size (.frz { cls := .type "tuple", data := .seq its.toArray } (.tup ys))) { s with heap := hh.push { cls := .type "tuple", data := .seq its.toArray } } :=
      Ia.laid (t' := s.toks) (fun b o e => Heap.get?_push_of_some _ e) (Nat.le_refl _) ⟨Heap.get?_push_size _ rfl, sz, its, ri, IsTup.new _ _⟩
    exact ⟨.ref hh.objs.size, _, Ib, rfl, qx _ _ ⟨rfl, rfl⟩ (Ia.hok.fresh (Nat.le_refl _))⟩
  · obtain ⟨its, ri, pl, sz⟩ := I.tuple sq
    exact call_tuple_same pl ⟨.ref pt, H, I, rfl, qx⟩
theorem c_list : CallR X (.type "list") (rListF X.K) := call_list_of
theorem c_int : CallR X (.type "int") rIntF := call_int1
theorem c_max2 (hc : X.calm = true) : CallR X (.builtin "max") rMax2 := call_max2 hc
theorem c_min2 (hc : X.calm = true) : CallR X (.builtin "min") rMin2 := call_min2 hc
theorem c_abs : CallR X (.builtin "abs") rAbsF := call_abs
end
theorem hu65 {A : Around} {k : Nat} (hr : Room k A) : A.units + 65 < cLine := by have := hr.un; omega
abbrev FnP (K : PySem.W.Frag) (x : Str) (st : Stmt) (f : Addr) (fd : FuncData) : Prop := FunD K x x (defArgs st) (defBody st) (defScope st) [] [] f fd
section
variable {P : Program} {w : World} {K : PySem.W.Frag} {mg : Str → Option Value} {base : Heap}
/-- a def by its name: it raises nothing -/
structure Cal0 (P : Program) (w : World) (K : PySem.W.Frag) (mg : Str → Option Value) (base : Heap) (k : Nat) (x : Str) (sp : Sp) : Prop where
  ex : ∃ (f : Addr) (fd : FuncData) (ps : List Str), FnOk P w K mg base CX0 k f fd ps sp ∧ mg x = some (.ref f) ∧ PySem.W.keepIn K (.ref f) = true ∧ Binds K fd ps []
theorem pe_c0 {X : Cx} {k j : Nat} {x : Str} {sp : Sp} {t : TA} {e : Expr} {es : List Expr} {p pos : Pos} (c : Cal0 X.prog X.w X.K X.mg X.base k x sp) (hr : Room j X.A) (hk : k ≤ j) (hg : Gl X x) (ha : PA X (e :: es) t)
    (hdb : (x == ("__debug__" : Str)) = false := by decide) (he : starEach (e :: es) X.env = (false, eval e X.env) :: starEach es X.env := by rfl) (hpl : (backTo pos (starEach es X.env)).any (·.1) = false := by rfl) :
    PE X (.Call (.Name x p) (e :: es) [] pos) (tCall sp [] E0 t) := by
  obtain ⟨f, fd, ps, F, hm, kp, b⟩ := c.ex
  exact pe_call F (hr.mono hk) hg hm kp b .nil pass0 ha hdb he hpl
theorem calP {k : Nat} {x : Str} {f : Addr} {fd : FuncData} {ps : List Str} {sp : Sp} {st : Stmt} (F : FnP K x st f fd) (G : FnOk P w K mg base CX0 k f fd ps sp) (m : mg x = some (.ref f)) (b : Binds K fd ps []) : Cal0 P w K mg base k x sp := ⟨f, fd, ps, G, m, F.kp, b⟩
def runLL (m : Nat) (fi : Fa) (j : Nat) (fe : Fe) (vs : List Nat) (ds : List D) : Option (List (List D)) := match dLL fi j fe vs (startE m ds) with
  | some bss => if bss.length ≤ 1000 then some bss else none
  | none => none
/-- a def whose body is one comprehension of new lists -/
theorem fnLL {EW : EWT} {CX : CXT} {x qual : Str} {params : Arguments} {body : List Stmt} {scope : Scope} {f : Addr} {fd : FuncData} {N ps : List Str} {k n m : Nat} {j : Nat} {vs : List Nat} {fi : Fa} {fe : Fe}
    (F : FunD K x qual params body scope [] [] f fd) (S : FnScope N ps scope) (hn : ps.length = n) (hm : N.length = m) (hj : j ∈ vs)
    (hbody : ∀ (cdv : Value) (A : Around) (outer : List Env) (s : Shared) (H : Hp) (E : XK), Room k (A.deeper (envOfC qual scope s.heap.objs.size f cdv)) →
      ∃ wi te, PSs (cxOf CX P w K mg base N qual scope f cdv A outer s H E) body (tRet (tLc wi (gName j) tYes te vs)) ∧ RI ER0 wi fi ∧ RE ER0 te fe) :
    FnOk P w K mg base CX (k + 1) f fd ps (spLL n EW (runLL m fi j fe vs)) := by
  subst hm
  have hNl : n ≤ N.length := by
    have := congrArg List.length S.pre
    rw [List.length_take] at this
    omega
  refine F.ok S (fun vs H Q E h => ?_) (fun cdv A outer s H vs' Q E hr h => ?_)
  · obtain ⟨S', ds, _, _, r, hl, _⟩ := h
    rw [r.length, hl, hn]
  · obtain ⟨S', ds, sub, tb, r, hl, h⟩ := h
    obtain ⟨wi, te, h1, h2, h3⟩ := hbody cdv A outer s H E hr
    refine ⟨_, h1, ?_⟩
    unfold runLL at h
    cases e : dLL fi j fe vs (startE N.length ds) with
    | none => rw [e] at h; exact (show False from h).elim
    | some bss =>
      rw [e] at h
      by_cases hb : bss.length ≤ 1000
      · simp only [if_pos hb] at h
        show tLc wi (gName j) tYes te vs (start N vs') H Q
        refine lcLL h2 hj h3 (rel_start sub tb r (by omega)) e hb fun p its H' S2 e1 s1 kp b1 t1 hp hp2 sp nd hits rll => ?_
        exact h p its H' S2 e1 s1 (fun a o q z => kp a o q z) (fun a o q => b1 a o q) t1 hp hp2 sp nd hits rll
      · simp only [if_neg hb] at h
end
end DL

set_option Elab.async false
set_option linter.all false
set_option maxRecDepth 100000
set_option maxHeartbeats 4000000
/-! own dicts; sorted -/
namespace DL
open PySem PySem.Spec PyProof.Rows L2
variable [Wr]
/-! ### sorting -/
def leS (a b : Str) : Bool := !ltCps b.cps.toList a.cps.toList
def insS (x : Str) : List Str → List Str
  | [] => [x]
  | y :: r => if leS x y = true then x :: y :: r else y :: insS x r
def srtS : List Str → List Str
  | [] => []
  | x :: r => insS x (srtS r)
def insI (x : Int) : List Int → List Int
  | [] => [x]
  | y :: r => if x ≤ y then x :: y :: r else y :: insI x r
def srtI : List Int → List Int
  | [] => []
  | x :: r => insI x (srtI r)
theorem insI_perm (x : Int) : ∀ l, (insI x l).Perm (x :: l)
  | [] => .refl _
  | y :: r => by
    unfold insI
    split
    · exact .refl _
    · exact ((insI_perm x r).cons y).trans (.swap x y r)
theorem srtI_perm : ∀ l, (srtI l).Perm l
  | [] => .refl _
  | x :: r => (insI_perm x (srtI r)).trans ((srtI_perm r).cons x)
theorem insI_sorted (x : Int) : ∀ l, l.Pairwise (· ≤ ·) → (insI x l).Pairwise (· ≤ ·)
  | [], _ => by simp [insI]
  | y :: r, h => by
    unfold insI
    rw [List.pairwise_cons] at h
    split
    · rename_i hx
      rw [List.pairwise_cons, List.pairwise_cons]
      exact ⟨fun z hz => by
        rcases List.mem_cons.mp hz with rfl | hz
        · exact hx
        · exact Int.le_trans hx (h.1 z hz), h⟩
    · rename_i hx
      rw [List.pairwise_cons]
      refine ⟨fun z hz => ?_, insI_sorted x r h.2⟩
      rcases List.mem_cons.mp ((insI_perm x r).mem_iff.mp hz) with rfl | hz
      · omega
      · exact h.1 z hz
theorem srtI_sorted : ∀ l, (srtI l).Pairwise (· ≤ ·)
  | [] => .nil
  | x :: r => insI_sorted x _ (srtI_sorted r)
/-- a list in order is told by its items -/
theorem sorted_unique {α : Type} {le : α → α → Prop} (anti : ∀ a b, le a b → le b a → a = b) : ∀ {l m : List α}, l.Pairwise le → m.Pairwise le → l.Perm m → l = m
  | [], m, _, _, p => (List.Perm.nil_eq p)
  | x :: l, m, h1, h2, p => by
    cases m with
    | nil => exact (List.Perm.eq_nil p)
    | cons y m =>
      rw [List.pairwise_cons] at h1 h2
      have e : x = y := by
        have hx := p.mem_iff.mp (List.mem_cons_self (a := x))
        have hy := p.mem_iff.mpr (List.mem_cons_self (a := y))
        rcases List.mem_cons.mp hx with z | hx
        · exact z
        · rcases List.mem_cons.mp hy with z | hy
          · exact z.symm
          · exact anti x y (h1.1 y hy) (h2.1 x hx)
      subst e
      rw [sorted_unique anti h1.2 h2.2 (List.Perm.cons_inv p)]
theorem srtI_eq {l m : List Int} (h : m.Pairwise (· ≤ ·)) (p : m.Perm l) : m = srtI l :=
  sorted_unique (fun _ _ => Int.le_antisymm) h (srtI_sorted l) (p.trans (srtI_perm l).symm)
theorem leS_iff {a b : Str} : leS a b = true ↔ a.cps.toList ≤ b.cps.toList := by
  unfold leS
  rw [ltCps_eq]
  by_cases h : b.cps.toList < a.cps.toList
  · rw [decide_eq_true h]
    exact ⟨fun z => Bool.noConfusion z, fun z => absurd h (List.not_lt.mpr z)⟩
  · rw [decide_eq_false h]
    exact ⟨fun _ => List.not_lt.mp h, fun _ => rfl⟩
theorem leS_trans {a b c : Str} (h1 : leS a b = true) (h2 : leS b c = true) : leS a c = true := leS_iff.mpr (List.le_trans (leS_iff.mp h1) (leS_iff.mp h2))
theorem leS_anti {a b : Str} (h1 : leS a b = true) (h2 : leS b a = true) : a = b := by
  have := List.le_antisymm (leS_iff.mp h1) (leS_iff.mp h2)
  cases a with | mk a => cases b with | mk b => cases a; cases b; simp_all
theorem leS_total (a b : Str) : leS a b = true ∨ leS b a = true := by
  rcases List.le_total a.cps.toList b.cps.toList with h | h
  · exact .inl (leS_iff.mpr h)
  · exact .inr (leS_iff.mpr h)
theorem insS_perm (x : Str) : ∀ l, (insS x l).Perm (x :: l)
  | [] => .refl _
  | y :: r => by
    unfold insS
    split
    · exact .refl _
    · exact ((insS_perm x r).cons y).trans (.swap x y r)
theorem srtS_perm : ∀ l, (srtS l).Perm l
  | [] => .refl _
  | x :: r => (insS_perm x (srtS r)).trans ((srtS_perm r).cons x)
abbrev LeS (a b : Str) : Prop := leS a b = true
theorem insS_sorted (x : Str) : ∀ l, l.Pairwise LeS → (insS x l).Pairwise LeS
  | [], _ => by simp [insS]
  | y :: r, h => by
    unfold insS
    rw [List.pairwise_cons] at h
    split
    · rename_i hx
      rw [List.pairwise_cons, List.pairwise_cons]
      exact ⟨fun z hz => by
        rcases List.mem_cons.mp hz with rfl | hz
        · exact hx
        · exact leS_trans hx (h.1 z hz), h⟩
    · rename_i hx
      rw [List.pairwise_cons]
      refine ⟨fun z hz => ?_, insS_sorted x r h.2⟩
      rcases List.mem_cons.mp ((insS_perm x r).mem_iff.mp hz) with rfl | hz
      · exact (leS_total z y).resolve_left hx
      · exact h.1 z hz
theorem srtS_sorted : ∀ l, (srtS l).Pairwise LeS
  | [] => .nil
  | x :: r => insS_sorted x _ (srtS_sorted r)
theorem risingS_pair : ∀ (l : List Str) (p : Str), risingS p l = true → (p :: l).Pairwise LeS
  | [], p, _ => by simp
  | x :: r, p, h => by
    have h' : (!ltCps x.cps.toList p.cps.toList) = true ∧ risingS x r = true := by
      have : (!ltCps x.cps.toList p.cps.toList && risingS x r) = true := h
      rwa [Bool.and_eq_true] at this
    have ih := risingS_pair r x h'.2
    rw [List.pairwise_cons]
    refine ⟨fun z hz => ?_, ih⟩
    have hp : LeS p x := h'.1
    rw [List.pairwise_cons] at ih
    rcases List.mem_cons.mp hz with rfl | hz
    · exact hp
    · exact leS_trans hp (ih.1 z hz)
theorem srtS_eq {l m : List Str} (h : sortedS m = true) (p : m.Perm l) : m = srtS l := by
  have hm : m.Pairwise LeS := by
    cases m with
    | nil => exact .nil
    | cons x r => exact risingS_pair r x h
  exact sorted_unique (fun _ _ => leS_anti) hm (srtS_sorted l) (p.trans (srtS_perm l).symm)
/-! ### own dicts -/
def dctOf : Sl → Option KD
  | .od kvs => some kvs
  | _ => none
def isDc (ρ : En) (i : Nat) : Bool := (ρ[i]?.bind dctOf).isSome
theorem isDc_some {ρ : En} {i : Nat} (h : isDc ρ i = true) : ∃ kvs, ρ[i]? = some (.od kvs) := by
  unfold isDc at h
  cases e : ρ[i]? with
  | none => rw [e] at h; cases h
  | some s =>
    rw [e] at h
    cases s with
    | od kvs => exact ⟨kvs, rfl⟩
    | _ => cases h
def keyOf : D → Option Key
  | .int i => some (.inl i)
  | .str x => some (.inr x)
  | _ => none
theorem keyOf_rp {S : Hp} {v : V} {d : D} {k : Key} (r : Rp S v d) (h : keyOf d = some k) : v = kV k := by
  cases d with
  | int i => cases h; exact r
  | str x => cases h; exact r
  | _ => cases h
def putD (kvs : KD) (k : Key) (d : D) : KD := if (kvs.any fun kv => decide (kv.1 = k)) = true then kvs.map (fun kv => if kv.1 = k then (kv.1, d) else kv) else kvs ++ [(k, d)]
def getK (kvs : KD) (k : Key) : Option D := (kvs.find? fun kv => decide (kv.1 = k)).map (·.2)
theorem RpK.any {S : Hp} {k : Key} : ∀ {ws : List (Key × V)} {kvs : KD}, RpK S ws kvs → (ws.any fun kv => decide (kv.1 = k)) = (kvs.any fun kv => decide (kv.1 = k))
  | _, _, .nil => rfl
  | _, _, .cons h t => by simp only [List.any_cons, h.1, RpK.any t]
theorem RpK.repl {S : Hp} {k : Key} {v : V} {d : D} (r : Rp S v d) : ∀ {ws : List (Key × V)} {kvs : KD}, RpK S ws kvs → RpK S (ws.map fun kv => if kv.1 = k then (kv.1, v) else kv) (kvs.map fun kv => if kv.1 = k then (kv.1, d) else kv)
  | _, _, .nil => .nil
  | p :: _, q :: _, .cons a t => by
    refine .cons ?_ (RpK.repl r t)
    show (if p.1 = k then (p.1, v) else p).1 = (if q.1 = k then (q.1, d) else q).1 ∧ Rp S (if p.1 = k then (p.1, v) else p).2 (if q.1 = k then (q.1, d) else q).2
    by_cases e : q.1 = k
    · rw [if_pos (a.1.trans e), if_pos e]; exact ⟨a.1, r⟩
    · rw [if_neg (fun z => e (a.1.symm.trans z)), if_neg e]; exact a
theorem RpK.snoc {S : Hp} {k : Key} {v : V} {d : D} (r : Rp S v d) : ∀ {ws : List (Key × V)} {kvs : KD}, RpK S ws kvs → RpK S (ws ++ [(k, v)]) (kvs ++ [(k, d)])
  | _, _, .nil => .cons ⟨rfl, r⟩ .nil
  | _, _, .cons a t => .cons a (RpK.snoc r t)
theorem RpK.put {S : Hp} {k : Key} {v : V} {d : D} (r : Rp S v d) {ws : List (Key × V)} {kvs : KD} (h : RpK S ws kvs) : RpK S (putK ws k v) (putD kvs k d) := by
  unfold putK putD
  rw [h.any]
  split
  · exact RpK.repl r h
  · exact RpK.snoc r h
theorem RpK.get {S : Hp} {k : Key} : ∀ {ws : List (Key × V)} {kvs : KD}, RpK S ws kvs → (valV ws k = none ∧ getK kvs k = none) ∨ ∃ v d, valV ws k = some v ∧ getK kvs k = some d ∧ Rp S v d
  | _, _, .nil => .inl ⟨rfl, rfl⟩
  | p :: ws, q :: kvs, .cons a t => by
    by_cases e : q.1 = k
    · exact .inr ⟨p.2, q.2, valV_pos (a.1.trans e), by simp [getK, List.find?_cons, e], a.2⟩
    · have e' : ¬ p.1 = k := fun z => e (a.1.symm.trans z)
      have g : getK (q :: kvs) k = getK kvs k := by simp [getK, List.find?_cons, e]
      rw [valV_neg e', g]
      exact RpK.get t
theorem RpK.keys {S : Hp} : ∀ {ws : List (Key × V)} {kvs : KD}, RpK S ws kvs → ws.map (·.1) = kvs.map (·.1)
  | _, _, .nil => rfl
  | _, _, .cons a t => by rw [List.map_cons, List.map_cons, a.1, RpK.keys t]
theorem RpK.len {S : Hp} {ws : List (Key × V)} {kvs : KD} (h : RpK S ws kvs) : ws.length = kvs.length := by
  have := congrArg List.length h.keys
  simpa using this
section
variable {ER : Er} {ta tb tc te : TE} {fa fb fc : Fd}
/-- {} -/
def dNewD : Fe := fun ρ => .ok (.fk [], ρ)
theorem re_dnew : RE ER tDNewK dNewD := ⟨fun B S0 M σ H S ρ Q R a p hp => a (.ref p) (upd H p (.dK [])) S (Ex.refl S) (R.lay hp) ⟨p, [], rfl, upd_same, .nil, R.nobody hp⟩⟩
/-- d[k] = e -/
def sPutD (i : Nat) (fe fk : Fd) : Fs := fun ρ => onR (fe ρ) fun d ρ1 => if isDc ρ1 i = true then onR (fk ρ1) fun k ρ2 => match keyOf k, ρ2[i]? with
  | some k, some (.od kvs) => if szOk kvs.length = true then .nx (ρ2.set i (.od (putD kvs k d))) else .no
  | _, _ => .no
  else .no
theorem rs_dput (i : Nat) (h : RD ER te fa) (hk : RD ER tb fb) : RS ER (sDPut (tVar i) tb te) (sPutD i fa fb) := ⟨fun B S0 M σ H S ρ E R a => by
  refine h.go B S0 M σ H S ρ _ R (AD.bindS a fun d ρ1 v H1 S1 e1 R1 r1 a1 => ?_)
  split at a1
  · rename_i hi
    obtain ⟨kvs0, hk0⟩ := isDc_some hi
    obtain ⟨l, ws, ev, hv, _⟩ := R1.ats i _ hk0
    refine ⟨.ref l, ev, hk.go B S0 M σ H1 S1 ρ1 _ R1 (AD.bindS a1 fun k ρ2 kv H2 S2 e2 R2 r2 a2 => ?_)⟩
    split at a2
    · rename_i key kvs hkey hs
      split at a2
      · rename_i hz
        obtain ⟨l', ws', ev', hv', hS', r', hB'⟩ := R2.ats i _ hs
        rw [ev] at ev'
        injection ev' with ev'; injection ev' with ev'; injection ev' with ev'
        subst ev'
        refine ⟨l, _, rfl, .inl ⟨ws', key, hv', keyOf_rp r2 hkey, by rw [r'.len]; exact sz_lt hz, rfl⟩, ?_⟩
        exact a2 σ _ S2 (Ex.refl S2) (R2.write hs rfl ev ⟨l, _, rfl, upd_same, hS', r'.put (Rp.mono e2 _ r1), hB'⟩)
      · exact (show False from a2).elim
    · exact (show False from a2).elim
  · exact (show False from a1).elim⟩
/-- k in d, k not in d -/
def dInD (b : Bool) (fk : Fd) (i : Nat) : Fe := fun ρ => (fk ρ).bind fun p => match keyOf p.1, p.2[i]? with
  | some k, some (.od kvs) => .ok (.sh (.bool (if b = true then (getK kvs k).isSome else !(getK kvs k).isSome)), p.2)
  | _, _ => .no
theorem re_din (i : Nat) (hk : RD ER tb fb) : RE ER (tDIn tb (tVar i)) (dInD true fb i) := ⟨fun B S0 M σ H S ρ Q R a => by
  refine hk.go B S0 M σ H S ρ _ R (AD.bindE a fun k ρ1 kv H1 S1 e1 R1 r1 a1 => ?_)
  simp only at a1
  split at a1
  · rename_i key kvs hkey hs
    obtain ⟨l, ws, ev, hv, hS, r, hB⟩ := R1.ats i _ hs
    refine ⟨.ref l, ev, l, valV ws key, rfl, .inl ⟨ws, key, .inl hv, keyOf_rp r1 hkey, rfl⟩, ?_⟩
    have e : (valV ws key).isSome = (getK kvs key).isSome := by
      rcases r.get (k := key) with ⟨h1, h2⟩ | ⟨v, d, h1, h2, _⟩ <;> simp only [h1, h2, Option.isSome_some, Option.isSome_none]
    rw [e]
    exact a1 _ H1 S1 (Ex.refl S1) R1 rfl
  · exact (show False from a1).elim⟩
theorem re_dnotin (i : Nat) (hk : RD ER tb fb) : RE ER (tDNotIn tb (tVar i)) (dInD false fb i) := ⟨fun B S0 M σ H S ρ Q R a => by
  refine hk.go B S0 M σ H S ρ _ R (AD.bindE a fun k ρ1 kv H1 S1 e1 R1 r1 a1 => ?_)
  simp only at a1
  split at a1
  · rename_i key kvs hkey hs
    obtain ⟨l, ws, ev, hv, hS, r, hB⟩ := R1.ats i _ hs
    refine ⟨.ref l, ev, l, valV ws key, rfl, .inl ⟨ws, key, .inl hv, keyOf_rp r1 hkey, rfl⟩, ?_⟩
    have e : (valV ws key).isSome = (getK kvs key).isSome := by
      rcases r.get (k := key) with ⟨h1, h2⟩ | ⟨v, d, h1, h2, _⟩ <;> simp only [h1, h2, Option.isSome_some, Option.isSome_none]
    rw [e]
    exact a1 _ H1 S1 (Ex.refl S1) R1 rfl
  · exact (show False from a1).elim⟩
def strKeys : KD → Option (List Str)
  | [] => some []
  | (.inr x, _) :: r => (strKeys r).map (x :: ·)
  | _ => none
theorem strKeys_eq : ∀ {kvs : KD} {ks : List Str}, strKeys kvs = some ks → kvs.map (·.1) = ks.map Sum.inr
  | [], _, h => by cases h; rfl
  | (.inr x, d) :: r, ks, h => by
    obtain ⟨k', h1, rfl⟩ := Option.map_eq_some_iff.mp h
    rw [List.map_cons, strKeys_eq h1]; rfl
  | (.inl x, d) :: r, ks, h => by cases h
/-- sorted(d) of an own dict of texts -/
def dSortD (i : Nat) : Fe := fun ρ => match ρ[i]? with
  | some (.od kvs) => (match strKeys kvs with
    | some ks => if decide (ks.length < 64) = true then .ok (.fr ((srtS ks).map .str), ρ) else .no
    | none => .no)
  | _ => .no
def rSortD : List V → Hp → VK → Prop := fun xs H Q => ∃ (a : Addr) (kvs : List (Key × V)) (ks : List Str), xs = [.ref a] ∧ Rd H a (.dK kvs) ∧ kvs.map (·.1) = ks.map Sum.inr ∧ ks.length < 64 ∧
    ∀ ys p, ys.Perm ks → sortedS ys = true → H p = none → Q (.ref p) (upd H p (.lst (ys.map V.str)))
theorem re_sortD (i : Nat) : RE ER (tCB rSortD (tCons (tVar i) tNil)) (dSortD i) := ⟨fun B S0 M σ H S ρ Q R a => by
  unfold dSortD at a
  split at a
  · rename_i kvs hs
    obtain ⟨l, ws, ev, hv, hS, r, hB⟩ := R.ats i _ hs
    split at a
    · rename_i ks hks
      split at a
      · rename_i h64
        refine ⟨.ref l, ev, ?_⟩
        refine ⟨l, ws, ks, rfl, .inl hv, by rw [r.keys]; exact strKeys_eq hks, of_decide_eq_true h64, fun ys p hp hso hn => ?_⟩
        rw [srtS_eq hso hp]
        exact a (.ref p) _ S (Ex.refl S) (R.lay hn) ⟨p, _, rfl, upd_same, RpL.ofStrs _, R.nobody hn⟩
      · exact (show False from a).elim
    · exact (show False from a).elim
  · exact (show False from a).elim⟩
end
end DL

set_option Elab.async false
set_option linter.all false
set_option maxRecDepth 100000
set_option maxHeartbeats 4000000
/-! sets sorted and counted, sorted lists of ints, ranges as lists -/
namespace DL
open PySem PySem.Spec PyProof.Rows L2
variable [Wr]
/-- none twice -/
def nub {α : Type} [DecidableEq α] : List α → List α
  | [] => []
  | x :: l => if x ∈ l then nub l else x :: nub l
theorem mem_nub {α : Type} [DecidableEq α] {k : α} : ∀ {l : List α}, k ∈ nub l ↔ k ∈ l
  | [] => Iff.rfl
  | x :: l => by
    unfold nub
    have ih := mem_nub (k := k) (l := l)
    split
    · rename_i h
      rw [ih, List.mem_cons]
      exact ⟨.inr, fun z => z.elim (fun e => e ▸ h) id⟩
    · rw [List.mem_cons, List.mem_cons, ih]
theorem nub_nodup {α : Type} [DecidableEq α] : ∀ (l : List α), (nub l).Nodup
  | [] => List.nodup_nil
  | x :: l => by
    unfold nub
    split
    · exact nub_nodup l
    · rename_i h
      exact List.nodup_cons.mpr ⟨fun z => h (mem_nub.mp z), nub_nodup l⟩
theorem nub_of_nodup {α : Type} [DecidableEq α] : ∀ {l : List α}, l.Nodup → nub l = l
  | [], _ => rfl
  | x :: l, h => by
    obtain ⟨h1, h2⟩ := List.nodup_cons.mp h
    unfold nub
    rw [if_neg h1, nub_of_nodup h2]
theorem nub_length_le {α : Type} [DecidableEq α] : ∀ (l : List α), (nub l).length ≤ l.length
  | [] => Nat.le_refl _
  | x :: l => by
    have ih := nub_length_le l
    unfold nub
    split
    · simp; omega
    · simp; omega
theorem nub_length_lt {α : Type} [DecidableEq α] : ∀ {l : List α}, ¬ l.Nodup → (nub l).length < l.length
  | [], h => absurd List.nodup_nil h
  | x :: l, h => by
    unfold nub
    split
    · have := nub_length_le l
      simp; omega
    · rename_i hx
      have : ¬ l.Nodup := fun z => h (List.nodup_cons.mpr ⟨hx, z⟩)
      have := nub_length_lt this
      simp; omega
theorem nub_perm {α : Type} [DecidableEq α] {l ys : List α} (nd : ys.Nodup) (h : ∀ k, k ∈ ys ↔ k ∈ l) : ys.Perm (nub l) :=
  (List.perm_ext_iff_of_nodup nd (nub_nodup l)).mpr fun k => (h k).trans mem_nub.symm
def sortSetD : D → Option Rv
  | .tuple ds => match strsOf ds with
    | some xs => if decide (xs.length < 64) = true then some (.fr ((srtS (nub xs)).map .str)) else none
    | none => match intsOf ds with
      | some xs => if decide (xs.length < 64) = true then some (.fr ((srtI (nub xs)).map .int)) else none
      | none => none
  | _ => none
def dSortSet (fa : Fd) : Fe := fun ρ => (fa ρ).bind fun p => optR (sortSetD p.1) p.2
def lenSetD : D → Option Rv
  | .tuple ds => match intsOf ds with
    | some xs => if decide (xs.length < 64) = true then some (.sh (.int ((nub xs).length : Nat))) else none
    | none => none
  | _ => none
def dLenSet (fa : Fd) : Fe := fun ρ => (fa ρ).bind fun p => optR (lenSetD p.1) p.2
section
variable {ER : Er} {ta tb : TE} {fa fb : Fd} {K : PySem.W.Frag}
theorem re_sortSet (h : RD ER ta fa) : RE ER (SX.tSortSet K ta) (dSortSet fa) := ⟨fun B S0 M σ H S ρ Q R a => by
  refine h.go B S0 M σ H S ρ _ R (AD.bindE a fun d ρ1 x H1 S1 e1 R1 r1 a1 => ?_)
  replace a1 : AE ER B S0 M σ S1 Q (optR (sortSetD d) ρ1) := a1
  cases d with
  | tuple ds =>
    obtain ⟨l, vs, rfl, hl, rl⟩ := r1
    refine ⟨l, rfl, ?_⟩
    unfold sortSetD at a1
    cases e : strsOf ds with
    | some xs =>
      simp only [e] at a1
      split at a1
      · rename_i h64
        rw [strsOf_eq e] at rl
        refine .inl ⟨xs, ?_, of_decide_eq_true h64, fun ys p h1 h2 h3 hp => ?_⟩
        · have := rl.strs
          subst this
          exact Tp.sq R1.sub hl
        · rw [srtS_eq h1 (nub_perm h2 h3)]
          exact a1 (.ref p) _ S1 (Ex.refl S1) (R1.lay hp) ⟨p, _, rfl, upd_same, RpL.ofStrs _, R1.nobody hp⟩
      · exact (show False from a1).elim
    | none =>
      simp only [e] at a1
      cases e2 : intsOf ds with
      | some xs =>
        simp only [e2] at a1
        split at a1
        · rename_i h64
          rw [intsOf_eq e2] at rl
          refine .inr ⟨xs, ?_, of_decide_eq_true h64, fun ys p h1 h3 hp => ?_⟩
          · have := rl.ints
            subst this
            exact Tp.sq R1.sub hl
          · rw [srtI_eq (h1.imp fun z => by omega) (nub_perm (h1.imp fun z => by omega) h3)]
            exact a1 (.ref p) _ S1 (Ex.refl S1) (R1.lay hp) ⟨p, _, rfl, upd_same, RpL.ofInts _, R1.nobody hp⟩
        · exact (show False from a1).elim
      | none => simp only [e2] at a1; exact (show False from a1).elim
  | _ => exact (show False from a1).elim⟩
theorem re_lenSet (h : RD ER ta fa) : RE ER (SX.tLenSetT K ta) (dLenSet fa) := ⟨fun B S0 M σ H S ρ Q R a => by
  refine h.go B S0 M σ H S ρ _ R (AD.bindE a fun d ρ1 x H1 S1 e1 R1 r1 a1 => ?_)
  replace a1 : AE ER B S0 M σ S1 Q (optR (lenSetD d) ρ1) := a1
  cases d with
  | tuple ds =>
    obtain ⟨l, vs, rfl, hl, rl⟩ := r1
    refine ⟨l, rfl, ?_⟩
    unfold lenSetD at a1
    cases e2 : intsOf ds with
    | some xs =>
      simp only [e2] at a1
      split at a1
      · rename_i h64
        rw [intsOf_eq e2] at rl
        refine ⟨xs, ?_, of_decide_eq_true h64, fun ys h1 h3 => ?_⟩
        · have := rl.ints
          subst this
          exact Tp.sq R1.sub hl
        · rw [(nub_perm h1 h3).length_eq]
          exact a1 _ H1 S1 (Ex.refl S1) R1 (show Rp S1 _ _ from rfl)
      · exact (show False from a1).elim
    | none => simp only [e2] at a1; exact (show False from a1).elim
  | _ => exact (show False from a1).elim⟩
/-! sorted(list of ints) -/
def dSortIF : List D → Option Rv
  | [.list ds] => (intsOf ds).map fun xs => .fr ((srtI xs).map .int)
  | _ => none
theorem g_sortI {K : PySem.W.Frag} : CallG (rSortedI K) dSortIF := fun B S0 M σ H S ρ xs ds rv Q R r h a => by
  unfold dSortIF at h
  split at h
  · rename_i ds
    obtain ⟨ns, e, rfl⟩ := Option.map_eq_some_iff.mp h
    obtain ⟨v, rfl, rv1⟩ := r.one_inv
    obtain ⟨l, vs, rfl, hl, rl⟩ := rv1
    rw [intsOf_eq e] at rl
    have := rl.ints
    subst this
    refine ⟨l, ns, rfl, SqL.of (R.sub _ _ hl), fun ys p h1 h2 hp => ?_⟩
    rw [srtI_eq h2 h1]
    exact ag_fr R a (RpL.ofInts _) hp
  · cases h
/-! list(range(..)), tuple(range(..)) -/
def rgOkD (a b : Int) : Bool := s62 a && s62 b && szOk (b - a).toNat
theorem rgOk_of {a b : Int} (h : rgOkD a b = true) : RgOk a b := by
  unfold rgOkD at h
  rw [Bool.and_eq_true, Bool.and_eq_true] at h
  have h1 := s62_ok h.1.1
  have h2 := s62_ok h.1.2
  have h3 := of_decide_eq_true h.2
  exact ⟨by omega, by omega, by omega, by omega, by omega⟩
theorem rgV_rp {S : Hp} (a b : Int) : RpL S (rgV a b) (rngD a b) := by
  have e1 : rgV a b = ((List.range (b - a).toNat).map fun i : Nat => a + (i : Int)).map V.int := by
    unfold rgV; rw [List.map_map]; rfl
  have e2 : rngD a b = ((List.range (b - a).toNat).map fun i : Nat => a + (i : Int)).map .int := by
    unfold rngD; rw [List.map_map]; rfl
  rw [e1, e2]
  exact RpL.ofInts _
def rg1F (f : Fd) : En → Res ((Int × Int) × En) := fun ρ => (f ρ).bind fun p => match p.1 with
  | .int n => .ok ((0, n), p.2)
  | _ => .no
def rg2F (f g : Fd) : En → Res ((Int × Int) × En) := fun ρ => (f ρ).bind fun p => (g p.2).bind fun q => match p.1, q.1 with
  | .int a, .int b => .ok ((a, b), q.2)
  | _, _ => .no
def AR (ER : Er) (B S0 : Hp) (M : List Addr) (σ : L2.St) (S : Hp) (Q : Int → Int → Hp → Prop) : Res ((Int × Int) × En) → Prop
  | .ok (ab, ρ') => ∀ H' S', Ex S S' → Rel B S0 M σ H' S' ρ' → Q ab.1 ab.2 H'
  | .err c fs => ∀ H', Kp B S0 M H' → ER c fs H'
  | .no => False
structure RR (ER : Er) (t : L2.St → Hp → (Int → Int → Hp → Prop) → Prop) (f : En → Res ((Int × Int) × En)) : Prop where
  go : ∀ B S0 M σ H S ρ Q, Rel B S0 M σ H S ρ → AR ER B S0 M σ S Q (f ρ) → t σ H Q
theorem AD.bindR {B S0 : Hp} {M : List Addr} {σ : L2.St} {S : Hp} {Q : Int → Int → Hp → Prop} {Q' : VK} {x : Res (D × En)} {k : D × En → Res ((Int × Int) × En)} (h : AR ER B S0 M σ S Q (x.bind k))
    (c : ∀ d ρ' v H' S', Ex S S' → Rel B S0 M σ H' S' ρ' → Rp S' v d → AR ER B S0 M σ S' Q (k (d, ρ')) → Q' v H') : AD ER B S0 M σ S Q' x := by
  cases x with
  | ok a => exact fun v H' S' e R r => c a.1 a.2 v H' S' e R r (by
      replace h : AR ER B S0 M σ S Q (k a) := h
      cases hk : k a with
      | ok z => rw [hk] at h; exact fun H2 S2 e2 R2 => h H2 S2 (e.trans e2) R2
      | err c fs => rw [hk] at h; exact h
      | no => rw [hk] at h; exact h)
  | err c fs => exact h
  | no => exact (show False from h).elim
theorem rr_1 (h : RD ER ta fa) : RR ER (tRg1 ta) (rg1F fa) := ⟨fun B S0 M σ H S ρ Q R a => by
  refine h.go B S0 M σ H S ρ _ R (AD.bindR a fun d ρ1 x H1 S1 e1 R1 r1 a1 => ?_)
  cases d with
  | int n => exact ⟨n, r1, a1 H1 S1 (Ex.refl S1) R1⟩
  | _ => exact (show False from a1).elim⟩
theorem rr_2 (h : RD ER ta fa) (h' : RD ER tb fb) : RR ER (tRg2 ta tb) (rg2F fa fb) := ⟨fun B S0 M σ H S ρ Q R a => by
  refine h.go B S0 M σ H S ρ _ R (AD.bindR a fun d ρ1 x H1 S1 e1 R1 r1 a1 => ?_)
  refine h'.go B S0 M σ H1 S1 ρ1 _ R1 (AD.bindR a1 fun e ρ2 y H2 S2 e2 R2 r2 a2 => ?_)
  have r1' := Rp.mono e2 _ r1
  cases d with
  | int n => cases e with
    | int m => exact ⟨n, m, r1', r2, a2 H2 S2 (Ex.refl S2) R2⟩
    | _ => exact (show False from a2).elim
  | _ => cases e <;> exact (show False from a2).elim⟩
def dLstRg (f : En → Res ((Int × Int) × En)) : Fe := fun ρ => (f ρ).bind fun p => if rgOkD p.1.1 p.1.2 = true then .ok (.fr (rngD p.1.1 p.1.2), p.2) else .no
def dTupRg (f : En → Res ((Int × Int) × En)) : Fe := fun ρ => (f ρ).bind fun p => if rgOkD p.1.1 p.1.2 = true then .ok (.sh (.tuple (rngD p.1.1 p.1.2)), p.2) else .no
variable {te : L2.St → Hp → (Int → Int → Hp → Prop) → Prop} {fr : En → Res ((Int × Int) × En)}
theorem AR.bindE {B S0 : Hp} {M : List Addr} {σ : L2.St} {S : Hp} {Q : VK} {Q' : Int → Int → Hp → Prop} {x : Res ((Int × Int) × En)} {k : (Int × Int) × En → Res (Rv × En)} (h : AE ER B S0 M σ S Q (x.bind k))
    (c : ∀ a b ρ' H' S', Ex S S' → Rel B S0 M σ H' S' ρ' → AE ER B S0 M σ S' Q (k ((a, b), ρ')) → Q' a b H') : AR ER B S0 M σ S Q' x := by
  cases x with
  | ok a => exact fun H' S' e R => c a.1.1 a.1.2 a.2 H' S' e R (AE.later e h)
  | err c fs => exact h
  | no => exact (show False from h).elim
theorem re_lstRg (h : RR ER te fr) : RE ER (tLstRg te) (dLstRg fr) := ⟨fun B S0 M σ H S ρ Q R a => by
  refine h.go B S0 M σ H S ρ _ R (AR.bindE a fun u v ρ1 H1 S1 e1 R1 a1 => ?_)
  replace a1 : AE ER B S0 M σ S1 Q (if rgOkD u v = true then .ok (.fr (rngD u v), ρ1) else .no) := a1
  split at a1
  · rename_i hz
    exact ⟨rgOk_of hz, fun q hq => a1 (.ref q) _ S1 (Ex.refl S1) (R1.lay hq) ⟨q, _, rfl, upd_same, rgV_rp u v, R1.nobody hq⟩⟩
  · exact (show False from a1).elim⟩
end
end DL

set_option Elab.async false
set_option linter.all false
set_option maxRecDepth 100000
set_option maxHeartbeats 4000000
/-! names that are no longer wanted are forgotten; what is never changed is shared at once -/
namespace DL
open PySem PySem.Spec PyProof.Rows L2
variable [Wr]
theorem Rel.forgets {B S0 : Hp} {M : List Addr} {σ : L2.St} {H S : Hp} {ρ : En} (R : Rel B S0 M σ H S ρ) : ∀ js : List Nat, Rel B S0 M σ H S (wipeE ρ js)
  | [] => R
  | _ :: js => (Rel.forgets R js).forget
/-- behind it some names are forgotten -/
def sWp (js : List Nat) (f : Fs) : Fs := fun ρ => match f ρ with
  | .nx ρ' => .nx (wipeE ρ' js)
  | o => o
theorem rs_wp {ER : Er} {ts : TS} {fs : Fs} (js : List Nat) (h : RS ER ts fs) : RS ER ts (sWp js fs) := ⟨fun B S0 M σ H S ρ E R a => by
  refine h.go B S0 M σ H S ρ E R ?_
  unfold sWp at a
  cases e : fs ρ with
  | nx ρ' => rw [e] at a; exact fun σ' H' S' e1 R1 => a σ' H' S' e1 (R1.forgets js)
  | rt rv ρ' => rw [e] at a; exact a
  | bk ρ' => rw [e] at a; exact a
  | ct ρ' => rw [e] at a; exact a
  | err c fs => rw [e] at a; exact a
  | no => rw [e] at a; exact a⟩
/-- shared at once -/
def dS (f : Fe) : Fe := fun ρ => (dSh f ρ).bind fun p => .ok (.sh p.1, p.2)
theorem re_S {ER : Er} {te : TE} {f : Fe} (h : RE ER te f) : RE ER te (dS f) := RE.ofD h.sh
end DL

set_option Elab.async false
set_option linter.all false
set_option maxRecDepth 100000
set_option maxHeartbeats 4000000
/-! raise C() -/
namespace HX
open PySem PySem.Spec PyProof.Rows L2
theorem pmk_own0 {X : Cx} {C : Addr} {bmB : List Value} {B newId initId : String} {x : Str} {p pos : Pos} (F : ExcBaseFacts B newId initId bmB) (q : PySem.W.excIn X.K C bmB newId = true) (gC : X.mg x = some (.ref C)) (kC : PySem.W.keepIn X.K (.ref C) = true) (r : Raises X (.ref C)) (hg : Gl X x)
    (hdb : (x == ("__debug__" : Str)) = false := by decide) : L2N.PMk X (.Call (.Name x p) [] [] pos) (fun _ H Q => Q (.ref C) none H) := by
  intro pins s σ H Q I h
  refine wpAny_Call_Name_kw (ld_glob I hg gC ?_ hdb)
  refine PySem.W.callWith_K0 I.kIn kC ?_
  show wpAny _ _ (call (.ref C) []) _ _ _
  obtain ⟨bm, N, nm, qn, bs, hdct, sn, sub, ab, col, dd, k0, k1, k2, k3, k5, mN, hC, hN, hni, T⟩ := exc_obj I.kIn q
  refine wpAny_call_exc_subT F T hC hN hni (fun h' e hm => ?_) (by show 0 ≤ sizeLine; omega)
  exact L2N.mk_of I hm r h (I.hok.gone hm.new)
/-- the reading of raise C() -/
def tRaise0 (E : XK) (C : Addr) : TS := fun _ _ H => E (.ref C) none H
theorem cx_false {P : Program} {w : World} {st : List Env} {H : Hp} {s : Shared} {u : Value} {s' : Shared} (h : L2N.CX P w st H s (fun _ _ _ => False) u s') : False := by
  obtain ⟨_, _, _, _, _, _, _, _, _, _, _, _, z⟩ := h
  exact z
theorem passF {X : Cx} : Passes (L2N.CX X.prog X.w) X (fun _ _ _ => False) := fun _ _ _ _ _ _ _ c => (cx_false c).elim
theorem ps_raise0 {X : Cx} {C : Addr} {bmB : List Value} {B newId initId : String} {x : Str} {E : XK} {p pos pos' : Pos} (F : ExcBaseFacts B newId initId bmB) (q : PySem.W.excIn X.K C bmB newId = true) (gC : X.mg x = some (.ref C)) (kC : PySem.W.keepIn X.K (.ref C) = true) (r : Raises X (.ref C)) (hg : Gl X x) (hc : X.calm = true) (tk : L2N.Takes X fun cls d _ H => E cls d H)
    (hdb : (x == ("__debug__" : Str)) = false := by decide) : PS X (.Raise (some (.Call (.Name x p) [] [] pos)) none pos') (tRaise0 E C) := L2N.ps_raise hc tk (pmk_own0 F q gC kC r hg hdb)
end HX

set_option Elab.async false
set_option linter.all false
set_option maxRecDepth 100000
set_option maxHeartbeats 4000000
/-! a lambda is made: what is told of it; statements that raise nothing -/
namespace HX
open PySem PySem.Spec PyProof.Rows L2 LamX
theorem ps_nox {X : Cx} {st : Stmt} {t : TS} (h : PS X.nox st t) : PS X st t := ⟨fun pins s σ H D I hw =>
  wpAny_mono (h.run pins s σ H D (I.wish _) hw) (fun _ _ q => q.unwish) fun _ _ z => False.elim z⟩
def tLamW (P : Addr) (q : Str) (mk : Addr → LF) : TE := fun _ H Q => ∃ ps : Array Value, H P = some (.tbl ps) ∧ TriplesOk ps.toList ∧ (∀ (pos : Pos) (cv : Value), codeAmong pos ps.toList = some cv → ∃ c, cv = .ref c ∧ H c = some (CodeO c q)) ∧
  (∀ (f c' : Addr) (ps' : Array Value), H f = none → f ≠ c' → H c' = none → TriplesOk ps'.toList → (∀ (pos : Pos) (cv : Value), codeAmong pos ps'.toList = some cv → codeAmong pos ps.toList = some cv ∨ cv = .ref c') → Q (.ref f) (upd (upd (upd H P (.tbl ps')) c' (CodeO c' q)) f (LmO f (mk c')))) ∧
  ∀ (f c' : Addr) (pos : Pos), H f = none → codeAmong pos ps.toList = some (.ref c') → Q (.ref f) (upd H f (LmO f (mk c')))
theorem pe_lamW {X : Cx} {c P : Addr} {params : Arguments} {body : Expr} {scope : Scope} {pos : Pos} (TB : TabB X.base X.mg c P) (hcode : X.env.code = .ref c)
    (hdef : defaultsOf params X.env = ([], [])) (hfree : ∀ y ∈ scope.names, y.2 ≠ .free) : PE X (.Lambda params body scope pos) (tLamW P (X.env.qual ++ "<lambda>") fun c' => ⟨X.env.qual ++ "<lambda>", params, body, scope, c'⟩) := ⟨fun pins s σ H Q I h => by
  obtain ⟨ps, hP, ht, ha, hnew, hold⟩ := h
  have bP : s.heap.BuiltinsAt X.mg P := TB.bm.keeps I.bk
  have hP' : s.heap.get? P = some { cls := .none, data := .fields ps } := I.hok P _ hP
  have hcl : closureFor scope X.env = pure [] := by
    rw [closure_ok fun y hy e => absurd e (hfree y hy), clo_nil hfree]
  refine PySem.W.kla_eval hdef ?_
  cases hc : codeAmong pos ps.toList with
  | none =>
    refine PySem.W.kla_makeFunction (mg := X.mg) (c := c) (P := P) (ps := ps) hcl I.ok.glob (I.mod.glob.keeps I.bk) hcode (TB.code.keeps I.bk) hP' ht hc TB.gP bP fun c' ctv h' tk hx hge hlt hrec htb => ?_
    obtain ⟨c2, oc, vs, t, e2, hoc, hd, hv⟩ := hrec
    cases e2
    have nC : H c' = none := I.hok.fresh hge
    have I1 := inv_table (q := X.env.qual ++ "<lambda>") (t' := tk) (more := #[rawInt pos.line, rawInt pos.col, .ref c']) (h' := h') I hP (fun b o hb e => hx b o hb e) htb hge ⟨oc, vs, t, hoc, hd, hv⟩
    have I2 := inv_lam (L := ⟨X.env.qual ++ "<lambda>", params, body, scope, c'⟩) (t' := tk) (pm := (X.mg "__name__").getD .none) (ctv := ctv) I1
    have eL : (ps ++ #[rawInt pos.line, rawInt pos.col, .ref c']).toList = ps.toList ++ [rawInt pos.line, rawInt pos.col, .ref c'] := by simp
    refine ⟨.ref h'.objs.size, _, I2, rfl, hnew h'.objs.size c' _ (I.hok.fresh (Nat.le_trans hge (Nat.le_of_lt hlt))) (Nat.ne_of_gt hlt) nC (by rw [eL]; exact PySem.TriplesOk_snoc _ _ _ _ ht) fun p' cv hcv => ?_⟩
    exact among_app _ ht (by rw [eL] at hcv; exact hcv)
  | some cv =>
    obtain ⟨c', e, hco⟩ := ha pos cv hc
    subst e
    refine PySem.W.kla_makeFunctionHit (mg := X.mg) (c := c) (P := P) (ps := ps) hcl I.ok.glob (I.mod.glob.keeps I.bk) hcode (TB.code.keeps I.bk) hP' ht hc bP fun ctv h' tk hx hsz => ?_
    have I1 : L2.Inv X pins σ H { s with heap := h', toks := tk } := I.kept hx
    have nF : H h'.objs.size = none := I1.hok.fresh (Nat.le_refl _)
    have I2 := inv_lam (L := ⟨X.env.qual ++ "<lambda>", params, body, scope, c'⟩) (t' := tk) (pm := (X.mg "__name__").getD .none) (ctv := ctv) I1
    exact ⟨.ref h'.objs.size, _, I2, rfl, hold h'.objs.size c' pos nF hc⟩⟩
end HX

set_option Elab.async false
set_option linter.all false
set_option maxRecDepth 100000
set_option maxHeartbeats 4000000
/-! a lambda called in a try; isinstance of what is caught -/
namespace HX
open PySem PySem.Spec PyProof.Rows L2 LamX NdefX
/-- x(..) where what is raised is wished for at the caller's slots -/
def tCallS (mk : Nat → Addr → LF) (i : Nat) (sp : Nat → Sp) (W : WX) (t : TA) : TE := fun σ H Q => tCallL mk i sp (WE W σ) t σ H Q
theorem pe_callLmS {X : Cx} {mk : Nat → Addr → LF} {ps : List Str} {i k m : Nat} {x : Str} {sp : Nat → Sp} {W : WX} {t : TA} {e : Expr} {es : List Expr} {p pos : Pos} (Fn : ∀ j c', LOk X.prog X.w X.K X.mg X.base (L2N.CX X.prog X.w) k (mk j c') ps (sp j)) (hr : Room m X.A) (hk : k ≤ m) (tk : L2N.Takes X W) (hN : X.N[i]? = some x) (hv : Vis X.env.scope x) (ha : PA X (e :: es) t)
    (hd : (x == ("__debug__" : Str)) = false := by decide) (hcd : (x == ("__classdict__" : Str)) = false := by decide)
    (he : starEach (e :: es) X.env = (false, eval e X.env) :: starEach es X.env := by rfl) (hpl : (backTo pos (starEach es X.env)).any (·.1) = false := by rfl) :
    PE X (.Call (.Name x p) (e :: es) [] pos) (tCallS mk i sp W t) := ⟨fun pins s σ H Q I h => by
  obtain ⟨f, j, c', hs, hf, ht⟩ := h
  have fnAt : ∀ {H' : Hp} {s' : Shared}, L2.Inv X pins σ H' s' → H' f = some (LmO f (mk j c')) → PySem.W.FnAt f s'.heap := fun J q => by
    obtain ⟨⟨od, sl, pm, ctv, ho⟩, _, _⟩ := J.hok f _ q
    exact ⟨_, od, _, sl, ho⟩
  refine wpAny_Call_Name_kw (thn ((pe_var (pos := p) hN hv hd hcd).run pins s σ H (fun v H1 => v = .ref f ∧ H1 = H) I ⟨.ref f, hs, rfl, rfl⟩) fun u s1 ⟨v, H1, I1, r1, ev, eH⟩ => ?_)
  subst ev
  rw [eH] at I1
  obtain rfl : u = Value.ref f := r1
  refine PySem.W.callWith_F (first := []) (fnAt I1 hf) (thn (ha.run pos pins s1 σ H _ I1 ht) fun us s2 ⟨vs, H2, I2, r, h1, h2, q⟩ => ⟨fnAt I2 h1, ?_⟩) he hpl
  show wpAny _ _ (call (.ref f) us) _ _ _
  refine wpAny_call (codeAny_mono ((Fn j c').run f X.A X.stack s2 H2 us vs Q (WE W σ) (hr.mono hk) I2.env0 h1 h2 r q) fun z s' hq => ?_)
  cases z with
  | error e => exact tk e s' (L2N.XE.of_call I2 (fun _ _ _ h => h) hq)
  | ok fl =>
    cases fl with
    | ret u => exact I2.after hq
    | next => exact False.elim hq
    | brk => exact False.elim hq
    | cont => exact False.elim hq⟩
/-- isinstance(e, C) of what is caught, whatever its class -/
def rIsA (K : PySem.W.Frag) (cls : Value) (d : Option Addr) (a : Addr) : List V → Hp → VK → Prop := fun xs H Q => ∃ D, cls = .ref D ∧ d = none ∧ ExcC K D ∧ rIsE K D a xs H Q
theorem call_isA {X : Cx} {a : Addr} {oe : Obj} {cls : Value} {d : Option Addr} {pn : List (Addr × Obj)} (hz : L2N.Zn cls d oe) (hf : ∃ vs, oe.data = .fields vs) : CallR (X.suite a ((a, oe) :: pn)) (.builtin "isinstance") (rIsA X.K cls d a) := by
  intro pins s σ H xs us Q I r h
  obtain ⟨D, e1, e2, C, q⟩ := h
  subst e1
  subst e2
  exact call_isE C hz.zc hf pins s σ H xs us Q I r q
theorem lok_no {P : Program} {w : World} {K : PySem.W.Frag} {mg : Str → Option Value} {base : Heap} {CX : CXT} {k : Nat} {L : LF} {ps : List Str} {sp : Sp} (h : ∀ vs H Q E, ¬ sp vs H Q E) : LOk P w K mg base CX k L ps sp :=
  ⟨fun vs H Q E z => (h _ _ _ _ z).elim, fun _ _ _ _ _ _ _ _ _ _ _ _ _ _ z => (h _ _ _ _ z).elim⟩
end HX

set_option Elab.async false
set_option linter.all false
set_option maxRecDepth 100000
set_option maxHeartbeats 2000000
/-! t[::-1] of a tuple; repr of a truth -/
namespace HX
open PySem PySem.Spec PyProof.Rows L2 HT
section
variable {prog : Program} {w : World} {A : Around} {E : Value → Shared → Prop} {s : Shared}
theorem adjust_rev (n : Nat) : Builtin.Slice.sliceAdjust none none (-1) (n : Int) = ((n : Int) - 1, -1) := by
  unfold Builtin.Slice.sliceAdjust
  simp
theorem places_rev (n : Nat) : Builtin.Slice.slicePlaces ((n : Int) - 1) (-1) (-1) = n := by
  unfold Builtin.Slice.slicePlaces
  simp
  split <;> omega
theorem applied_rev {sl : Addr} {vl vu vs : Value} {n : Nat} {Q : Int × Int × Nat → Shared → Prop} (hs : s.heap.IsSliceOf sl vl vu vs) (pl : IsPart vl none) (pu : IsPart vu none) (ps : IsPart vs (some (-1)))
    (h : Q ((n : Int) - 1, -1, n) s) : wpAny (model prog w) A (Builtin.Slice.sliceApplied (.ref sl) (pure (n : Int))) Q E s := by
  obtain ⟨os, eo, cs, ds⟩ := id hs
  unfold Builtin.Slice.sliceApplied Builtin.Slice.sliceFields
  refine wpAny_bind (wpAny_bind (wpAny_field eo ds (x := vl) rfl (wpAny_bind (wpAny_field eo ds (x := vu) rfl (wpAny_bind (wpAny_field eo ds (x := vs) rfl (wpAny_pure ?_)))))))
  refine wpAny_bind (slicePart_ ps ?_)
  show wpAny _ _ (if ((-1 : Int) == 0) = true then _ else _) _ _ s
  rw [if_neg (by decide)]
  refine wpAny_bind (slicePart_ pl (wpAny_bind (slicePart_ pu (wpAny_bind (wpAny_pure ?_)))))
  show wpAny _ _ (match Builtin.Slice.sliceAdjust none none (-1) (n : Int) with | (lo, hi) => pure (lo, (-1 : Int), Builtin.Slice.slicePlaces lo hi (-1))) _ _ s
  rw [adjust_rev n]
  show wpAny _ _ (pure ((n : Int) - 1, (-1 : Int), Builtin.Slice.slicePlaces ((n : Int) - 1) (-1) (-1))) _ _ s
  rw [places_rev]
  exact wpAny_pure h
theorem fm_congr {α β : Type} {f g : α → Option β} : ∀ {l : List α}, (∀ x ∈ l, f x = g x) → l.filterMap f = l.filterMap g
  | [], _ => rfl
  | x :: l, h => by
    rw [List.filterMap_cons, List.filterMap_cons, h x (by simp), fm_congr fun y hy => h y (by simp [hy])]
theorem pick_rev (xs : Array Value) : ((List.range xs.size).filterMap fun (m : Nat) => xs[((xs.size : Int) - 1 + (m : Int) * (-1)).toNat]?).toArray = xs.toList.reverse.toArray := by
  congr 1
  apply List.ext_getElem?
  intro i
  have e : (List.range xs.size).filterMap (fun (m : Nat) => xs[((xs.size : Int) - 1 + (m : Int) * (-1)).toNat]?) = (List.range xs.size).map fun m => xs.toList.reverse.getD m .none := by
    rw [← List.filterMap_eq_map]
    apply fm_congr
    intro m hm
    have hm' : m < xs.size := by simpa using hm
    have e1 : ((xs.size : Int) - 1 + (m : Int) * (-1)).toNat = xs.size - 1 - m := by omega
    have h2 : xs.size - 1 - m < xs.size := by omega
    rw [e1, Array.getElem?_eq_getElem h2]
    simp [hm']
  rw [e, List.getElem?_map]
  by_cases hi : i < xs.size
  · simp [hi]
  · simp [hi]
theorem getItem_tuple_rev {t sl : Addr} {items : Array Value} {vl vu vs : Value} {Q : Value → Shared → Prop} (ht : IsTup s.heap t items) (hs : s.heap.IsSliceOf sl vl vu vs) (pl : IsPart vl none) (pu : IsPart vu none) (ps : IsPart vs (some (-1)))
    (h : Q (.ref s.heap.objs.size) { s with heap := s.heap.push { cls := .type "tuple", data := .seq items.toList.reverse.toArray } })
    (hsz : items.size ≤ sizeLine) : wpAny (model prog w) A (getItem (.ref t) (.ref sl)) Q E s := by
  have hk : sizeOk (.seq items.toList.reverse.toArray) := by
    show items.toList.reverse.toArray.size ≤ sizeLine
    rw [List.size_toArray, List.length_reverse, Array.length_toList]
    exact hsz
  obtain ⟨os, eo, cs, ds⟩ := id hs
  have hTs : s.TypeIs (.ref sl) "slice" := ⟨os, eo, cs⟩
  unfold getItem
  try with_reducible refine wpAny_holding ?_
  first | refine wpAny_bind (wpAny_pure ?_) | skip
  refine wpAny_bind (wpAny_sequenceKey ht.typeIs (by decide) ?_)
  refine wpAny_bind (wpAny_callSpecial?_slot (name := Str.ofString "__getitem__") ht.typeIs PyProof.Rows.slot_tuple_getitem
    (wpAny_call_entry PyProof.Rows.slot_tuple_getitem ht.typeIs entry_tuple_getitem ?_ (args_tuple_getitem _ _)))
  show wpAny _ _ (Builtin.Tuple.tupleItemsOf (.ref t) >>= _) _ _ s
  refine wpAny_bind (tupleItemsOf_ ht ?_)
  refine wpAny_bind (wpAny_typeOf hTs ?_)
  rw [if_pos (by decide)]
  refine wpAny_bind (applied_rev hs pl pu ps ?_)
  show wpAny _ _ (if (((items.size : Int) - 1 == 0) && ((-1 : Int) == 1) && (items.size == items.size)) = true then _ else _) _ _ s
  rw [if_neg (by simp), pick_rev]
  first
    | exact wpAny_bind (m := Builtin.Tuple.tupleExact _) (wpAny_newObj_type (wpAny_pure ⟨_, rfl, wpAny_pure h⟩) hk)
    | exact wpAny_bind (m := Builtin.Tuple.tupleExact _) (wpAny_newObj_type (wpAny_bind (wpAny_pure (wpAny_pure ⟨_, rfl, wpAny_pure h⟩))) hk)
    | exact wpAny_bind (wpAny_bind (m := Builtin.Tuple.tupleExact _) (wpAny_newObj_type (wpAny_pure (wpAny_pure ⟨_, rfl, wpAny_pure h⟩)) hk))
    | exact wpAny_bind (wpAny_bind (m := Builtin.Tuple.tupleExact _) (wpAny_newObj_type (wpAny_pure ⟨_, rfl, wpAny_pure h⟩) hk))
end
/-- x[::-1], a list or a tuple -/
def tRev (K : PySem.W.Frag) (te : TE) : TE := fun σ H Q => te σ H fun x H1 => ∃ a xs, x = .ref a ∧ ((SqL K H1 a xs ∧ ∀ p, H1 p = none → Q (.ref p) (upd H1 p (.lst xs.reverse))) ∨ (SqT K H1 a xs ∧ ∀ p, H1 p = none → Q (.ref p) (upd H1 p (.tup xs.reverse))))
theorem pe_rev {X : Cx} {e : Expr} {te : TE} {k : Nat} {p1 p2 p3 pos : Pos} (he : PE X e te) : PE X (.Subscript e (.Slice none none (some (.UnaryOp .USub (.Constant (.int 1) k p1) p2)) p3) pos) (tRev X.K te) := by
  refine ⟨fun pins s σ H Q I h => ?_⟩
  refine Subscript_ (thn (he.run pins s σ H _ I h) fun v s1 ⟨x, H1, I1, r1, q1⟩ => ?_)
  obtain ⟨a, xs, ex, hx⟩ := q1
  subst ex
  cases r1
  have hst : PO X (some (.UnaryOp .USub (.Constant (.int 1) k p1) p2)) (tPart (tUn (rU fun i => .int (-i)) (tC (.int 1)))) := po_some (pe_un un_neg pe_int)
  refine wpAny_Slice (thn (po_none.run pins s1 σ H1 (fun o H2 => o = none ∧ H2 = H1) I1 ⟨rfl, rfl⟩) fun vl s2 ⟨l, H2, I2, pl, el, e2⟩ => ?_)
  subst el e2
  refine thn (po_none.run pins s2 σ H2 (fun o H3 => o = none ∧ H3 = H2) I2 ⟨rfl, rfl⟩) fun vu s3 ⟨u, H3, I3, pu, eu, e3⟩ => ?_
  subst eu e3
  refine thn (hst.run pins s3 σ H3 (fun o H4 => o = some (-1) ∧ H4 = H3) I3 ⟨1, rfl, -1, rfl, rfl, rfl⟩) fun vs s4 ⟨o, H4, I4, ps, eo, e4⟩ => ?_
  subst eo e4
  have I5 : L2.Inv X pins σ H4 { s4 with heap := s4.heap.push { cls := .type "slice", data := .fields #[vl, vu, vs] } } := I4.kept (t' := s4.toks) fun b ob q => Heap.get?_push_of_some _ q
  rcases hx with ⟨hx, q⟩ | ⟨hx, q⟩
  · obtain ⟨its, r, ht, hz⟩ := I5.list hx
    have hlen := r.length
    show wpAny (model X.prog X.w) X.A (subscriptTail e (.Slice none none (some (.UnaryOp .USub (.Constant (.int 1) k p1) p2)) p3) (.ref a) (.ref s4.heap.objs.size)) (EP X pins σ Q) X.xe { s4 with heap := s4.heap.push { cls := .type "slice", data := .fields #[vl, vu, vs] } }
    refine tail_any (ops := [.ref a, .ref s4.heap.objs.size]) ht.isList.typeIs (PySem.slot_list_getitem.lookup) ?_ (by with_unfolding_all rfl)
    refine wpAny_getItem_list_slice ht.isList (Heap.IsSliceOf.new _ vl vu vs) pl pu ps (by decide) ?_ (by rw [List.size_toArray]; omega)
    rw [PySem.W.krv_pick]
    refine ⟨.ref _, _, I5.laid (t' := s4.toks) (o := .lst xs.reverse) (fun b ob q => Heap.get?_push_of_some _ q) (Nat.le_refl _) ?_, rfl, q _ (I5.hok.fresh (Nat.le_refl _))⟩
    exact ⟨by rw [List.length_reverse]; exact hz, _, 0, r.reverse, Heap.get?_push_size _ rfl⟩
  · obtain ⟨its, r, ht, hz⟩ := I5.tuple hx
    have hlen := r.length
    show wpAny (model X.prog X.w) X.A (subscriptTail e (.Slice none none (some (.UnaryOp .USub (.Constant (.int 1) k p1) p2)) p3) (.ref a) (.ref s4.heap.objs.size)) (EP X pins σ Q) X.xe { s4 with heap := s4.heap.push { cls := .type "slice", data := .fields #[vl, vu, vs] } }
    refine tail_any (ops := [.ref a, .ref s4.heap.objs.size]) ht.typeIs (PyProof.Rows.slot_tuple_getitem.lookup) ?_ (by with_unfolding_all rfl)
    refine getItem_tuple_rev ht (Heap.IsSliceOf.new _ vl vu vs) pl pu ps ?_ (by rw [List.size_toArray]; omega)
    refine ⟨.ref _, _, I5.laid (t' := s4.toks) (o := .tup xs.reverse) (fun b ob q => Heap.get?_push_of_some _ q) (Nat.le_refl _) ?_, rfl, q _ (I5.hok.fresh (Nat.le_refl _))⟩
    exact ⟨by rw [List.length_reverse]; exact hz, _, by simpa using r.reverse, IsTup.new _ _⟩
/-- repr of a truth -/
theorem call_reprB {X : Cx} : CallR X (.builtin "repr") (fun xs H Q => ∃ b, xs = [.bl b] ∧ Q (.str (if b then "True" else "False")) H) := by
  intro pins s σ H xs us Q I r h
  obtain ⟨b, rfl, q⟩ := h
  obtain ⟨u, rfl, r1⟩ := vals1 r
  cases r1
  exact PySem.P.repr_of_bool ⟨.str _, H, I.tok _, ⟨_, rfl⟩, q⟩
end HX

set_option Elab.async false
set_option linter.all false
set_option maxRecDepth 100000
set_option maxHeartbeats 4000000
/-! refusals that leave a def -/
namespace DL
open PySem PySem.Spec PyProof.Rows L2
variable [Wr]
/-- the field of a refusal -/
def fldN (c : Str) : Str := if c = "TooMany" then "most" else "colour"
/-- what is wished of a refusal, by its class and its field -/
def EWx : EWT := fun E c fs H => match fs with
  | [] => E (.ref (He.ga Wr.K c)) none H
  | [v] => ∀ d, H d = none → E (.ref (He.ga Wr.K c)) (some d) (upd H d (.xd [(fldN c, v)]))
  | _ => False
def sRaise (c : Str) : Fs := fun _ => .err c []
theorem rs_raise0 {E : XK} (c : Str) : RS (EWx E) (HX.tRaise0 E (He.ga Wr.K c)) (sRaise c) := ⟨fun B S0 M σ H S ρ D R a => a H R.kp⟩
section
variable {P : Program} {w : World} {K : PySem.W.Frag} {mg : Str → Option Value} {base : Heap}
/-- a def by its name: it may refuse -/
structure Cal1 (P : Program) (w : World) (K : PySem.W.Frag) (mg : Str → Option Value) (base : Heap) (k : Nat) (x : Str) (sp : Sp) : Prop where
  ex : ∃ (f : Addr) (fd : FuncData) (ps : List Str), FnOk P w K mg base (L2N.CX P w) k f fd ps sp ∧ mg x = some (.ref f) ∧ PySem.W.keepIn K (.ref f) = true ∧ Binds K fd ps []
theorem pe_c1 {X : Cx} {k j : Nat} {x : Str} {sp : Sp} {t : TA} {e : Expr} {es : List Expr} {p pos : Pos} {E : XK} (c : Cal1 X.prog X.w X.K X.mg X.base k x sp) (hr : Room j X.A) (hk : k ≤ j) (hg : Gl X x) (hx : Passes (L2N.CX X.prog X.w) X E) (ha : PA X (e :: es) t)
    (hdb : (x == ("__debug__" : Str)) = false := by decide) (he : starEach (e :: es) X.env = (false, eval e X.env) :: starEach es X.env := by rfl) (hpl : (backTo pos (starEach es X.env)).any (·.1) = false := by rfl) :
    PE X (.Call (.Name x p) (e :: es) [] pos) (tCall sp [] E t) := by
  obtain ⟨f, fd, ps, F, hm, kp, b⟩ := c.ex
  exact pe_call F (hr.mono hk) hg hm kp b .nil hx ha hdb he hpl
theorem calX {k : Nat} {x : Str} {f : Addr} {fd : FuncData} {ps : List Str} {sp : Sp} {st : Stmt} (F : FnP K x st f fd) (G : FnOk P w K mg base (L2N.CX P w) k f fd ps sp) (m : mg x = some (.ref f)) (b : Binds K fd ps []) : Cal1 P w K mg base k x sp := ⟨f, fd, ps, G, m, F.kp, b⟩
end
/-- the facts of a refusal's class -/
structure RefC (K : PySem.W.Frag) (mg : Str → Option Value) (c : Str) : Prop where
  g : mg c = some (.ref (He.ga K c))
  x : PySem.W.excIn K (He.ga K c) He.veBase "ValueError.__new__" = true
  kp : PySem.W.keepIn K (.ref (He.ga K c)) = true
  b : PySem.W.subIn K (.ref (He.ga K c)) (.type "BaseException") = some true
  t : PySem.W.typeIn K (.ref (He.ga K c)) = some (.type "type")
theorem ps_ref0 {X : Cx} {c : Str} {E : XK} {p pos pos' : Pos} (r : RefC X.K X.mg c) (hg : Gl X c) (hc : X.calm = true) (tk : L2N.Takes X fun cls d _ H => E cls d H) (hdb : (c == ("__debug__" : Str)) = false := by decide) :
    PS X (.Raise (some (.Call (.Name c p) [] [] pos)) none pos') (HX.tRaise0 E (He.ga X.K c)) := HX.ps_raise0 PySem.F.excBase_ValueError r.x r.g r.kp (raises_own r.b r.t) hg hc tk hdb
end DL

set_option Elab.async false
set_option linter.all false
set_option maxRecDepth 100000
set_option maxHeartbeats 4000000
/-! lambdas -/
namespace DL
open PySem PySem.Spec PyProof.Rows L2
variable [Wr]
/-- a table is written -/
theorem Rel.wrTab {B S0 : Hp} {M : List Addr} {σ : L2.St} {H S : Hp} {ρ : En} (R : Rel B S0 M σ H S ρ) {P : Addr} {q : Str} {ps' : Array Value} (hq : (P, q) ∈ Wr.T) (hu : ∀ p ∈ Wr.T, p.1 = P → p.2 = q) (ht : TriplesOk ps'.toList)
    (hc : ∀ (pos : Pos) (cv : Value), codeAmong pos ps'.toList = some cv → ∃ c, cv = .ref c ∧ S c = some (LamX.CodeO c q)) : Rel B S0 M σ (upd H P (.tbl ps')) S ρ := by
  obtain ⟨hM, hS, ps, hP, _, _⟩ := R.tabs _ hq
  refine ⟨fun a o e => ?_, R.s0, fun a o e m => ?_, fun a m => ?_, R.base, R.len, fun i s e => ?_, R.apart, fun p hp => ?_⟩
  · rw [upd_ne (fun z => by rw [z, hS] at e; cases e)]; exact R.sub a o e
  · rw [upd_ne (fun z => m (by rw [z]; exact hM))]; exact R.keep a o e m
  · by_cases z : a = P
    · exact ⟨_, by rw [z]; exact upd_same⟩
    · rw [upd_ne z]; exact R.there a m
  · refine (R.ats i s e).mono (Ex.refl S) fun l o e1 ow h1 h2 => ⟨?_, h2⟩
    rw [upd_ne (fun z => by rw [z, hP] at h1; cases h1; exact R.no_tbl e ow e1 (by rw [z]; exact hP))]
    exact h1
  · obtain ⟨t1, t2, ps1, t3, t4, t5⟩ := R.tabs p hp
    by_cases z : p.1 = P
    · refine ⟨t1, t2, ps', by rw [z]; exact upd_same, ht, fun pos cv y => ?_⟩
      rw [hu p hp z]
      exact hc pos cv y
    · exact ⟨t1, t2, ps1, by rw [upd_ne z]; exact t3, t4, t5⟩
def dLam (i : Nat) : Fe := fun ρ => .ok (.sh (lamD i), ρ)
theorem re_lam {ER : Er} {P : Addr} {q : Str} (i : Nat) (hq : (P, q) ∈ Wr.T) (hu : ∀ p ∈ Wr.T, p.1 = P → p.2 = q) (hl : ∀ c', (Wr.lm i c').c = c' ∧ (Wr.lm i c').qual = q) : RE ER (HX.tLamW P q (Wr.lm i)) (dLam i) := ⟨fun B S0 M σ H S ρ Q R a => by
  obtain ⟨hM, hS, ps, hP, ht, hco⟩ := R.tabs _ hq
  refine ⟨ps, hP, ht, fun pos cv e => ?_, fun f c' ps' nf fc nc ht' hc' => ?_, fun f c' pos nf hc' => ?_⟩
  · obtain ⟨c, e1, e2⟩ := hco pos cv e
    exact ⟨c, e1, R.sub _ _ e2⟩
  · have R1 := R.pub (o := LamX.CodeO c' q) nc
    have hPc : P ≠ c' := ne_of_none hP nc
    have R2 := R1.wrTab hq hu ht' fun pos cv e => by
      rcases hc' pos cv e with z | z
      · obtain ⟨c, e1, e2⟩ := hco pos cv z
        exact ⟨c, e1, by rw [upd_ne (ne_of_none (R.sub _ _ e2) nc)]; exact e2⟩
      · exact ⟨c', z, upd_same⟩
    have eH : upd (upd H c' (LamX.CodeO c' q)) P (.tbl ps') = upd (upd H P (.tbl ps')) c' (LamX.CodeO c' q) := by
      funext a
      by_cases z : a = P
      · subst z; rw [upd_same, upd_ne hPc, upd_same]
      · by_cases y : a = c'
        · subst y; rw [upd_ne z, upd_same, upd_same]
        · rw [upd_ne z, upd_ne y, upd_ne y, upd_ne z]
    rw [eH] at R2
    have nf' : upd (upd H P (.tbl ps')) c' (LamX.CodeO c' q) f = none := by
      rw [upd_ne fc, upd_ne (fun z => by rw [z, hP] at nf; cases nf)]; exact nf
    have R3 := R2.pub (o := HX.LmO f (Wr.lm i c')) nf'
    have nS : S c' = none := (R.fresh nc).2
    refine a (.ref f) _ _ ((Ex.new nS).trans (Ex.new ((R2.fresh nf').2))) R3 (Rp.lam (c := c') upd_same ?_)
    rw [(hl c').1, (hl c').2, upd_ne (fun z => fc z.symm), upd_same]
  · obtain ⟨c, e1, e2⟩ := hco pos _ hc'
    cases e1
    have R3 := R.pub (o := HX.LmO f (Wr.lm i c')) nf
    refine a (.ref f) _ _ (Ex.new (R.fresh nf).2) R3 (Rp.lam (c := c') upd_same ?_)
    rw [(hl c').1, (hl c').2, upd_ne (ne_of_none (R.sub _ _ e2) nf)]
    exact e2⟩
end DL

set_option Elab.async false
set_option linter.all false
set_option maxRecDepth 100000
set_option maxHeartbeats 4000000
/-! lambdas: what they promise; _law_refused -/
namespace DL
open PySem PySem.Spec PyProof.Rows L2
variable [Wr]
def runL (n : Nat) (f : Fe) (ds : List D) : Res Rv := match f (startE n ds) with
  | .ok (rv, _) => .ok rv
  | .err c fs => .err c fs
  | .no => .no
theorem lokP {P : Program} {w : World} {K : PySem.W.Frag} {mg : Str → Option Value} {base : Heap} {CX : CXT} {EW : EWT} {k n : Nat} {L : HX.LF} {ps : List Str} {fe : Fe} (S : NdefX.NScope ps ps [] L.scope)
    (hb : ∀ (pm ctv : Value) (us : List Value), us.length = ps.length → bindArgs (L.fd pm ctv) ⟨us, []⟩ = pure (ps.zip us)) (hn : ps.length = n)
    (hbody : ∀ (f : Addr) (A : Around) (outer : List Env) (s : Shared) (H : Hp) (E : XK), Room k (A.deeper (NdefX.envF L.nf f s.heap.objs.size)) → ∃ t, PE (NdefX.ncx CX P w K mg base ps L.nf f A outer s H E) L.body t ∧ RE (EW E) t fe) :
    HX.LOk P w K mg base CX (k + 1) L ps (spP n EW (runL n fe)) := by
  subst hn
  refine HX.lok_of S hb (fun vs H Q E h => ?_) fun f A outer s H vs Q E hr h => ?_
  · obtain ⟨S', ds, _, _, r, hl, _⟩ := h
    rw [r.length, hl]
  · obtain ⟨S', ds, sub, tb, r, hl, h⟩ := h
    obtain ⟨t, h1, h2⟩ := hbody f A outer s H E hr
    have es : NdefX.startF ps vs [] = L2.start ps vs := by
      have : vs.length = ps.length := by rw [r.length, hl]
      simp [NdefX.startF, L2.start, this]
    rw [es]
    refine ⟨t, h1, h2.go H S' tbs _ H S' _ _ (rel_start sub tb r (by omega)) ?_⟩
    unfold runL at h
    cases e : fe (startE ps.length ds) with
    | ok x =>
      obtain ⟨rv, ρ'⟩ := x
      rw [e] at h
      exact fun v H' S2 e1 R1 g => h v H' S2 e1 R1.sub (fun a o q z => R1.keep a o q z) (fun a o q => R1.base a o q) R1.tabs g.toP
    | err c fs => rw [e] at h; exact fun H' kp => h H' kp
    | no => rw [e] at h; exact (show False from h).elim
end DL

set_option Elab.async false
set_option linter.all false
set_option maxRecDepth 100000
set_option maxHeartbeats 4000000
/-! _law_refused: the classes of a refusal -/
namespace DL
open PySem PySem.Spec PyProof.Rows L2
variable [Wr]
/-- the refusals without a field -/
def RN : List Str := ["NoHouse", "NoColour", "NoRow", "NoBoxes", "NoLaying", "NoNumber", "NoBox", "NoKey", "Locks", "Unlike", "Open", "Shut", "Full", "NothingLeft"]
def excCB (K : PySem.W.Frag) (D : Addr) : Bool :=
  decide (PySem.W.findIn K (.ref D) "__getattribute__" = some (some (.builtin "BaseException.__getattribute__"))) && decide (PySem.W.findIn K (.ref D) "__getattr__" = some none) && decide (PySem.W.subIn K (.ref D) (.type "BaseException") = some true) && PySem.W.hasDictIn K D &&
  decide (PySem.W.findIn K (.ref D) "__class__" = some (some (.builtin "object.__class__"))) && decide (PySem.W.specialIn K (.builtin "object.__class__") "__get__" = some (some (.builtin "getset_descriptor.__get__"))) && decide (PySem.W.takesIn K (.builtin "object.__class__") = some true) && decide (PySem.W.mroIn K D (.type "object") = some true)
theorem excCB_ok {K : PySem.W.Frag} {D : Addr} (h : excCB K D = true) : ExcC K D := by
  simp only [excCB, Bool.and_eq_true, decide_eq_true_eq] at h
  obtain ⟨⟨⟨⟨⟨⟨⟨h1, h2⟩, h3⟩, h4⟩, h5⟩, h6⟩, h7⟩, h8⟩ := h
  exact ⟨h1, h2, h3, h4, h5, h6, h7, h8⟩
/-- what the written part must say of the refusals -/
def refB (K : PySem.W.Frag) : Bool := RN.all fun c => excCB K (He.ga K c) && decide (PySem.W.kitOne K (.ref (He.ga K c)) (.type "ValueError") = some true) && decide (PySem.W.exmOne K (.ref (He.ga K c)) (.ref (He.ga K "TooMany")) = some false) && decide (PySem.W.exmOne K (.ref (He.ga K c)) (.ref (He.ga K "Locked")) = some false) && decide (PySem.W.exmOne K (.ref (He.ga K c)) (.ref (He.ga K "BoxError")) = some true) && RN.all fun d => decide (PySem.W.kitOne K (.ref (He.ga K c)) (.ref (He.ga K d)) = some (decide (c = d)))
structure RefAll (K : PySem.W.Frag) (mg : Str → Option Value) : Prop where
  b : refB K = true
  g : ∀ c ∈ RN ++ [("TooMany" : Str), "Locked", "BoxError"], mg c = some (.ref (He.ga K c))
  v : mg "ValueError" = none
section
variable {K : PySem.W.Frag} (h : refB K = true)
include h
theorem refB_one {c : Str} (hc : c ∈ RN) : ExcC K (He.ga K c) ∧ PySem.W.kitOne K (.ref (He.ga K c)) (.type "ValueError") = some true ∧ PySem.W.exmOne K (.ref (He.ga K c)) (.ref (He.ga K "TooMany")) = some false ∧ PySem.W.exmOne K (.ref (He.ga K c)) (.ref (He.ga K "Locked")) = some false ∧ PySem.W.exmOne K (.ref (He.ga K c)) (.ref (He.ga K "BoxError")) = some true ∧ ∀ d ∈ RN, PySem.W.kitOne K (.ref (He.ga K c)) (.ref (He.ga K d)) = some (decide (c = d)) := by
  have := List.all_eq_true.mp h c hc
  simp only [Bool.and_eq_true, decide_eq_true_eq, List.all_eq_true] at this
  obtain ⟨⟨⟨⟨⟨h1, h2⟩, h3⟩, h4⟩, h5⟩, h6⟩ := this
  exact ⟨excCB_ok h1, h2, h3, h4, h5, h6⟩
end
/-- the exception that is handled, by its place -/
def dIsE (a : Addr) (b : Bool) (i : Nat) : Fe := fun ρ => match ρ[i]? with
  | some (.sh (.dict [(.bool true, .int k)])) => if k = ((a : Nat) : Int) then .ok (.sh (.bool b), ρ) else .no
  | _ => .no
theorem re_isE {ER : Er} {K : PySem.W.Frag} {D a : Addr} {b : Bool} {v : V} {cv : Value} (i : Nat) (C : ExcC K D) (hv : ∀ u, RelV v u → u = cv) (hk : PySem.W.kitOne K (.ref D) cv = some b) : RE ER (tCB (HX.rIsA K (.ref D) none a) (tCons (tVar i) (tCons (tC v) tNil))) (dIsE a b i) := ⟨fun B S0 M σ H S ρ Q R h => by
  unfold dIsE at h
  split at h
  · rename_i k e
    split at h
    · rename_i hk'
      obtain ⟨w, e1, r⟩ := R.ats i _ e
      have : w = .ref a := Rp.adr_inv (a := a) (by rw [hk'] at r; exact r)
      subst this
      exact ⟨.ref a, e1, D, rfl, rfl, C, v, cv, b, rfl, hv, hk, h (.bl b) H S (Ex.refl S) R rfl⟩
    · exact (show False from h).elim
  · exact (show False from h).elim⟩
/-- over a list alone -/
def dSeqL (fa : Fd) : Fa := fun ρ => (fa ρ).bind fun p => match p.1 with
  | .list ds => .ok (ds, p.2)
  | _ => .no
theorem ri_lst {ER : Er} {K : PySem.W.Frag} {ta : TE} {fa : Fd} (h : RD ER ta fa) : RI ER (HX.iLst K ta) (dSeqL fa) := ⟨fun B S0 M σ H S ρ Q R a => by
  refine h.go B S0 M σ H S ρ _ R (AD.bindI a fun d ρ1 x H1 S1 e1 R1 r1 a1 => ?_)
  cases d with
  | list ds =>
    obtain ⟨l, vs, rfl, hl, rl⟩ := r1
    refine ⟨l, rfl, ⟨vs, SqL.of (R1.sub _ _ hl)⟩, a1 (Itl K l) H1 S1 (Ex.refl S1) R1 ?_⟩
    exact dw_items rl (walk_list (K := K) (a := l) (xs := vs)) fun H e => SqL.of (e _ _ hl)
  | _ => exact (show False from a1).elim⟩
/-- behind an exception nothing is known of the names -/
def nosE (n : Nat) : En := List.replicate n .no
theorem Kp.rel {B S0 : Hp} {M : List Addr} {H' : Hp} {σ : L2.St} (k : Kp B S0 M H') : ∃ S', Ex S0 S' ∧ Rel B S0 M σ H' S' (nosE σ.length) := by
  obtain ⟨k1, S', k2, k3, k4, k5, k6⟩ := k
  refine ⟨S', k2, k3, k2, k1, k5, k6, by simp [nosE], fun i s e => ?_, fun i j s s' l ij e1 e2 o1 o2 _ _ => ?_, k4⟩
  · have : s = .no := by
      unfold nosE at e
      rw [List.getElem?_replicate] at e
      split at e
      · exact (Option.some.inj e).symm
      · cases e
    rw [this]; trivial
  · have : s = .no := by
      unfold nosE at e1
      rw [List.getElem?_replicate] at e1
      split at e1
      · exact (Option.some.inj e1).symm
      · cases e1
    rw [this] at o1; cases o1
/-- what _law_refused tells of a refusal -/
def kinOf (c : Str) (fs : List V) : Option (List D) := match fs with
  | [] => if c ∈ RN then some [.str c, .bool true] else none
  | _ => none
def sRef (Fl : Nat → List D → Res Rv) : Fs := fun ρ => match ρ with
  | [.sh (.dict [(.bool false, .int i)]), .sh a, .sh b, .sh c, s4, s5, s6, s7, s8] => (match Fl i.toNat [a, b, c] with
    | .ok _ => .nx ρ
    | .err c fs => (match kinOf c fs with
      | some kin => .nx ((nosE 9).set 4 (.ow kin))
      | none => .no)
    | .no => .no)
  | _ => .no
theorem rs_ref {ER : Er} {K : PySem.W.Frag} {Wout : WX} {Fl : Nat → List D → Res Rv} {t1 t2 t3 : Addr → Value → Option Addr → TS} {cT cL cB : Value} {g3 : Str → Addr → Fs} (hTm : ∀ c ∈ RN, PySem.W.exmOne K (.ref (He.ga Wr.K c)) cT = some false) (hLk : ∀ c ∈ RN, PySem.W.exmOne K (.ref (He.ga Wr.K c)) cL = some false) (hBx : ∀ c ∈ RN, PySem.W.exmOne K (.ref (He.ga Wr.K c)) cB = some true)
    (h3 : ∀ c ∈ RN, ∀ a, RS ER0 (t3 a (.ref (He.ga Wr.K c)) none) (g3 c a)) (hg : ∀ c ∈ RN, ∀ a, ∃ ρ', g3 c a ((nosE 9).set 5 (.sh (adrD a))) = .nx ρ' ∧ wipeE (ρ'.set 5 .no) [6] = (nosE 9).set 4 (.ow [.str c, .bool true])) :
    RS ER (fun D σ H => tDrop (HX.tCallS Wr.lm 0 (fun j => spP 3 EWx (Fl j)) (HX.wNm K 5 Wout D [(cT, t1), (cL, t2), (cB, t3)]) (tCons (tVar 1) (tCons (tVar 2) (tCons (tVar 3) tNil)))) D σ H) (sRef Fl) := ⟨fun B S0 M σ H S ρ D R a => by
  unfold sRef at a
  split at a
  · rename_i i d1 d2 d3 s4 s5 s6 s7 s8
    obtain ⟨v0, e0, r0⟩ := R.ats 0 _ rfl
    obtain ⟨v1, e1, r1⟩ := R.ats 1 _ rfl
    obtain ⟨v2, e2, r2⟩ := R.ats 2 _ rfl
    obtain ⟨v3, e3, r3⟩ := R.ats 3 _ rfl
    have hlen : σ.length = 9 := R.len
    obtain ⟨f, rfl, z | z | ⟨n, c', ek, hf, hc⟩ | ⟨_, _, _, z, _⟩⟩ := r0
    case' inr.inr.inr => simp [tdK] at z
    · obtain ⟨ns, z, _⟩ := z
      injection z with z _; injection z with z _; cases z
    · injection z with z _; injection z with z _; injection z with z; cases z
    · injection ek with ek _; injection ek with _ ek; injection ek with ek
      subst ek
      have en : ((n : Nat) : Int).toNat = n := Int.toNat_natCast n
      rw [en] at a
      generalize hW : HX.wNm K 5 Wout D [(cT, t1), (cL, t2), (cB, t3)] = W
      have fin : spP 3 EWx (Fl n) [v1, v2, v3] H (fun _ H1 => D.nx σ H1) (WE W σ) → HX.tCallS Wr.lm 0 (fun j => spP 3 EWx (Fl j)) W (tCons (tVar 1) (tCons (tVar 2) (tCons (tVar 3) tNil))) σ H fun _ H1 => D.nx σ H1 := fun q =>
        ⟨f, n, c', e0, R.sub _ _ hf, v1, e1, v2, e2, v3, e3, R.sub _ _ hf, R.sub _ _ hc, q⟩
      cases hF : Fl n [d1, d2, d3] with
      | no => rw [hF] at a; exact (show False from a).elim
      | ok rv =>
        rw [hF] at a
        have rr := (re_call0 (ER := ER0) (n := 3) (EW := EWx) (E := WE W σ) (F := Fl n) (ra_cons (re_var 1).sh (ra_cons (re_var 2).sh (ra_cons (re_var 3).sh ra_nil)))).go B S0 M σ H S _ (fun _ H1 => D.nx σ H1) R (by
          show AE ER0 B S0 M σ S _ ((noErr (Fl n [d1, d2, d3])).bind fun rv => .ok (rv, _))
          rw [hF]
          exact fun v H' S' x1 x2 _ => a σ H' S' x1 x2)
        obtain ⟨w1, f1, w2, f2, w3, f3, q⟩ := rr
        cases e1.symm.trans f1
        cases e2.symm.trans f2
        cases e3.symm.trans f3
        exact fin q
      | err c fs =>
        rw [hF] at a
        refine fin ⟨S, [d1, d2, d3], R.sub, R.tabs.low, .cons r1 (.cons r2 (.cons r3 .nil)), rfl, ?_⟩
        rw [hF]
        intro H' kp
        simp only at a
        unfold kinOf at a
        cases fs with
        | cons x l => exact (show False from a).elim
        | nil =>
          simp only at a
          by_cases hcR : c ∈ RN
          · rw [if_pos hcR] at a
            show W (.ref (He.ga Wr.K c)) none σ H'
            rw [← hW]
            refine ⟨false, hTm c hcR, (fun z => nomatch z), fun _ => ⟨false, hLk c hcR, (fun z => nomatch z), fun _ => ⟨true, hBx c hcR, fun _ ad _ => ?_, (fun z => nomatch z)⟩⟩⟩
            obtain ⟨kp1, S', kp2, kp3, kp4, kp5, kp6⟩ := id kp
            obtain ⟨m1, _⟩ := R.kpAfter (L := tbs) (fun x hx => .inl (R.tabs.sub x hx)) kp (fun x hx => hx)
            have k2 : Rel B S0 M σ H' S' (nosE 9) := by
              have kk : Kp B S0 M H' := ⟨m1, S', R.s0.trans kp2, kp3, kp4.up R.tabs.sub, fun x hx => by
                obtain ⟨o, ho⟩ := R.there x hx
                by_cases z : x ∈ tbs
                · exact kp5 x z
                · exact ⟨o, kp1 x o ho z⟩, fun x o hx => by
                  by_cases z : x ∈ M
                  · obtain ⟨o', ho⟩ := R.there x z
                    rw [kp6 x o' ho]; exact R.base x o hx
                  · rw [kp6 x o (R.keep x o hx z)]; exact R.base x o hx⟩
              refine ⟨kp3, R.s0.trans kp2, m1, kk.2.choose_spec.2.2.2.1, fun x o hx => ?_, by rw [hlen]; rfl, fun i s e => ?_, fun i j s s' l ij y1 y2 o1 o2 _ _ => ?_, kp4.up R.tabs.sub⟩
              · by_cases z : x ∈ M
                · obtain ⟨o', ho⟩ := R.there x z
                  rw [kp6 x o' ho]; exact R.base x o hx
                · rw [kp6 x o (R.keep x o hx z)]; exact R.base x o hx
              · have : s = .no := by
                  unfold nosE at e
                  rw [List.getElem?_replicate] at e
                  split at e
                  · exact (Option.some.inj e).symm
                  · cases e
                rw [this]; trivial
              · have : s = .no := by
                  unfold nosE at y1
                  rw [List.getElem?_replicate] at y1
                  split at y1
                  · exact (Option.some.inj y1).symm
                  · cases y1
                rw [this] at o1; cases o1
            have k3 := k2.setSh (i := 5) (Rp.adr (S := S') ad)
            obtain ⟨ρ', q1, q2⟩ := hg c hcR ad
            refine (h3 c hcR ad).go B S0 M _ H' S' _ _ k3 ?_
            rw [q1]
            intro σ2 H2 S2 y1 y2
            have y3 := (y2.setNo (i := 5) none).forgets [6]
            rw [q2] at y3
            exact a _ H2 S2 (kp2.trans y1) y3
          · rw [if_neg hcR] at a; exact (show False from a).elim
  · exact (show False from a).elim⟩
end DL

set_option Elab.async false
set_option linter.all false
set_option maxRecDepth 100000
set_option maxHeartbeats 4000000
/-! defs that make lambdas -/
namespace DL
open PySem PySem.Spec PyProof.Rows L2
variable [Wr]
/-! places in a text -/
def inS (i : Nat) (s : Stmt) : Stmt := (match s with
  | .For _ _ b _ _ => b
  | .While _ b _ _ => b
  | .If _ b _ _ => b
  | _ => []).getD i (.Pass ⟨0, 0, 0, 0⟩)
def elS (i : Nat) (s : Stmt) : Stmt := (match s with
  | .If _ _ b _ => b
  | _ => []).getD i (.Pass ⟨0, 0, 0, 0⟩)
def exS (s : Stmt) : Expr := match s with
  | .If t _ _ _ => t
  | .While t _ _ _ => t
  | .For _ t _ _ _ => t
  | .Return (some e) _ => e
  | .Assign _ e _ => e
  | .Expr e _ => e
  | _ => .Constant .none 0 ⟨0, 0, 0, 0⟩
def inE (i : Nat) (e : Expr) : Expr := (match e with
  | .Compare l _ rs _ => l :: rs
  | .Call f as _ _ => f :: as
  | .BoolOp _ vs _ => vs
  | .UnaryOp _ x _ => [x]
  | .Subscript v s _ => [v, s]
  | .BinOp l _ r _ => [l, r]
  | .IfExp t a b _ => [t, a, b]
  | _ => []).getD i (.Constant .none 0 ⟨0, 0, 0, 0⟩)
def lamOf (q : Str) (e : Expr) (c : Addr) : HX.LF := match e with
  | .Lambda p b s _ => ⟨q, p, b, s, c⟩
  | _ => ⟨q, ⟨[], [], none, [], [], none, []⟩, e, ⟨.function, [], false, false, []⟩, c⟩
def lamSc (e : Expr) : Scope := match e with
  | .Lambda _ _ s _ => s
  | _ => ⟨.function, [], false, false, []⟩
theorem lam_sc (q : Str) (e : Expr) (c : Addr) : (lamOf q e c).scope = lamSc e := by
  cases e <;> rfl
section
variable {P : Program} {w : World} {K : PySem.W.Frag} {mg : Str → Option Value} {base : Heap}
theorem okC {CX : CXT} {x qual : Str} {params : Arguments} {body : List Stmt} {scope : Scope} {fd : FuncData} {N ps : List Str} {k : Nat} {sp : Sp} {p : Str × Option Str} (F : FunD K x qual params body scope [] [] (He.fAd K p) fd) (S : FnScope N ps scope) (len : ∀ vs H Q E, sp vs H Q E → vs.length = ps.length)
    (hbody : ∀ (A : Around) (outer : List Env) (s : Shared) (H : Hp) (vs : List V) (Q : VK) (E : XK), Room k (A.deeper (envOfC qual scope s.heap.objs.size (He.fAd K p) (.ref (He.codeOf K p)))) → sp vs H Q E →
      ∃ t, PSs (cxOf CX P w K mg base N qual scope (He.fAd K p) (.ref (He.codeOf K p)) A outer s H E) body t ∧ t { nx := fun _ H' => Q .non H', rt := Q } (L2.start N vs) H) : FnOk P w K mg base CX (k + 1) (He.fAd K p) fd ps sp := by
  obtain ⟨oc, od, dV, kV, doc, pm, an, cdv, ct, osl, rfl, lk, hcd, _, _⟩ := F.ex
  obtain ⟨c, rfl⟩ := He.codeIn_ref hcd
  have e := He.codeOf_eq lk rfl
  exact fn_of lk hcd S len fun A outer s H vs Q E hr hsp => by
    rw [← e] at hr ⊢
    exact hbody A outer s H vs Q E hr hsp
theorem fnPC {CX : CXT} {EW : EWT} {x qual : Str} {params : Arguments} {body : List Stmt} {scope : Scope} {fd : FuncData} {N ps : List Str} {k n m : Nat} {fs : Fs} {p : Str × Option Str}
    (F : FunD K x qual params body scope [] [] (He.fAd K p) fd) (S : FnScope N ps scope) (hn : ps.length = n) (hm : N.length = m)
    (hbody : ∀ (A : Around) (outer : List Env) (s : Shared) (H : Hp) (E : XK), Room k (A.deeper (envOfC qual scope s.heap.objs.size (He.fAd K p) (.ref (He.codeOf K p)))) →
      ∃ t, PSs (cxOf CX P w K mg base N qual scope (He.fAd K p) (.ref (He.codeOf K p)) A outer s H E) body t ∧ RS (EW E) t fs) : FnOk P w K mg base CX (k + 1) (He.fAd K p) fd ps (spP n EW (runP m fs)) := by
  subst hm
  have hNl : n ≤ N.length := by
    have := congrArg List.length S.pre
    rw [List.length_take] at this
    omega
  refine okC F S (fun vs H Q E h => ?_) (fun A outer s H vs Q E hr h => ?_)
  · obtain ⟨S', ds, _, _, r, hl, _⟩ := h
    rw [r.length, hl, hn]
  · obtain ⟨S', ds, sub, tb, r, hl, h⟩ := h
    obtain ⟨t, h1, h2⟩ := hbody A outer s H E hr
    refine ⟨t, h1, h2.go H S' tbs _ H S' _ _ (rel_start sub tb r (by omega)) ?_⟩
    unfold runP at h
    cases e : fs (startE N.length ds) with
    | nx ρ' =>
      rw [e] at h
      exact fun σ' H' S2 e1 R1 => h .non H' S2 e1 R1.sub (fun a o q z => R1.keep a o q z) (fun a o q => R1.base a o q) R1.tabs rfl
    | rt rv ρ' =>
      rw [e] at h
      exact fun v σ' H' S2 e1 R1 g => h v H' S2 e1 R1.sub (fun a o q z => R1.keep a o q z) (fun a o q => R1.base a o q) R1.tabs g.toP
    | bk ρ' => rw [e] at h; exact (show False from h).elim
    | ct ρ' => rw [e] at h; exact (show False from h).elim
    | err c fs => rw [e] at h; exact fun H' kp => h H' kp
    | no => rw [e] at h; exact (show False from h).elim
end
theorem pe_lamI {X : Cx} {c P : Addr} {params : Arguments} {body : Expr} {scope : Scope} {pos : Pos} (i : Nat) (TB : LamX.TabB X.base X.mg c P) (hcode : X.env.code = .ref c) (hl : Wr.lm i = fun c' => ⟨X.env.qual ++ "<lambda>", params, body, scope, c'⟩)
    (hdef : defaultsOf params X.env = ([], [])) (hfree : ∀ y ∈ scope.names, y.2 ≠ .free) : PE X (.Lambda params body scope pos) (HX.tLamW P (X.env.qual ++ "<lambda>") (Wr.lm i)) := by
  rw [hl]
  exact HX.pe_lamW TB hcode hdef hfree
end DL

set_option Elab.async false
set_option linter.all false
set_option maxRecDepth 100000
set_option maxHeartbeats 4000000
/-! looks at a list of one's own -/
namespace DL
open PySem PySem.Spec PyProof.Rows L2
variable [Wr]
def dIsiO (T : String) (i : Nat) : Fe := fun ρ => match ρ[i]?.bind slD with
  | some d => optR (bRv (isiD T d)) ρ
  | none => .no
theorem re_isiO {ER : Er} {K : PySem.W.Frag} (T : String) (i : Nat) : RE ER (tCB (rIsi K) (tCons (tVar i) (tCons (tC (.ty T)) tNil))) (dIsiO T i) := ⟨fun B S0 M σ H S ρ Q R a => by
  unfold dIsiO at a
  cases hd : ρ[i]?.bind slD with
  | none => rw [hd] at a; exact (show False from a).elim
  | some d =>
    rw [hd] at a
    obtain ⟨v, ev, pk⟩ := R.peek hd
    refine ⟨v, ev, ?_⟩
    show rIsi K [v, .ty T] H Q
    replace a : AE ER B S0 M σ S Q (optR (bRv (isiD T d)) ρ) := a
    unfold isiD at a
    cases hn : tyName d with
    | none => rw [hn] at a; exact (show False from a).elim
    | some n =>
      rw [hn] at a
      replace a : AE ER B S0 M σ S Q (optR (bRv (kitB n T)) ρ) := a
      cases hk : kitB n T with
      | none => rw [hk] at a; exact (show False from a).elim
      | some b =>
        rw [hk] at a
        have ty : TyX K H v (.type n) := by
          rcases pk with r | ⟨l, vs, ds, rfl, rfl, h1, h2⟩
          · exact tyX_of R.sub r hn
          · cases hn; exact .base (.lst h1)
        exact ⟨v, .ty T, .type n, .type T, b, rfl, .ty T, ty, kit_ty hk, a (.bl b) H S (Ex.refl S) R rfl⟩⟩
end DL

set_option Elab.async false
set_option linter.all false
set_option maxRecDepth 100000
set_option maxHeartbeats 4000000
/-! x[::-1], repr of a truth, tuple * int, insert, tuple.index of ints, x[a], x[b] = .. -/
namespace HX
open PySem PySem.Spec PyProof.Rows L2
theorem flat_ints (ys : List Int) : (ys.map V.int).all flatV = true := by
  induction ys with
  | nil => rfl
  | cons a l ih => simp only [List.map_cons, List.all_cons, ih, Bool.and_true]; rfl
/-- t.index(x), ints -/
def rTIx (K : PySem.W.Frag) : V → List V → Hp → VK → Prop := fun x xs H Q => ∃ p, ∃ ys : List Int, ∃ z j, x = .ref p ∧ xs = [.int z] ∧ SqT K H p (ys.map V.int) ∧ ys[j]? = some z ∧ (∀ m, m < j → ys[m]? ≠ some z) ∧ Q (.int (j : Nat)) H
theorem mt_tupIx {X : Cx} : MtR X "tuple.index" (rTIx X.K) := by
  intro pins s σ H x xs v us Q I rx rs h
  obtain ⟨p, ys, z, j, rfl, rfl, hq, hy, hno, q⟩ := h
  cases rx
  obtain ⟨u, rfl, t, rfl⟩ := vals1 rs
  obtain ⟨its, r, pl, hz⟩ := I.tuple hq
  obtain ⟨⟨cls, dd, dt, sl⟩, ho, hc, n, hd⟩ := pl
  simp only at hc hd
  subst hc
  subst hd
  have hl : its.toArray.size = ys.length := by rw [List.size_toArray, ← r.length, List.length_map]
  have hj : j < its.toArray.size := by rw [hl]; exact (List.getElem?_eq_some_iff.mp hy).1
  have at' : ∀ (m : Nat) (hm : m < its.toArray.size), ∃ y t', ys[m]? = some y ∧ its.toArray[m] = Value.int y t' := fun m hm => by
    have hm' : m < ys.length := by rw [← hl]; exact hm
    obtain ⟨w, hw, t', hw'⟩ := r.get (i := m) (x := .int ys[m]) (by simp [hm'])
    refine ⟨ys[m], t', List.getElem?_eq_getElem hm', ?_⟩
    have e := (List.getElem?_eq_some_iff.mp hw).2
    rw [← hw', ← e]
    simp
  refine call_meets PySem.F.slot_tuple_index ⟨_, ho, rfl⟩ PySem.F.entry_tuple_index (PySem.F.args_tuple_index_2 _ _) (TI.tuple_indexAt p its.toArray n dd sl (.int z t) (eqU (.int z)) j hj ?_ ?_)
    ⟨ho, fun w hw => mem_eqAt (x := .int z) ⟨t, rfl⟩ rfl r (flat_ints ys) w (by simpa using hw), ⟨.int (j : Nat), H, I.tok _, ⟨_, rfl⟩, q⟩⟩
  · obtain ⟨y, t', h1, h2⟩ := at' j hj
    rw [hy] at h1
    cases h1
    rw [h2]
    show (z == z) = true
    exact beq_self_eq_true z
  · intro m hm hmj
    obtain ⟨y, t', h1, h2⟩ := at' m hm
    rw [h2]
    show (y == z) = false
    exact beq_eq_false_iff_ne.mpr fun e => hno m hmj (e ▸ h1)
end HX
namespace DL
open PySem PySem.Spec PyProof.Rows L2
variable [Wr]
theorem RpL.reverse {S : Hp} : ∀ {ds : List D} {vs : List V}, RpL S vs ds → RpL S vs.reverse ds.reverse
  | [], vs, h => by
    have := h.length
    have e : vs = [] := List.eq_nil_of_length_eq_zero this
    subst e
    exact h
  | d :: ds, vs, h => by
    obtain ⟨w, ws, rfl, r1, r2⟩ := h
    rw [List.reverse_cons, List.reverse_cons]
    exact (RpL.reverse r2).append (.one r1)
section
variable {ER : Er} {ta tb tc te : TE} {fa fb fc : Fd} {fe fe' : Fe} {K : PySem.W.Frag} {tr : TA} {fr : Fa}
/-- x[::-1] -/
def revD : D → Option Rv
  | .list ds => some (.fr ds.reverse)
  | .tuple ds => some (.sh (.tuple ds.reverse))
  | _ => none
def dRev (fa : Fd) : Fe := fun ρ => (fa ρ).bind fun p => optR (revD p.1) p.2
/-- repr(b) -/
def dReprF : List D → Option Rv
  | [.bool b] => some (.sh (.str (if b then "True" else "False")))
  | _ => none
theorem g_repr : CallG (fun xs H Q => ∃ b, xs = [V.bl b] ∧ Q (.str (if b then "True" else "False")) H) dReprF := fun B S0 M σ H S ρ xs ds rv Q R r h a => by
  unfold dReprF at h
  split at h
  · cases h
    obtain ⟨v, rfl, r1⟩ := RpL.one_inv r
    rw [show v = .bl _ from r1]
    exact ⟨_, rfl, ag_sh R a rfl⟩
  · cases h
/-- a tuple times -/
def dMulT : D → D → Option Rv
  | .tuple ds, .int k => if (decide (0 < ds.length) && decide (ds.length ≤ 1000) && decide (2 ≤ k) && decide (k ≤ 1000)) = true then some (.sh (.tuple (List.replicate k.toNat ds).flatten)) else none
  | _, _ => none
/-- x.insert(k, e) -/
def rInsL : V → List V → Hp → VK → Prop := fun x vs H Q => ∃ (l : Addr) (xs : List V) (i : Int) (y : V), x = .ref l ∧ vs = [.int i, y] ∧ H l = some (.lst xs) ∧ xs.length < sizeLine ∧ 0 ≤ i ∧ i < 2 ^ 63 ∧ Q .non (upd H l (.lst (xs.take i.toNat ++ [y] ++ xs.drop i.toNat)))
def sIns (i : Nat) (fa fb : Fd) : Fs := fun ρ => if isL ρ i = true then onR (fa ρ) fun k ρ1 => onR (fb ρ1) fun d ρ2 => (match k with
  | .int k => if (decide (0 ≤ k) && s62 k) = true then (match updL i (fun ds => if szOk ds.length = true then some ((), ds.take k.toNat ++ [d] ++ ds.drop k.toNat) else none) ρ2 with
    | some p => .nx p.2
    | none => .no) else .no
  | _ => .no)
  else .no
theorem rs_ins (i : Nat) (h : RD ER ta fa) (h' : RD ER tb fb) : RS ER (tDrop (tBM K "list" rInsL (tVar i) (tCons ta (tCons tb tNil)))) (sIns i fa fb) := ⟨fun B S0 M σ H S ρ E R a => by
  unfold sIns at a
  split at a
  · rename_i hi
    obtain ⟨l, vs, ev, hv⟩ := isL_addr R hi
    refine ⟨.ref l, ev, .inl ⟨rfl, vs, SqL.of hv⟩, h.go B S0 M σ H S ρ _ R (AD.bindS a fun k ρ1 kv H1 S1 e1 R1 r1 a1 => ?_)⟩
    refine h'.go B S0 M σ H1 S1 ρ1 _ R1 (AD.bindS a1 fun d ρ2 v H2 S2 e2 R2 r2 a2 => ?_)
    cases k with
    | int k =>
      simp only at a2
      split at a2
      · rename_i hk
        simp only [Bool.and_eq_true, decide_eq_true_eq] at hk
        have hk2 := s62_ok hk.2
        have ee : (2 : Int) ^ 62 = 4611686018427387904 := by decide
        rw [ee] at hk2
        split at a2
        · rename_i p hp
          obtain ⟨s, ds, es, hs, h1, h2, h3⟩ := updL_some (a := p.1) (ρ' := p.2) hp
          obtain ⟨l', vs', ev', hv', _, r', _, _, _, w⟩ := R2.mutL hs h1
          rw [ev] at ev'
          injection ev' with ev'; injection ev' with ev'; injection ev' with ev'
          subst ev'
          split at h2
          · rename_i hz
            injection h2 with h2; injection h2 with _ h2
            subst h2
            refine ⟨l, vs', k, v, rfl, by rw [show kv = .int k from r1], hv', by rw [r'.length]; exact sz_lt hz, hk.1, ?_, ?_⟩
            · have e : (2 : Int) ^ 63 = 9223372036854775808 := by decide
              rw [e]; omega
            · rw [h3] at a2
              exact a2 σ _ S2 (Ex.refl S2) (w _ _ (((r'.take _).append (.one r2)).append (r'.drop _)))
          · cases h2
        · exact (show False from a2).elim
      · exact (show False from a2).elim
    | _ => exact (show False from a2).elim
  · exact (show False from a).elim⟩
/-- x[k] = d, then what follows -/
def setK (i : Nat) (fk : Fd) (d : D) (c : En → Out) (ρ : En) : Out := if isL ρ i = true then onR (fk ρ) fun k ρ2 => (match k with
  | .int k => (match updL i (fun ds => (ixN ds.length k).map fun j => ((), ds.set j d)) ρ2 with
    | some p => c p.2
    | none => .no)
  | _ => .no)
  else .no
theorem setK_go {B S0 : Hp} {M : List Addr} {σ : L2.St} {H S : Hp} {ρ : En} {E : Ends} {i : Nat} {d : D} {c : En → Out} {v : V} {Q : L2.St → Hp → Prop} (hk : RD ER tb fb) (R : Rel B S0 M σ H S ρ) (r : Rp S v d)
    (a : AS ER B S0 M S E (setK i fb d c ρ)) (q : ∀ ρ' H' S', Ex S S' → Rel B S0 M σ H' S' ρ' → AS ER B S0 M S' E (c ρ') → Q σ H') : gSub (tVar i) tb rSetL v σ H Q := by
  unfold setK at a
  split at a
  · rename_i hi
    obtain ⟨l, vs, ev, hv⟩ := isL_addr R hi
    refine ⟨.ref l, ev, hk.go B S0 M σ H S ρ _ R (AD.bindS a fun k ρ2 kv H2 S2 e2 R2 r2 a2 => ?_)⟩
    cases k with
    | int k =>
      simp only at a2
      split at a2
      · rename_i p hp
        obtain ⟨s, ds, es, hs, h1, h2, h3⟩ := updL_some (a := p.1) (ρ' := p.2) hp
        obtain ⟨l', vs', ev', hv', _, r', _, _, _, w⟩ := R2.mutL hs h1
        rw [ev] at ev'
        injection ev' with ev'; injection ev' with ev'; injection ev' with ev'
        subst ev'
        obtain ⟨j, hj, h4⟩ := Option.map_eq_some_iff.mp h2
        injection h4 with _ h4
        subst h4
        refine ⟨l, vs', k, j, rfl, r2, hv', by rw [r'.length]; exact hj, ?_⟩
        rw [h3] at a2
        exact q _ _ S2 e2 (w (vs'.set j v) (ds.set j d) (r'.set (Rp.mono e2 _ r) j)) a2
      · exact (show False from a2).elim
    | _ => exact (show False from a2).elim
  · exact (show False from a).elim
/-- x[a], x[b] = e -/
def sSwap (i : Nat) (fv fa fb : Fd) : Fs := fun ρ => onR (fv ρ) fun d ρ1 => (match d with
  | .tuple [d1, d2] => setK i fa d1 (setK i fb d2 .nx) ρ1
  | _ => .no)
theorem rs_swap (i : Nat) (hv : RD ER te fa) (h1 : RD ER tb fb) (h2 : RD ER tc fc) : RS ER (tAsg te (gTup K 2 (gCons (gSub (tVar i) tb rSetL) (gCons (gSub (tVar i) tc rSetL) gNil)))) (sSwap i fa fb fc) := ⟨fun B S0 M σ H S ρ E R a => by
  refine hv.go B S0 M σ H S ρ _ R (AD.bindS a fun d ρ1 v H1 S1 e1 R1 r1 a1 => ?_)
  split at a1
  · rename_i d1 d2
    obtain ⟨p, xs, rfl, g1, r⟩ := r1
    obtain ⟨v1, v2, rfl, q1, q2⟩ := RpL.two_inv r
    refine ⟨p, _, rfl, Tp.sq R1.sub g1, rfl, v1, [v2], rfl, setK_go h1 R1 q1 a1 fun ρ' H' S' e R' a' => ?_⟩
    exact ⟨v2, [], rfl, setK_go h2 R' (Rp.mono e _ q2) a' fun ρ'' H'' S'' e'' R'' a'' => ⟨rfl, a'' σ H'' S'' (Ex.refl _) R''⟩⟩
  · exact (show False from a1).elim⟩
end
theorem fn_never {EW : EWT} {CX : CXT} {P : Program} {w : World} {K : PySem.W.Frag} {mg : Str → Option Value} {base : Heap} {k n : Nat} {f : Addr} {fd : FuncData} {ps : List Str} {F : List D → Res Rv} (h : ∀ ds, F ds = .no) : FnOk P w K mg base CX k f fd ps (spP n EW F) :=
  ⟨fun vs H Q E q => by obtain ⟨S, ds, _, _, _, _, z⟩ := q; rw [h ds] at z; exact z.elim, fun A outer s H args us vs Q E _ _ _ _ q => by obtain ⟨S, ds, _, _, _, _, z⟩ := q; rw [h ds] at z; exact z.elim⟩
end DL

set_option Elab.async false
set_option linter.all false
set_option maxRecDepth 100000
set_option maxHeartbeats 4000000
/-! sorted of rows of ints, of numbers with rows; dicts of pairs -/
namespace DL
open PySem PySem.Spec PyProof.Rows L2
variable [Wr]
theorem hu66 {A : Around} {k : Nat} (hr : Room k A) : A.units + 66 < cLine := by have := hr.un; omega
/-! sorting by any order -/
def insW {κ : Type} (lt : κ → κ → Bool) (x : κ) : List κ → List κ
  | [] => [x]
  | y :: r => if lt y x = true then y :: insW lt x r else x :: y :: r
def srtW {κ : Type} (lt : κ → κ → Bool) : List κ → List κ
  | [] => []
  | x :: r => insW lt x (srtW lt r)
theorem insW_perm {κ : Type} (lt : κ → κ → Bool) (x : κ) : ∀ l, (insW lt x l).Perm (x :: l)
  | [] => List.Perm.refl _
  | y :: r => by
    unfold insW
    split
    · exact ((insW_perm lt x r).cons y).trans (List.Perm.swap x y r)
    · exact List.Perm.refl _
theorem srtW_perm {κ : Type} (lt : κ → κ → Bool) : ∀ l, (srtW lt l).Perm l
  | [] => List.Perm.refl _
  | x :: r => (insW_perm lt x (srtW lt r)).trans ((srtW_perm lt r).cons x)
theorem insW_srtd {κ : Type} {lt : κ → κ → Bool} (O : SrtO.Swo lt) (x : κ) : ∀ l, SrtO.Srtd lt l → SrtO.Srtd lt (insW lt x l)
  | [], _ => List.pairwise_singleton _ _
  | y :: r, h => by
    obtain ⟨h1, h2⟩ := List.pairwise_cons.mp h
    unfold insW
    split
    · rename_i hl
      refine List.pairwise_cons.mpr ⟨fun z hz => ?_, insW_srtd O x r h2⟩
      rcases List.mem_cons.mp ((insW_perm lt x r).mem_iff.mp hz) with e | hz
      · rw [e]; exact O.asym y x hl
      · exact h1 z hz
    · rename_i hl
      have hl' : lt y x = false := by simpa using hl
      refine List.pairwise_cons.mpr ⟨fun z hz => ?_, h⟩
      rcases List.mem_cons.mp hz with e | hz
      · rw [e]; exact hl'
      · exact O.tr x y z hl' (h1 z hz)
theorem srtW_srtd {κ : Type} {lt : κ → κ → Bool} (O : SrtO.Swo lt) : ∀ l, SrtO.Srtd lt (srtW lt l)
  | [] => List.Pairwise.nil
  | x :: r => insW_srtd O x _ (srtW_srtd O r)
theorem srtW_eq {κ : Type} {lt : κ → κ → Bool} (O : SrtO.Swo lt) (anti : ∀ a b, lt a b = false → lt b a = false → a = b) {l m : List κ} (h : SrtO.Srtd lt m) (p : m.Perm l) : m = srtW lt l :=
  sorted_unique (le := fun x y => lt y x = false) (fun a b h1 h2 => anti a b h2 h1) h (srtW_srtd O l) (p.trans (srtW_perm lt l).symm)
/-! rows as data -/
def rowOf : D → Option (List Int)
  | .tuple ds => (intsOf ds).bind fun ns => if ns = [] then none else some ns
  | _ => none
def nrowOf : D → Option (Int × List Int)
  | .tuple [.int n, .tuple ds] => (intsOf ds).map fun ns => (n, ns)
  | _ => none
def allOf {κ : Type} (f : D → Option κ) : List D → Option (List κ)
  | [] => some []
  | d :: ds => (f d).bind fun k => (allOf f ds).map (k :: ·)
theorem allOf_map {κ : Type} {f : D → Option κ} {e : κ → D} (h : ∀ k, f (e k) = some k) : ∀ ks : List κ, allOf f (ks.map e) = some ks
  | [] => rfl
  | k :: ks => by simp [allOf, h, allOf_map h ks]
theorem allOf_mapG {κ α : Type} {f : D → Option κ} {e : α → D} {g : α → κ} : ∀ ks : List α, (∀ k ∈ ks, f (e k) = some (g k)) → allOf f (ks.map e) = some (ks.map g)
  | [], _ => rfl
  | k :: ks, h => by simp [allOf, h k (by simp), allOf_mapG ks fun x hx => h x (by simp [hx])]
def eRow (ns : List Int) : D := .tuple (ns.map .int)
def eNRow (k : Int × List Int) : D := .tuple [.int k.1, eRow k.2]
theorem rowOf_eq {d : D} {k : List Int} (h : rowOf d = some k) : d = eRow k ∧ k ≠ [] := by
  unfold rowOf at h
  split at h
  · rename_i ds
    obtain ⟨ns, h1, h2⟩ := Option.bind_eq_some_iff.mp h
    split at h2
    · cases h2
    · cases h2
      rename_i hn
      exact ⟨by rw [intsOf_eq h1]; rfl, hn⟩
  · cases h
theorem nrowOf_eq {d : D} {k : Int × List Int} (h : nrowOf d = some k) : d = eNRow k := by
  unfold nrowOf at h
  split at h
  · rename_i n ds
    obtain ⟨ns, h1, h2⟩ := Option.map_eq_some_iff.mp h
    cases h2
    rw [intsOf_eq h1]
    rfl
  · cases h
/-- sorted(xs) by keys -/
def dSortKF {κ : Type} (lt : κ → κ → Bool) (f : D → Option κ) (e : κ → D) : List D → Option Rv
  | [.list ds] => (allOf f ds).map fun ks => .fr ((srtW lt ks).map e)
  | _ => none
section
variable {ER : Er} {ta tb tc te : TE} {fa fb fc : Fd} {fe fe' : Fe} {K : PySem.W.Frag} {tr : TA} {fr : Fa}
/-- keys of values, by the heap -/
theorem keys_fun {κ : Type} [Inhabited κ] {S : Hp} {e : κ → D} (inj : ∀ v k k', Rp S v (e k) → Rp S v (e k') → k = k') : ∀ {ks : List κ} {vs : List V}, RpL S vs (ks.map e) → ∃ kf : V → κ, vs.map kf = ks ∧ ∀ v ∈ vs, Rp S v (e (kf v))
  := by
  intro ks vs h
  refine ⟨fun v => Classical.epsilon fun k => Rp S v (e k), ?_⟩
  have : ∀ {ks : List κ} {vs : List V}, RpL S vs (ks.map e) → vs.map (fun v => Classical.epsilon fun k => Rp S v (e k)) = ks ∧ ∀ v ∈ vs, Rp S v (e (Classical.epsilon fun k => Rp S v (e k))) := by
    intro ks
    induction ks with
    | nil =>
      intro vs h
      have : vs = [] := h
      subst this
      exact ⟨rfl, fun v hv => by cases hv⟩
    | cons k ks ih =>
      intro vs h
      obtain ⟨v, ws, rfl, h1, h2⟩ := h
      obtain ⟨i1, i2⟩ := ih h2
      have hs : Rp S v (e (Classical.epsilon fun k => Rp S v (e k))) := Classical.epsilon_spec (p := fun k => Rp S v (e k)) ⟨k, h1⟩
      refine ⟨?_, fun u hu => ?_⟩
      · rw [List.map_cons, i1, inj v _ _ hs h1]
      · rcases List.mem_cons.mp hu with rfl | hu
        · exact hs
        · exact i2 u hu
  exact this h
theorem rp_of_keys {κ : Type} {S : Hp} {e : κ → D} {kf : V → κ} : ∀ {ys : List V}, (∀ v ∈ ys, Rp S v (e (kf v))) → RpL S ys ((ys.map kf).map e)
  | [], _ => rfl
  | y :: ys, h => ⟨y, ys, rfl, h y (by simp), rp_of_keys fun v hv => h v (by simp [hv])⟩
theorem sortK_go {κ : Type} [Inhabited κ] {lt : κ → κ → Bool} {f : D → Option κ} {e : κ → D} {It : PySem.W.Frag → Hp → V → κ → Prop} (O : SrtO.Swo lt) (anti : ∀ a b, lt a b = false → lt b a = false → a = b)
    (it : ∀ {S H : Hp}, Ex S H → ∀ v d k, f d = some k → Rp S v d → It K H v k) (fe : ∀ d k, f d = some k → d = e k) (inj : ∀ S v k k', Rp S v (e k) → Rp S v (e k') → k = k')
    {B S0 : Hp} {M : List Addr} {σ : L2.St} {H S : Hp} {ρ : En} {Q : VK} {l : Addr} {vs : List V} {ds : List D} {ks : List κ} (R : Rel B S0 M σ H S ρ) (hl : H l = some (.lst vs)) (rl : RpL S vs ds) (h : allOf f ds = some ks) (a : AG B S0 M σ S ρ Q (.fr ((srtW lt ks).map e))) : SX.rSortK lt It K [.ref l] H Q := by
  have ed : ds = ks.map e ∧ ∀ v ∈ vs, ∃ k, It K H v k ∧ Rp S v (e k) := by
    clear a hl
    induction ds generalizing vs ks with
    | nil =>
      cases h
      have : vs = [] := rl
      subst this
      exact ⟨rfl, fun v hv => by cases hv⟩
    | cons d ds ih =>
      obtain ⟨v, ws, rfl, r1, r2⟩ := rl
      obtain ⟨k, h1, h2⟩ := Option.bind_eq_some_iff.mp h
      obtain ⟨ks', h3, h4⟩ := Option.map_eq_some_iff.mp h2
      subst h4
      obtain ⟨i1, i2⟩ := ih r2 h3
      have z := fe d k h1
      refine ⟨by rw [List.map_cons, ← i1, ← z], fun u hu => ?_⟩
      rcases List.mem_cons.mp hu with rfl | hu
      · exact ⟨k, it R.sub _ d k h1 r1, by rw [← z]; exact r1⟩
      · exact i2 u hu
  rw [ed.1] at rl
  obtain ⟨kf, k1, k2⟩ := keys_fun (inj S) rl
  refine ⟨l, vs, kf, rfl, SqL.of hl, fun x hx => ?_, fun ys p h1 h2 hp => ?_⟩
  · obtain ⟨k, i1, i2⟩ := ed.2 x hx
    rw [inj S x _ _ (k2 x hx) i2]
    exact i1
  · have e1 : ys.map kf = srtW lt ks := by
      refine srtW_eq O anti (List.pairwise_map.mpr h1) ?_
      rw [← k1]
      exact h2.map kf
    refine ag_fr R a ?_ hp
    rw [← e1]
    exact rp_of_keys fun v hv => k2 v (h2.mem_iff.mp hv)
theorem row_inj (S : Hp) (v : V) (k k' : List Int) (h : Rp S v (eRow k)) (h' : Rp S v (eRow k')) : k = k' := by
  obtain ⟨a, xs, rfl, ⟨oa, h1, _⟩, r1⟩ := h
  obtain ⟨a', xs', e, ⟨ob, h1', _⟩, r1'⟩ := h'
  cases e
  rw [h1] at h1'
  cases h1'
  have e1 := r1.ints
  have e2 := r1'.ints
  rw [e1] at e2
  exact List.map_inj_right (fun _ _ z => V.int.inj z) |>.mp e2
theorem nrow_inj (S : Hp) (v : V) (k k' : Int × List Int) (h : Rp S v (eNRow k)) (h' : Rp S v (eNRow k')) : k = k' := by
  obtain ⟨a, xs, rfl, ⟨oa, h1, _⟩, r1⟩ := h
  obtain ⟨a', xs', e, ⟨ob, h1', _⟩, r1'⟩ := h'
  cases e
  rw [h1] at h1'
  cases h1'
  obtain ⟨x, y, rfl, rx, ry⟩ := r1.two_inv
  obtain ⟨x', y', e, rx', ry'⟩ := r1'.two_inv
  cases e
  have z1 : x = V.int k.1 := rx
  have z2 : x = V.int k'.1 := rx'
  rw [z1] at z2
  exact Prod.ext (V.int.inj z2) (row_inj S _ _ _ ry ry')
theorem it_row {S H : Hp} (x : Ex S H) (v : V) (d : D) (k : List Int) (h : rowOf d = some k) (r : Rp S v d) : SX.RowV K H v k := by
  obtain ⟨e, hn⟩ := rowOf_eq h
  rw [e] at r
  obtain ⟨a, xs, rfl, h1, r1⟩ := r
  refine ⟨hn, a, rfl, ?_⟩
  rw [← r1.ints]
  exact Tp.sq x h1
theorem it_nrow {S H : Hp} (x : Ex S H) (v : V) (d : D) (k : Int × List Int) (h : nrowOf d = some k) (r : Rp S v d) : SX.NumRowV K H v k := by
  rw [nrowOf_eq h] at r
  obtain ⟨a, xs, rfl, h1, r1⟩ := r
  obtain ⟨y, z, rfl, ry, rz⟩ := r1.two_inv
  obtain ⟨u, ws, rfl, h2, r2⟩ := rz
  have e : y = V.int k.1 := ry
  subst e
  refine ⟨a, u, rfl, Tp.sq x h1, ?_⟩
  rw [← r2.ints]
  exact Tp.sq x h2
theorem g_sortK {κ : Type} [Inhabited κ] {lt : κ → κ → Bool} {f : D → Option κ} {e : κ → D} {It : PySem.W.Frag → Hp → V → κ → Prop} (O : SrtO.Swo lt) (anti : ∀ a b, lt a b = false → lt b a = false → a = b)
    (it : ∀ {S H : Hp}, Ex S H → ∀ v d k, f d = some k → Rp S v d → It K H v k) (fe : ∀ d k, f d = some k → d = e k) (inj : ∀ S v k k', Rp S v (e k) → Rp S v (e k') → k = k') : CallG (SX.rSortK lt It K) (dSortKF lt f e) := fun B S0 M σ H S ρ xs ds rv Q R r h a => by
  unfold dSortKF at h
  split at h
  · rename_i ds
    obtain ⟨ks, e1, rfl⟩ := Option.map_eq_some_iff.mp h
    obtain ⟨v, rfl, rv1⟩ := r.one_inv
    obtain ⟨l, vs, rfl, hl, rl⟩ := rv1
    exact sortK_go O anti it fe inj R (R.sub _ _ hl) rl e1 a
  · cases h
def dSortR : List D → Option Rv := dSortKF HT.lexLt rowOf eRow
def dSortN : List D → Option Rv := dSortKF SX.lexN nrowOf eNRow
theorem g_sortR : CallG (SX.rSortK HT.lexLt SX.RowV K) dSortR := g_sortK SX.lex_swo SX.lex_anti (fun x => it_row x) (fun d k h => (rowOf_eq h).1) row_inj
theorem g_sortN : CallG (SX.rSortK SX.lexN SX.NumRowV K) dSortN := g_sortK SX.lexN_swo SX.lexN_anti (fun x => it_nrow x) (fun d k h => nrowOf_eq h) nrow_inj
/-- sorted(x) of a list of one's own -/
def dSortRO (i : Nat) : Fe := fun ρ => match ρ[i]?.bind slD with
  | some d => optR (dSortR [d]) ρ
  | none => .no
theorem re_sortRO (i : Nat) : RE ER (tCB (SX.rSortK HT.lexLt SX.RowV K) (tCons (tVar i) tNil)) (dSortRO i) := ⟨fun B S0 M σ H S ρ Q R a => by
  unfold dSortRO at a
  split at a
  · rename_i d hd
    obtain ⟨v, ev, pk⟩ := R.peek hd
    refine ⟨v, ev, ?_⟩
    show SX.rSortK HT.lexLt SX.RowV K [v] H Q
    rcases pk with pk | ⟨l, vs, ds, rfl, rfl, h1, r1⟩
    · cases eg : dSortR [d] with
      | none => rw [eg] at a; exact (show False from a).elim
      | some rv =>
        rw [eg] at a
        exact g_sortR B S0 M σ H S ρ [v] [d] rv Q R (RpL.one pk) eg fun v H' S' e R2 g => a v H' S' e R2 g
    · cases eg : allOf rowOf ds with
      | none => rw [show dSortR [.list ds] = none by show Option.map _ (allOf rowOf ds) = _; rw [eg]; rfl] at a; exact (show False from a).elim
      | some ks =>
        rw [show dSortR [.list ds] = some (.fr ((srtW HT.lexLt ks).map eRow)) by show Option.map _ (allOf rowOf ds) = _; rw [eg]; rfl] at a
        exact sortK_go SX.lex_swo SX.lex_anti (fun x => it_row x) (fun d k h => (rowOf_eq h).1) row_inj R h1 r1 eg fun v H' S' e R2 g => a v H' S' e R2 g
  · exact (show False from a).elim⟩
/-! dicts of pairs -/
def pairOf : D → Option (Key × D)
  | .tuple [k, d] => (keyOf k).map fun k => (k, d)
  | _ => none
theorem pairOf_eq {d : D} {k : Key} {e : D} (h : pairOf d = some (k, e)) : ∃ kd, d = .tuple [kd, e] ∧ keyOf kd = some k := by
  unfold pairOf at h
  split at h
  · rename_i kd d
    obtain ⟨k', h1, h2⟩ := Option.map_eq_some_iff.mp h
    cases h2
    exact ⟨kd, rfl, h1⟩
  · cases h
def mergeD (kvs more : KD) : KD := more.foldl (fun acc kv => putD acc kv.1 kv.2) kvs
theorem RpK.merge {S : Hp} : ∀ {more : KD} {ws : List (Key × V)} {kvs : KD} {ms : List (Key × V)}, RpK S ms more → RpK S ws kvs → RpK S (mergeK ws ms) (mergeD kvs more) := by
  intro more ws kvs ms h
  unfold mergeK mergeD
  induction h generalizing ws kvs with
  | nil => exact fun q => q
  | @cons p q ps qs h t ih =>
    intro r
    rw [List.foldl_cons, List.foldl_cons]
    obtain ⟨e, rp⟩ := h
    rw [← e]
    exact ih (RpK.put rp r)
def dDictF : List D → Option Rv
  | [.list ds] => (allOf pairOf ds).map fun ps => .fk (mergeD [] ps)
  | _ => none
def rDictP (K : PySem.W.Frag) : List V → Hp → VK → Prop := fun xs H Q => ∃ (a : Addr) (ps : List Addr) (kvs : List (Key × V)), xs = [.ref a] ∧ SqL K H a (ps.map V.ref) ∧ Paired (fun p kv => SqT K H p [kV kv.1, kv.2]) ps kvs ∧
    ∀ p, H p = none → Q (.ref p) (upd H p (.dK (mergeK [] kvs)))
theorem c_dictP {X : Cx} (hc : X.calm = true) : CallR X (.type "dict") (rDictP X.K) := call_dictP hc
theorem g_dict : CallG (rDictP K) dDictF := fun B S0 M σ H S ρ xs ds rv Q R r h a => by
  unfold dDictF at h
  split at h
  · rename_i ds
    obtain ⟨ps, e1, rfl⟩ := Option.map_eq_some_iff.mp h
    obtain ⟨v, rfl, rv1⟩ := r.one_inv
    obtain ⟨l, vs, rfl, hl, rl⟩ := rv1
    have key : ∀ {ds : List D} {vs : List V} {ps : KD}, RpL S vs ds → allOf pairOf ds = some ps → ∃ (as : List Addr) (kvs : List (Key × V)), vs = as.map V.ref ∧ Paired (fun p kv => SqT K H p [kV kv.1, kv.2]) as kvs ∧ RpK S kvs ps := by
      intro ds
      induction ds with
      | nil =>
        intro vs ps r h
        cases h
        have : vs = [] := r
        subst this
        exact ⟨[], [], rfl, .nil, .nil⟩
      | cons d ds ih =>
        intro vs ps r h
        obtain ⟨v, ws, rfl, r1, r2⟩ := r
        obtain ⟨⟨k, e⟩, h1, h2⟩ := Option.bind_eq_some_iff.mp h
        obtain ⟨ps', h3, h4⟩ := Option.map_eq_some_iff.mp h2
        subst h4
        obtain ⟨as, kvs, i1, i2, i3⟩ := ih r2 h3
        obtain ⟨kd, z, hk⟩ := pairOf_eq h1
        rw [z] at r1
        obtain ⟨t, ys, rfl, ht, rt⟩ := r1
        obtain ⟨x, y, rfl, rx, ry⟩ := rt.two_inv
        have ex := keyOf_rp rx hk
        subst ex
        exact ⟨t :: as, (k, y) :: kvs, by rw [i1]; rfl, .cons (Tp.sq R.sub ht) i2, .cons ⟨rfl, ry⟩ i3⟩
    obtain ⟨as, kvs, i1, i2, i3⟩ := key rl e1
    subst i1
    refine ⟨l, as, kvs, rfl, SqL.of (R.sub _ _ hl), i2, fun p hp => ?_⟩
    exact a (.ref p) _ S (Ex.refl S) (R.lay hp) ⟨p, _, rfl, upd_same, i3.merge .nil, R.nobody hp⟩
  · cases h
/-- d[k] -/
def dGetD (i : Nat) (fk : Fd) : Fe := fun ρ => if isDc ρ i = true then (fk ρ).bind fun p => (match keyOf p.1, p.2[i]? with
  | some k, some (.od kvs) => (match getK kvs k with
    | some d => .ok (.sh d, p.2)
    | none => .no)
  | _, _ => .no) else .no
theorem re_dget (i : Nat) (hk : RD ER tb fb) : RE ER (tDGet (tVar i) tb) (dGetD i fb) := ⟨fun B S0 M σ H S ρ Q R a => by
  unfold dGetD at a
  split at a
  · rename_i hd
    obtain ⟨kvs0, hs0⟩ := isDc_some hd
    obtain ⟨l0, ws0, ev0, _⟩ := R.ats i _ hs0
    refine ⟨.ref l0, ev0, ?_⟩
    refine hk.go B S0 M σ H S ρ _ R (AD.bindE a fun k ρ1 kv H1 S1 e1 R1 r1 a1 => ?_)
    simp only at a1
    split at a1
    · rename_i key kvs hkey hs
      obtain ⟨l, ws, ev, hv, hS, r, hB⟩ := R1.ats i _ hs
      rw [ev0] at ev
      cases ev
      rcases r.get (k := key) with ⟨h1, h2⟩ | ⟨v, d, h1, h2, rd⟩
      · rw [h2] at a1
        exact (show False from a1).elim
      · rw [h2] at a1
        exact ⟨l0, v, rfl, .inl ⟨ws, key, .inl hv, keyOf_rp r1 hkey, h1.symm⟩, a1 v H1 S1 (Ex.refl S1) R1 rd⟩
    · exact (show False from a1).elim
  · exact (show False from a).elim⟩
/-! a slice of a list of one's own -/
def dSlO (i : Nat) (fl fh : Fo) : Fe := fun ρ => if isL ρ i = true then (fl ρ).bind fun l => (fh l.2).bind fun h => (match h.2[i]?.bind lstOf with
  | some ds => .ok (.fr (cutD ds l.1 h.1), h.2)
  | none => .no) else .no
theorem re_slO {tl th : TO} {fl fh : Fo} (i : Nat) (hl : RO ER tl fl) (hh : RO ER th fh) : RE ER (tSl (rSlD K) (tVar i) tl th) (dSlO i fl fh) := ⟨fun B S0 M σ H S ρ Q R a => by
  unfold dSlO at a
  split at a
  · rename_i hi
    obtain ⟨l0, vs0, ev0, _⟩ := isL_addr R hi
    refine ⟨.ref l0, ev0, ?_⟩
    refine hl.go B S0 M σ H S ρ _ R (AO.bindE a fun lo ρ2 H2 S2 e2 R2 a2 => ?_)
    refine hh.go B S0 M σ H2 S2 ρ2 _ R2 (AO.bindE a2 fun hi ρ3 H3 S3 e3 R3 a3 => ?_)
    simp only at a3
    split at a3
    · rename_i ds hs
      obtain ⟨s, h1, h2⟩ := Option.bind_eq_some_iff.mp hs
      obtain ⟨l, vs, ev, hv, _, r, _⟩ := R3.mutL h1 h2
      rw [ev0] at ev
      cases ev
      exact .inl ⟨l0, vs, rfl, SqL.of hv, fun q hq => ag_fr R3 (fun v H' S' e R4 g => a3 v H' S' e R4 g) (r.cut lo hi) hq⟩
    · exact (show False from a3).elim
  · exact (show False from a).elim⟩
end
end DL

set_option Elab.async false
set_option linter.all false
set_option maxRecDepth 100000
set_option maxHeartbeats 4000000
/-! own lists that are walked through, and stay one's own -/
namespace DL
open PySem PySem.Spec PyProof.Rows L2
variable [Wr]
section
variable {B S0 : Hp} {M : List Addr} {σ : L2.St} {H S : Hp} {ρ : En}
theorem set_self' {i : Nat} {x : Option V} (h : σ[i]? = some x) : σ.set i x = σ := by
  apply List.ext_getElem?
  intro j
  by_cases ij : i = j
  · subst ij
    rw [List.getElem?_set_self (List.getElem?_eq_some_iff.mp h).1, h]
  · rw [List.getElem?_set_ne ij]
theorem Rel.outSl (R : Rel B S0 M σ H S ρ) {i : Nat} {s : Sl} {l : Addr} (e : ρ[i]? = some s) (os : s.own = true) (ev : σ[i]? = some (some (.ref l))) : NoSl σ (ρ.set i .no) l := fun j s' ej oj z => by
  rcases getElem?_set_cases ej with ⟨rfl, rfl, _⟩ | ⟨ne, ej'⟩
  · cases oj
  · exact R.apart i j _ s' l ne e ej' os oj ev z
/-- an own list is laid by -/
theorem Rel.hide (R : Rel B S0 M σ H S ρ) {i : Nat} {ds : List D} (e : ρ[i]? = some (.ow ds)) : ∃ l vs, σ[i]? = some (some (.ref l)) ∧ H l = some (.lst vs) ∧ S l = none ∧ RpL S vs ds ∧ B l = none ∧ l ∉ M ∧ Rel (upd B l (.lst vs)) S0 M σ H S (ρ.set i .no) := by
  obtain ⟨l, vs, ev, h1, h2, h3, h4, h5⟩ := R.ats i _ e
  exact ⟨l, vs, ev, h1, h2, h3, h4, h5, (R.forget (i := i)).pin h1 h2 h5 (R.outSl e rfl ev)⟩
/-- and is there again -/
theorem Rel.unhide {l : Addr} {vs : List V} {ds : List D} {i : Nat} (R : Rel (upd B l (.lst vs)) S0 M σ H S ρ) (ev : σ[i]? = some (some (.ref l))) (r : RpL S vs ds) (hs : S0 l = none) (hb : B l = none) (hm : l ∉ M) : Rel B S0 M σ H S (ρ.set i (.ow ds)) := by
  have k := R.pinned (p := l) (o := .lst vs) upd_same hm
  have sl : S l = none := by rw [R.base l _ upd_same]; exact hs
  have R2 := (R.weak (Ex.new hb)).setOwn (i := i) (p := l) (s0 := .ow ds) ⟨l, vs, rfl, k.2, sl, r, hb, hm⟩ k.1
  rw [set_self' ev] at R2
  exact R2
end
open Classical in
noncomputable def unO (i : Nat) (ds : List D) (f : Addr → Out) : Out := if h : ∃ ρ' : En, ∀ l, f l = .nx (ρ'.set i (.sh (adrD l))) then .nx (h.choose.set i (.ow ds)) else .no
theorem unO_nx {i : Nat} {ds : List D} {f : Addr → Out} {ρ' : En} (h : ∀ l, f l = .nx (ρ'.set i (.sh (adrD l)))) : unO i ds f = .nx (ρ'.set i (.ow ds)) := by
  have hx : ∃ ρ' : En, ∀ l, f l = .nx (ρ'.set i (.sh (adrD l))) := ⟨ρ', h⟩
  unfold unO
  rw [dif_pos hx]
  have e := hx.choose_spec 0
  rw [h 0] at e
  injection e with e
  have e2 := congrArg (fun x : En => x.set i (.ow ds)) e
  simp only [List.set_set] at e2
  rw [e2]
noncomputable def sForO (i : Nat) (fg : D → En → Option En) (fb : Fs) : Fs := fun ρ => match ρ[i]? with
  | some (.ow ds) => unO i ds fun l => sLoop fg fb ds (ρ.set i (.sh (adrD l)))
  | _ => .no
section
variable {ER : Er} {ta tb tc te : TE} {fa fb fc : Fd} {fe fe' : Fe} {tt u : TT} {ft fu : Ft} {K : PySem.W.Frag} {ts : TS} {fs : Fs}
theorem rs_forO {g : TG} {fg : D → En → Option En} {js : List Nat} (n : Nat) (hg : RG g fg js) (hb : RS ER ts fs) : RS ER (tFor (iSeq K (tVar n)) g ts) (sForO n fg fs) := ⟨fun B S0 M σ H S ρ E R a => by
  unfold sForO at a
  split at a
  · rename_i ds hd
    obtain ⟨l, vs, ev, h1, h2, h3, h4, h5, R0⟩ := R.hide hd
    unfold unO at a
    split at a
    · rename_i hx
      have hl := hx.choose_spec l
      generalize hx.choose = ρ' at a hl
      have s0 : S0 l = none := R.s0.none h2
      have fin : ∀ (σ' : L2.St) (H' S' : Hp), Ex S S' → Rel (upd B l (.lst vs)) S0 M σ' H' S' (ρ'.set n (.sh (adrD l))) → E.nx σ' H' := fun σ' H' S' e' R' => by
        by_cases il : n < ρ'.length
        case neg =>
          rw [List.set_eq_of_length_le (by omega)] at R' a
          exact a σ' H' S' e' (R'.weak (Ex.new h4))
        obtain ⟨v, ev', rv⟩ := R'.ats n (.sh (adrD l)) (List.getElem?_set_self il)
        rw [rv.adr_inv] at ev'
        have R2 := R'.unhide ev' (RpL.mono e' _ h3) s0 h4 h5
        rw [List.set_set] at R2
        exact a σ' H' S' e' R2
      refine ⟨.ref l, ev, .inl ⟨l, rfl, ⟨vs, SqL.of h1⟩, ?_⟩⟩
      have R1 : Rel (upd B l (.lst vs)) S0 M σ H S (ρ.set n (.sh (adrD l))) := by
        have := R0.setSh (i := n) (v := .ref l) (d := adrD l) (Rp.adr l)
        rw [set_self' ev, List.set_set] at this
        exact this
      refine for_it (walk_list (K := K) (a := l) (xs := vs)) (fun k σ' H' => ∃ S' ρ2, Ex S S' ∧ Rel (upd B l (.lst vs)) S0 M σ' H' S' ρ2 ∧ sLoop fg fs (ds.drop k) ρ2 = .nx (ρ'.set n (.sh (adrD l)))) ⟨S, _, Ex.refl S, R1, hl⟩ ?_ ?_ ?_
      · rintro k σ' H' _ ⟨S', ρ2, e2, R2, _⟩
        exact SqL.of (R2.keep l _ upd_same h5)
      · rintro k x σ' H' H'' hk ⟨S', ρ2, e2, R2, a2⟩ ⟨rfl, hxv⟩
        obtain ⟨d, hdk, rx⟩ := h3.getV hxv
        have hdr : ds.drop k = d :: ds.drop (k + 1) := by
          have hlt := (List.getElem?_eq_some_iff.mp hdk).1
          rw [List.drop_eq_getElem_cons hlt]
          rw [List.getElem?_eq_getElem hlt] at hdk
          rw [Option.some.inj hdk]
        rw [hdr] at a2
        unfold sLoop at a2
        cases eg : fg d ρ2 with
        | none => rw [eg] at a2; cases a2
        | some ρ3 =>
          rw [eg] at a2
          simp only at a2
          refine hg.go _ S0 M σ' _ S' ρ2 x d ρ3 _ R2 (Rp.mono e2 _ rx) eg fun σ2 _ _ R4 => ?_
          refine hb.go _ S0 M σ2 _ S' ρ3 _ R4 ?_
          cases eb : fs ρ3 with
          | nx ρ4 => rw [eb] at a2; exact fun σ3 H3 S3 e5 R5 => ⟨S3, ρ4, e2.trans e5, R5, a2⟩
          | ct ρ4 => rw [eb] at a2; exact fun σ3 H3 S3 e5 R5 => ⟨S3, ρ4, e2.trans e5, R5, a2⟩
          | bk ρ4 =>
            rw [eb] at a2
            injection a2 with a2
            subst a2
            exact fun σ3 H3 S3 e5 R5 => fin σ3 H3 S3 (e2.trans e5) R5
          | rt rv ρ4 => rw [eb] at a2; cases a2
          | err c fs => rw [eb] at a2; cases a2
          | no => rw [eb] at a2; cases a2
      · rintro σ' H' ⟨S', ρ2, e2, R2, a2⟩
        rw [h3.length, List.drop_length] at a2
        injection a2 with a2
        rw [a2] at R2
        exact fin σ' H' S' e2 R2
    · exact (show False from a).elim
  · exact (show False from a).elim⟩
/-- a comprehension over an own list -/
def dLcO (i : Nat) (fg : D → En → Option En) (ft : Ft) (fe : Fd) (vs : List Nat) : Fe := fun ρ => match ρ[i]? with
  | some (.ow ds) => (lcLoop fg ft fe vs ds (wipeE (ρ.set i .no) vs) []).bind fun q => .ok (.fr q.1, (backE (ρ.set i .no) q.2 vs).set i (.ow ds))
  | _ => .no
theorem re_lcO {g : TG} {fg : D → En → Option En} {js vs : List Nat} (n : Nat) (hg : RG g fg js) (hj : ∀ j ∈ js, j ∈ vs) (ht : RT ER0 tt ft) (he : RD ER0 te fa) : RE ER (tLc (iSeq K (tVar n)) g tt te vs) (dLcO n fg ft fa vs) := ⟨fun B S0 M σ H S ρ Q R a => by
  unfold dLcO at a
  split at a
  · rename_i ds hd
    obtain ⟨l, us, ev, h1, h2, h3, h4, h5, R1⟩ := R.hide hd
    have s0 : S0 l = none := R.s0.none h2
    generalize hρ0 : ρ.set n .no = ρ0 at *
    generalize hB1 : upd B l (.lst us) = B1 at *
    have hBl : B1 l = some (.lst us) := by rw [← hB1]; exact upd_same
    replace a : AE ER B1 S0 M σ S Q ((lcLoop fg ft fa vs ds (wipeE ρ0 vs) []).bind fun q => .ok (.fr q.1, backE ρ0 q.2 vs)) := by
      cases el : lcLoop fg ft fa vs ds (wipeE ρ0 vs) [] with
      | err c fs => rw [el] at a; exact fun H' k => a H' (by rw [← hB1] at k; exact k.weak (Ex.new h4))
      | no => rw [el] at a; exact (show False from a).elim
      | ok q =>
        rw [el] at a
        intro v H' S' e' R' gd
        obtain ⟨p, ws, rfl, g1, g2, g3, g4, g5, g6⟩ := gd
        have hpl : p ≠ l := fun z => by rw [z, hBl] at g4; cases g4
        have hBp : B p = none := by rw [← hB1, upd_ne hpl] at g4; exact g4
        rw [← hB1] at R'
        have R2 := R'.unhide ev (RpL.mono e' _ h3) s0 h4 h5
        refine a (.ref p) H' S' e' R2 ⟨p, ws, rfl, g1, g2, g3, hBp, g5, fun j s ej oj z => ?_⟩
        rcases getElem?_set_cases ej with ⟨rfl, rfl, _⟩ | ⟨ne, ej'⟩
        · rw [ev] at z
          injection z with z; injection z with z; injection z with z
          exact hpl z.symm
        · exact g6 j s ej' oj z
    refine ⟨.ref l, ev, .inl ⟨l, rfl, ⟨us, SqL.of h1⟩, ?_⟩⟩
    intro L hL
    have W0 := R1.wipe vs
    refine lc_it (walk_list (K := K) (a := l) (xs := us)) (fun i H' => ∃ S' ρ' acc dacc, Ex S S' ∧ H' L = some (.lst acc) ∧ RpL S' acc dacc ∧ Nobody B1 M (wipe σ vs) S' ρ' L ∧ Rel B1 S0 M (wipe σ vs) H' S' ρ' ∧ AE ER B1 S0 M σ S' Q ((lcLoop fg ft fa vs (ds.drop i) ρ' dacc).bind fun q => .ok (.fr q.1, backE ρ0 q.2 vs)))
      ⟨S, wipeE ρ0 vs, [], [], Ex.refl S, upd_same, RpL.nil, W0.nobody hL, W0.lay hL, a⟩ ?_ ?_ ?_
    · rintro i H' _ ⟨S', ρ', acc, dacc, e2, _, _, _, R2, _⟩
      exact SqL.of (R2.keep l _ hBl h5)
    · rintro i x H' H'' hi' ⟨S', ρ', acc, dacc, e2, hacc, racc, nb, R2, a2⟩ ⟨rfl, hxv⟩
      obtain ⟨d, hdk, rx⟩ := h3.getV hxv
      have hdr : ds.drop i = d :: ds.drop (i + 1) := by
        have hlt := (List.getElem?_eq_some_iff.mp hdk).1
        rw [List.drop_eq_getElem_cons hlt]
        rw [List.getElem?_eq_getElem hlt] at hdk
        rw [Option.some.inj hdk]
      rw [hdr] at a2
      have P2 := R2.pin hacc nb.1 nb.2.2.1 nb.2.2.2
      have r3 : Rp S' x d := Rp.mono e2 _ rx
      unfold lcLoop at a2
      cases eg : fg d ρ' with
      | none => rw [eg] at a2; exact (show False from a2).elim
      | some ρ1 =>
        rw [eg] at a2
        refine hg.go (upd B1 L (.lst acc)) S0 M (wipe σ vs) _ S' ρ' x d ρ1 _ P2 r3 eg fun σ2 c2 l2 R4 => ?_
        have ws : wipe σ2 vs = wipe (wipe σ vs) vs := wipe_same l2 c2 hj
        have ww : wipe (wipe σ vs) vs = wipe σ vs := by
          apply List.ext_getElem?
          intro k
          by_cases hk : k ∈ vs
          · by_cases hz : k < σ.length
            · rw [wipe_in hk (by rw [wipe_length]; exact hz), wipe_in hk hz]
            · rw [List.getElem?_eq_none (by rw [wipe_length, wipe_length]; omega), List.getElem?_eq_none (by rw [wipe_length]; omega)]
          · rw [wipe_get hk]
        have ws' : wipe σ2 vs = wipe σ vs := ws.trans ww
        refine ⟨ws', ?_⟩
        simp only at a2
        have hB : Ex B1 (upd B1 L (.lst acc)) := Ex.new nb.2.1
        refine ht.go (upd B1 L (.lst acc)) S0 M σ2 _ S' ρ1 _ R4 ?_
        cases et : ft ρ1 with
        | err c fs => rw [et] at a2; exact (show False from a2).elim
        | no => rw [et] at a2; exact (show False from a2).elim
        | ok b =>
          obtain ⟨b, ρ2⟩ := b
          rw [et] at a2
          intro H3 S3 e5 R5
          cases b with
          | false =>
            simp only [Bool.false_eq_true, if_false]
            have k5 := R5.pinned (p := L) (o := .lst acc) upd_same nb.2.2.1
            have P6 : Rel (upd B1 L (.lst acc)) S0 M (wipe σ vs) H3 S3 (wipeE ρ2 vs) := by
              have := R5.wipe vs
              rw [ws'] at this
              exact this
            refine ⟨S3, wipeE ρ2 vs, acc, dacc, e2.trans e5, k5.2, RpL.mono e5 _ racc, ⟨?_, nb.2.1, nb.2.2.1, (P6.pinned (p := L) (o := .lst acc) upd_same nb.2.2.1).1⟩, P6.weak hB, AE.later e5 a2⟩
            rw [R5.base L _ upd_same, ← P2.base L _ upd_same]; exact nb.1
          | true =>
            simp only [if_true]
            refine he.go (upd B1 L (.lst acc)) S0 M σ2 H3 S3 ρ2 _ R5 ?_
            simp only at a2
            cases ee : fa ρ2 with
            | err c fs => rw [ee] at a2; exact (show False from a2).elim
            | no => rw [ee] at a2; exact (show False from a2).elim
            | ok z =>
              obtain ⟨z, ρ3⟩ := z
              rw [ee] at a2
              simp only at a2
              by_cases hz : szOk dacc.length = true
              · rw [if_pos hz] at a2
                intro yv H4 S4 e6 R6 r6
                have k6 := R6.pinned (p := L) (o := .lst acc) upd_same nb.2.2.1
                have P7 : Rel (upd B1 L (.lst acc)) S0 M (wipe σ vs) H4 S4 (wipeE ρ3 vs) := by
                  have := R6.wipe vs
                  rw [ws'] at this
                  exact this
                have sL : S4 L = none := by rw [R6.base L _ upd_same, ← P2.base L _ upd_same]; exact nb.1
                have nb7 : Nobody B1 M (wipe σ vs) S4 (wipeE ρ3 vs) L := ⟨sL, nb.2.1, nb.2.2.1, (P7.pinned (p := L) (o := .lst acc) upd_same nb.2.2.1).1⟩
                have racc4 := RpL.mono (e5.trans e6) _ racc
                refine ⟨acc, k6.2, by rw [racc.length]; exact sz_lt hz, S4, wipeE ρ3 vs, acc ++ [yv], dacc ++ [z], (e2.trans e5).trans e6, upd_same, racc4.append (.one r6), nb7, (P7.weak hB).writeN nb7, AE.later (e5.trans e6) a2⟩
              · rw [if_neg hz] at a2; exact (show False from a2).elim
    · rintro H' ⟨S', ρ', acc, dacc, e2, hacc, racc, nb, R2, a2⟩
      rw [h3.length, List.drop_length] at a2
      replace a2 : AE ER B1 S0 M σ S' Q (.ok (.fr dacc, backE ρ0 ρ' vs)) := a2
      have R3 := R1.back e2 R2
      refine a2 (.ref L) H' S' (Ex.refl S') R3 ⟨L, acc, rfl, hacc, racc, nb.1, nb.2.1, nb.2.2.1, fun i s h o z => ?_⟩
      have hi : i ∉ vs := fun hi => by
        rcases backE_in ρ0 ρ' hi h with rfl | ⟨d, rfl, _⟩
        · cases o
        · cases o
      rw [backE_out ρ0 ρ' hi] at h
      exact nb.2.2.2 i s h o (by rw [wipe_get hi]; exact z)
  · exact (show False from a).elim⟩
end
end DL

set_option Elab.async false
set_option linter.all false
set_option maxRecDepth 100000
set_option maxHeartbeats 4000000
/-! a refusal that has a field -/
namespace HX
open PySem PySem.Spec PyProof.Rows L2
/-- what the written part must say of a class between ValueError and a refusal: its __init__ is ValueError's -/
structure BaseI (K : PySem.W.Frag) (C : Addr) : Prop where
  rd : ClX.CRead K C (.type "type")
  at_ : PySem.W.findCls K (.ref C) (.type "type") "__init__" = some (.val (.builtin "ValueError.__init__"))
section
variable {X : Cx} {e : Expr} {es : List Expr} {ta : TA} {p p1 p2 pos : Pos}
/-- B.__init__(self, ..), B a class of the program over ValueError -/
theorem pe_bxinit {pl : Sem Bool} {b : Str} {C : Addr} (hg : Gl X b) (hm : X.mg b = some (.ref C)) (k : BaseI X.K C) (ha : PA X (e :: es) ta)
    (hc : eval (.Call (.Attribute (.Name b p1) "__init__" p2) (e :: es) [] pos) X.env = (do
      let ov ← eval (.Name b p1) X.env
      standAt p2.atName
      let (f, first) ← holding [ov] (getMethod ov "__init__" pl)
      callWith pos f first (backTo pos (starEach (e :: es) X.env)) (backToKw pos (keywordEach [] X.env))) := by rfl)
    (hdb : (b == ("__debug__" : Str)) = false := by decide) (he : starEach (e :: es) X.env = (false, eval e X.env) :: starEach es X.env := by rfl) (hpl : (backTo pos (starEach es X.env)).any (·.1) = false := by rfl) :
    PE X (.Call (.Attribute (.Name b p1) "__init__" p2) (e :: es) [] pos) (tVeI X.K ta) := by
  constructor
  intro pins s σ H Q I h
  apply PySem.W.methodCall_KW (ld_glob I hg hm _ hdb) hc
  apply PySem.W.method_cls I.kIn k.rd.ga
  apply PySem.W.cls_value I.kIn k.rd.rd k.at_ (by decide +kernel)
  show wpAny _ _ (callWith pos _ [] (backTo pos (starEach (e :: es) X.env)) []) _ _ _
  refine PyProof.Rows.callWith_method1 (thn (ha.run pos pins _ σ H _ (I.tok _) h) fun us z y => ?_) he hpl
  rcases y with ⟨vs, G, J, rv, a, D, ws, y1, y2, y3, y4, y5⟩
  rw [y1] at rv
  match us, rv with
  | u0 :: ur, .cons y6 y7 =>
    have y8 : u0 = Value.ref a := y6
    rw [y8]
    have y9 := Paired.length y7
    exact oinit_ok y3 J y4 (by rw [sizeLine_eq]; omega) fun s' J' => ⟨.non, G, J', rfl, y5⟩
/-- the class at C is called, its own __init__ keeps sp: what is then in hand may be raised, the context kept -/
theorem call_oexN {CX : CXT} {C fI : Addr} {k : Nat} {fd : FuncData} {ps : List Str} {sp : Sp} {pins : List (Addr × Obj)} {σ : L2.St} {G : Hp} {Q : XK} {z : Shared} {vs : List V} {us : List Value}
    (T : OexC X.K C) (iC : PySem.W.findIn X.K (.ref C) "__init__" = some (some (.ref fI))) (tI : PySem.W.typeIn X.K (.ref fI) = some (.type "function")) (F1 : FnOk X.prog X.w X.K X.mg X.base CX k fI fd ps sp) (hr : Room (k + 1) X.A) (hb : Binds X.K fd ps []) (hx : Passes CX X (fun _ _ _ => False))
    (J : L2.Inv X pins σ G z) (rv : Vals vs us) (few : vs.length ≤ 1000)
    (go : ∀ a, G a = none → sp (.ref a :: vs) (upd G a (exo a C none)) (fun v H2 => v = .non ∧ ∃ (d : Addr) (fs : List (Str × V)), H2 a = some (exo a C (some d)) ∧ H2 d = some (exd d fs) ∧ G d = none ∧ Q (.ref C) (some d) (upd (del H2 a) d (.xd fs))) (fun _ _ _ => False)) :
    wpAny (model X.prog X.w) X.A (call (.ref C) us) (L2N.MkP X pins σ Q) X.xe z := by
  rcases T.cls with ⟨c1, c2, c3, c4, c5, c6, c7, c8, c9, c10, c11, c12, c13, c14, c15, look, mro⟩
  cases z with
  | mk hp gs dw tk os =>
    -- the tuple of the arguments goes to one place, the exception to the next
    let e : Addr := hp.objs.size + 1
    let hp2 : Heap := (hp.push (PySem.W.kdv_tup us)).push (PySem.HandSPX.excO C hp.objs.size)
    have old : hp.objs.size ≤ e := by omega
    have more : ∀ b o, hp.get? b = some o → hp2.get? b = some o := fun _ _ y => Heap.get?_push_of_some _ (Heap.get?_push_of_some _ y)
    have here : hp2.get? e = some (PySem.HandSPX.excO C hp.objs.size) := by
      show ((hp.push (PySem.W.kdv_tup us)).push (PySem.HandSPX.excO C hp.objs.size)).get? (hp.objs.size + 1) = _
      heap_get
    have J2 : L2.Inv X pins σ (upd G e (exo e C none)) ⟨hp2, gs, dw, tk, os⟩ := J.laid (t' := tk) (a := e) (o := exo e C none) (h' := hp2) more old (exo_ok here)
    have sp1 := go e (J.hok.fresh old)
    have all : Vals (V.ref e :: vs) (Value.ref e :: us) := Paired.cons rfl rv
    have num : (Value.ref e :: us).length = ps.length := all.length.symm.trans (F1.len _ _ _ _ sp1)
    have bind : BindsTo ⟨hp2, gs, dw, tk, os⟩ fd ⟨Value.ref e :: us, []⟩ (ps.zip (Value.ref e :: us)) := by
      have y := hb ⟨hp2, gs, dw, tk, os⟩ (Value.ref e :: us) J2.kIn (by simpa using num)
      simpa using y
    have small : us.length ≤ sizeLine := by
      have y := Paired.length rv
      rw [sizeLine_eq]; omega
    apply wpAny_call
    apply PySem.HandSPX.call_own PySem.F.excBase_ValueError (fun Y => PySem.HandSPX.refsVE_contains Y c5 mro) (J.kIn _ _ look) (PySem.W.looks_findIn J.kIn iC) (fun self => PySem.W.bind_fn J.kIn self tI) small
    have run := F1.run _ X.stack ⟨hp2, gs, dw, tk, os⟩ _ ⟨Value.ref e :: us, []⟩ (Value.ref e :: us) _ _ (fun _ _ _ => False) (hr.make C us []) (J2.env0.make C us []) bind all sp1
    refine codeAny_mono run fun out s' how => ?_
    match out, how with
    | .error er, how => exact hx pins σ _ _ er s' J2 how
    | .ok .next, how => exact how.elim
    | .ok .brk, how => exact how.elim
    | .ok .cont, how => exact how.elim
    | .ok (.ret u), how =>
      cases s' with
      | mk h3 g3 d3 t3 o3 =>
        rcases how with ⟨v, H2, y1, y2, y3, y4, y5, y6, d, fs, y7, y8, y9, y10⟩
        subst y6
        rcases mk_end0 (d2 := d3) (t2 := t3) J old more y3 y4 y1 y2 y7 y8 y9 with ⟨t0, W, w1, w2, w3, w4, w5⟩
        exact ⟨y5, e, _, _, ⟨W, g3, d3, t3, o3⟩, _, .ref C, some d, rfl, w1, w2, w3, w4, ⟨rfl, rfl, fun _ y => by cases y; rfl⟩, rfl, rfl, w5, rfl, y2, raises_own T.exC T.tyC, y10⟩
/-- C(e, ..) where exceptions pass on -/
theorem pmkN_oex {CX : CXT} {x : Str} {C fI : Addr} {k : Nat} {fd : FuncData} {ps : List Str} {sp : Sp} (T : OexC X.K C) (iC : PySem.W.findIn X.K (.ref C) "__init__" = some (some (.ref fI))) (tI : PySem.W.typeIn X.K (.ref fI) = some (.type "function"))
    (F1 : FnOk X.prog X.w X.K X.mg X.base CX k fI fd ps sp) (hr : Room (k + 1) X.A) (hb : Binds X.K fd ps []) (hx : Passes CX X (fun _ _ _ => False)) (hg : Gl X x) (hm : X.mg x = some (.ref C)) (ha : PA X (e :: es) ta)
    (hdb : (x == ("__debug__" : Str)) = false := by decide) (he : starEach (e :: es) X.env = (false, eval e X.env) :: starEach es X.env := by rfl) (hpl : (backTo pos (starEach es X.env)).any (·.1) = false := by rfl) :
    L2N.PMk X (.Call (.Name x p) (e :: es) [] pos) (tMkO C sp [] ta) := fun pins s σ H Q I h => by
  apply wpAny_Call_Name_kw
  apply ld_glob I hg hm _ hdb
  apply PySem.W.callWith_K (h₀ := X.base) I.ok.mod.kin T.kC _ he hpl
  refine thn (ha.run pos pins s σ H _ I h) fun us z y => ?_
  rcases y with ⟨vs, G, J, rv, few, go⟩
  refine ⟨J.kIn, call_oexN T iC tI F1 hr hb hx J rv few fun a n => ?_⟩
  have y := go a n
  rw [List.append_nil] at y
  exact y
end
/-- isinstance that is true by the class alone -/
theorem ans_true {K : PySem.W.Frag} {x t c : Value} {P : Heap → Prop} (ty : ∀ (M : Model) (h : Heap), K.In h → P h → PySem.W.Looks M h (typeOf x) t) (ne : (t == c) = false) (e : PySem.W.kitCls K t c = some true) : Answers (fun s => K.In s.heap ∧ P s.heap) x c true := by
  intro dep tk prog w A R s hs
  rcases hs with ⟨⟨kin, hp⟩, go⟩
  have look := ty (model prog w) s.heap kin hp
  rcases PySem.W.kit_cls (M := model prog w) kin e with ⟨l1, l2, l3⟩
  unfold Builtin.«isinstance.nested»
  refine wpAny_bind (look.at ?_)
  rw [if_neg (by rw [ne]; decide)]
  refine wpAny_bind (l1.at ?_)
  rw [if_pos (by decide)]
  k_delta "plainIsInstance"
  refine wpAny_bind (wpAny_bind (l2.at ?_))
  simp only [Bool.not_true, Bool.false_eq_true, if_false]
  refine wpAny_bind ((look.andThen l3).at ?_)
  first
    | exact wpAny_pure (wpAny_pure (go s.toks))
    | (simp only [if_true]; first | exact wpAny_pure (wpAny_pure (go s.toks)) | exact wpAny_pure (go s.toks) | exact wpAny_bind (wpAny_pure (wpAny_pure (go s.toks))))
/-- isinstance(e, c) of what is caught: true by its class -/
def rIsB (K : PySem.W.Frag) (cls : Value) (a : Addr) : List V → Hp → VK → Prop := fun xs H Q => ∃ (D : Addr) (c : V) (cv : Value), cls = .ref D ∧ xs = [.ref a, c] ∧ (∀ u, RelV c u → u = cv) ∧ (Value.ref D == cv) = false ∧ PySem.W.kitCls K (.ref D) cv = some true ∧ Q (.bl true) H
theorem call_isB {X : Cx} {a : Addr} {oe : Obj} {cls : Value} {d : Option Addr} {pn : List (Addr × Obj)} (hz : L2N.Zn cls d oe) : CallR (X.suite a ((a, oe) :: pn)) (.builtin "isinstance") (rIsB X.K cls a) := by
  intro pins s σ H xs us Q I r h
  rcases h with ⟨D, c, cv, rfl, rfl, h1, h2, h3, h4⟩
  match us, r with
  | [u0, u1], .cons y1 (.cons y2 .nil) =>
    have y3 : u0 = Value.ref a := y1
    rw [y3, h1 u1 y2]
    have at_ : s.heap.get? a = some oe := (I.pin (a, oe) (List.mem_append_left _ List.mem_cons_self)).1
    have ans := ans_true (x := Value.ref a) (P := fun h => h.get? a = some oe) (fun M h _ y => hz.1 ▸ (PySem.W.Looks.ld y).andThen .now) h2 h3
    exact call_isinstance (S := fun _ R z => (X.K.In z.heap ∧ z.heap.get? a = some oe) ∧ ∀ tk, R (.ok (.ret (.bool true))) { z with toks := tk }) (fun prog w A R z hs => isinstance_outer (ans 0 _ prog w A R z hs) (fun y => nomatch y)) ⟨⟨I.kIn, at_⟩, fun tk => ⟨.bl true, H, I.kept (t' := tk) fun _ _ y => y, rfl, h4⟩⟩
/-- what __init__ of such a class does: it keeps its one field -/
def spXi (C : Addr) (f : Str) : Sp := fun vs H Q _ => ∃ (a : Addr) (v : V), vs = [.ref a, v] ∧ H a = some (exo a C none) ∧ ∀ dx, H dx = none → dx ≠ a → Q .non (upd (upd H dx (exd dx [(f, v)])) a (exo a C (some dx)))
theorem fn_xi {P : Program} {w : World} {K : PySem.W.Frag} {mg : Str → Option Value} {base : Heap} {x qual f txt : Str} {params : Arguments} {body : List Stmt} {scope : Scope} {fa C : Addr} {fd : FuncData}
    (F : FunD K x qual params body scope [] [] fa fd) (S : FnScope ["self", f] ["self", f] scope) (T : OexC K C) (hno : PySem.W.findIn K (.ref C) f = some none)
    (hbody : ∀ (cdv : Value) (A : Around) (outer : List Env) (s : Shared) (H : Hp) (E : XK), PSs (cxOf CX0 P w K mg base ["self", f] qual scope fa cdv A outer s H E) body (tSeq (tDrop (tVeI K (tCons (tVar 0) (tCons (tC (.str txt)) tNil)))) (tOst K f (tVar 0) (tVar 1)))) :
    FnOk P w K mg base CX0 1 fa fd ["self", f] (spXi C f) := by
  refine F.ok (k := 0) S (fun vs H Q E h => ?_) (fun cdv A outer s H vs Q E hr h => ?_)
  · obtain ⟨a, v, rfl, _⟩ := h
    rfl
  · obtain ⟨a, v, rfl, ha, hq⟩ := h
    exact ⟨_, hbody cdv A outer s H E, .ref a, rfl, a, C, [.str txt], rfl, by simp, T, ha, v, rfl, .ref a, rfl, a, C, rfl, T, hno, .inl ⟨ha, fun dx h1 h2 => hq dx h1 h2⟩⟩
/-- the reading of raise C(e) -/
def tRaise1 (E : XK) (C : Addr) (f : Str) (ta : TA) : TS := fun _ σ H => tMkO C (spXi C f) [] ta σ H fun cls d H' => E cls d H'
theorem ps_raise1 {X : Cx} {x f : Str} {C fI : Addr} {fd : FuncData} {E : XK} {e : Expr} {es : List Expr} {ta : TA} {p pos pos' : Pos} (T : OexC X.K C) (iC : PySem.W.findIn X.K (.ref C) "__init__" = some (some (.ref fI))) (tI : PySem.W.typeIn X.K (.ref fI) = some (.type "function"))
    (F1 : FnOk X.prog X.w X.K X.mg X.base CX0 1 fI fd ["self", f] (spXi C f)) (hr : Room 2 X.A) (hb : Binds X.K fd ["self", f] []) (hx : Passes CX0 X (fun _ _ _ => False)) (hg : Gl X x) (hm : X.mg x = some (.ref C)) (ha : PA X (e :: es) ta) (hc : X.calm = true) (tk : L2N.Takes X fun cls d _ H => E cls d H)
    (hdb : (x == ("__debug__" : Str)) = false := by decide) (he : starEach (e :: es) X.env = (false, eval e X.env) :: starEach es X.env := by rfl) (hpl : (backTo pos (starEach es X.env)).any (·.1) = false := by rfl) :
    PS X (.Raise (some (.Call (.Name x p) (e :: es) [] pos)) none pos') (tRaise1 E C f ta) := L2N.ps_raise hc tk (pmkN_oex T iC tI F1 hr hb hx hg hm ha hdb he hpl)
/-- the field v of the refusal is told -/
theorem raise1_of {E : XK} {C : Addr} {f : Str} {D : Ends} {σ : L2.St} {H : Hp} {v : V} (h : ∀ d, H d = none → E (.ref C) (some d) (upd H d (.xd [(f, v)]))) : (fun (vs : List V) H1 => vs.length ≤ 1000 ∧ ∀ a, H1 a = none → spXi C f (.ref a :: (vs ++ [])) (upd H1 a (exo a C none))
  (fun v H2 => v = .non ∧ ∃ (d : Addr) (fs : List (Str × V)), H2 a = some (exo a C (some d)) ∧ H2 d = some (exd d fs) ∧ H1 d = none ∧ E (.ref C) (some d) (upd (del H2 a) d (.xd fs))) (fun _ _ _ => False)) [v] H := by
  refine ⟨by simp, fun a ha => ⟨a, v, rfl, upd_same, fun dx h1 h2 => ⟨rfl, dx, [(f, v)], upd_same, ?_, ?_, ?_⟩⟩⟩
  · rw [upd_ne h2, upd_same]
  · rw [upd_ne h2] at h1; exact h1
  · rw [upd_ne h2] at h1
    have e : upd (del (upd (upd (upd H a (exo a C none)) dx (exd dx [(f, v)])) a (exo a C (some dx))) a) dx (.xd [(f, v)]) = upd H dx (.xd [(f, v)]) := by
      funext b
      by_cases hb : b = dx
      · subst hb; rw [upd_same, upd_same]
      · rw [upd_ne hb, upd_ne hb]
        by_cases hba : b = a
        · subst hba; rw [del_same, ha]
        · rw [del_ne hba, upd_ne hba, upd_ne hb, upd_ne hba]
    rw [e]
    exact h dx h1
end HX

set_option Elab.async false
set_option linter.all false
set_option maxRecDepth 100000
set_option maxHeartbeats 4000000
/-! refusals with a field -/
namespace DL
open PySem PySem.Spec PyProof.Rows L2
variable [Wr]
/-- what the written part says of a class whose instances have one field -/
structure FldC (K : PySem.W.Frag) (c f : Str) : Prop where
  oex : OexC K (He.ga K c)
  xf : XfC K (He.ga K c)
  no : PySem.W.findIn K (.ref (He.ga K c)) f = some none
  ini : PySem.W.findIn K (.ref (He.ga K c)) "__init__" = some (some (.ref (He.ma K (He.ga K c) "__init__")))
  fn : PySem.W.typeIn K (.ref (He.ma K (He.ga K c) "__init__")) = some (.type "function")
  bas : HX.BaseI K (He.ga K "BoxError")
  ve : PySem.W.kitCls K (.ref (He.ga K c)) (.type "ValueError") = some true
def oexB (K : PySem.W.Frag) (C : Addr) : Bool := (match K.lookup C with
  | some ⟨.type "type", _, .cls cd, sl⟩ => (match cd.mro, sl.toList with
    | .ref C' :: bm, [_, _, _, _, some (.builtin n), _] => decide (C' = C) && decide (n = "ValueError.__new__") && (!cd.hasDel) && cd.hasDict && PySem.HandSPX.refsVE bm
    | _, _ => false)
  | _ => false) && (decide (PySem.W.findIn K (.ref C) "__setattr__" = some (some (.builtin "object.__setattr__"))) && (decide (PySem.W.subIn K (.ref C) (.type "BaseException") = some true) && (decide (PySem.W.typeIn K (.ref C) = some (.type "type")) && PySem.W.keepIn K (.ref C))))
theorem oexB_ok {K : PySem.W.Frag} {C : Addr} (h : oexB K C = true) : OexC K C := by
  unfold oexB at h
  obtain ⟨h1, h⟩ := Bool.and_eq_true_iff.mp h
  obtain ⟨h2, h⟩ := Bool.and_eq_true_iff.mp h
  obtain ⟨h3, h⟩ := Bool.and_eq_true_iff.mp h
  obtain ⟨h4, h5⟩ := Bool.and_eq_true_iff.mp h
  refine ⟨?_, of_decide_eq_true h2, of_decide_eq_true h3, of_decide_eq_true h4, h5⟩
  split at h1
  · rename_i di cd sl e
    split at h1
    · rename_i C' bm k0 k1 k2 k3 n k5 em es
      simp only [Bool.and_eq_true, decide_eq_true_eq, Bool.not_eq_true'] at h1
      obtain ⟨⟨⟨⟨rfl, rfl⟩, g1⟩, g2⟩, g3⟩ := h1
      have e2 : sl = #[k0, k1, k2, k3, some (.builtin "ValueError.__new__"), k5] := by
        cases sl with
        | mk l => rw [show l = [k0, k1, k2, k3, some (.builtin "ValueError.__new__"), k5] from es]
      cases cd with
      | mk nm bs mro ns qn hd sn sub ab col del =>
        simp only at em g1 g2
        subst em g1 g2 e2
        exact ⟨nm, qn, ns, bs, bm, sn, sub, ab, col, di, k0, k1, k2, k3, k5, e, g3⟩
    · cases h1
  · cases h1
def isValB (o : Option PySem.W.CFound) (n : String) : Bool := match o with
  | some (.val (.builtin m)) => decide (m = n)
  | _ => false
theorem isValB_ok {o : Option PySem.W.CFound} {n : String} (h : isValB o n = true) : o = some (.val (.builtin n)) := by
  unfold isValB at h
  split at h
  · rw [of_decide_eq_true h]
  · cases h
def fldB (K : PySem.W.Frag) (c f : Str) : Bool := oexB K (He.ga K c) && (xfB K (He.ga K c) && (decide (PySem.W.findIn K (.ref (He.ga K c)) f = some none) && (decide (PySem.W.findIn K (.ref (He.ga K c)) "__init__" = some (some (.ref (He.ma K (He.ga K c) "__init__")))) &&
  (decide (PySem.W.typeIn K (.ref (He.ma K (He.ga K c) "__init__")) = some (.type "function")) && (PySem.W.readsIn K (He.ga K "BoxError") (.type "type") && (decide (PySem.W.specialIn K (.ref (He.ga K "BoxError")) "__getattribute__" = some (some (.builtin "type.__getattribute__"))) &&
  (isValB (PySem.W.findCls K (.ref (He.ga K "BoxError")) (.type "type") "__init__") "ValueError.__init__" && decide (PySem.W.kitCls K (.ref (He.ga K c)) (.type "ValueError") = some true))))))))
theorem fldB_ok {K : PySem.W.Frag} {c f : Str} (h : fldB K c f = true) : FldC K c f := by
  unfold fldB at h
  obtain ⟨h1, h⟩ := Bool.and_eq_true_iff.mp h
  obtain ⟨h2, h⟩ := Bool.and_eq_true_iff.mp h
  obtain ⟨h3, h⟩ := Bool.and_eq_true_iff.mp h
  obtain ⟨h4, h⟩ := Bool.and_eq_true_iff.mp h
  obtain ⟨h5, h⟩ := Bool.and_eq_true_iff.mp h
  obtain ⟨h6, h⟩ := Bool.and_eq_true_iff.mp h
  obtain ⟨h7, h⟩ := Bool.and_eq_true_iff.mp h
  obtain ⟨h8, h9⟩ := Bool.and_eq_true_iff.mp h
  exact ⟨oexB_ok h1, xfB_ok h2, of_decide_eq_true h3, of_decide_eq_true h4, of_decide_eq_true h5, ⟨⟨h6, of_decide_eq_true h7⟩, isValB_ok h8⟩, of_decide_eq_true h9⟩
/-- raise C(v) -/
def sRaise1 (c : Str) (fa : Fa) : Fs := fun ρ => match fa ρ with
  | .ok ([.int i], _) => .err c [.int i]
  | .ok ([.str x], _) => .err c [.str x]
  | _ => .no
theorem rs_raise1 {E : XK} {ta : TA} {fa : Fa} (c : Str) (h : RA (EWx E) ta fa) : RS (EWx E) (HX.tRaise1 E (He.ga Wr.K c) (fldN c) ta) (sRaise1 c fa) := ⟨fun B S0 M σ H S ρ D R a => by
  refine h.go B S0 M σ H S ρ _ R ?_
  unfold sRaise1 at a
  cases e : fa ρ with
  | err c fs => rw [e] at a; exact (show False from a).elim
  | no => rw [e] at a; exact (show False from a).elim
  | ok p =>
    obtain ⟨ds, ρ1⟩ := p
    rw [e] at a
    intro vs H' S' e1 R1 r1
    split at a
    · rename_i i _ e2
      cases e2
      obtain ⟨w, ws, rfl, q1, q2⟩ := r1
      rw [show ws = [] from q2, show w = .int i from q1]
      exact HX.raise1_of (D := D) (σ := σ) (a H' R1.kp)
    · rename_i x _ e2
      cases e2
      obtain ⟨w, ws, rfl, q1, q2⟩ := r1
      rw [show ws = [] from q2, show w = .str x from q1]
      exact HX.raise1_of (D := D) (σ := σ) (a H' R1.kp)
    · exact (show False from a).elim⟩
/-- such a class, its __init__ walked -/
structure FldI (P : Program) (w : World) (K : PySem.W.Frag) (mg : Str → Option Value) (base : Heap) (c : Str) : Prop where
  g : mg c = some (.ref (He.ga K c))
  f : FldC K c (fldN c)
  ex : ∃ fd, FnOk P w K mg base CX0 1 (He.ma K (He.ga K c) "__init__") fd ["self", fldN c] (HX.spXi (He.ga K c) (fldN c)) ∧ Binds K fd ["self", fldN c] []
theorem ps_ref1 {X : Cx} {c : Str} {j : Nat} {E : XK} {e : Expr} {es : List Expr} {ta : TA} {p pos pos' : Pos} (r : FldI X.prog X.w X.K X.mg X.base c) (hr : Room j X.A) (hj : 2 ≤ j) (hg : Gl X c) (ha : PA X (e :: es) ta) (hc : X.calm = true) (tk : L2N.Takes X fun cls d _ H => E cls d H)
    (hdb : (c == ("__debug__" : Str)) = false := by decide) (he : starEach (e :: es) X.env = (false, eval e X.env) :: starEach es X.env := by rfl) (hpl : (backTo pos (starEach es X.env)).any (·.1) = false := by rfl) :
    PS X (.Raise (some (.Call (.Name c p) (e :: es) [] pos)) none pos') (HX.tRaise1 E (He.ga X.K c) (fldN c) ta) := by
  obtain ⟨fd, F, b⟩ := r.ex
  exact HX.ps_raise1 r.f.oex r.f.ini r.f.fn F (hr.mono hj) b (fun _ _ _ _ _ _ _ z => False.elim z) hg r.g ha hc tk hdb he hpl
structure FldAll (K : PySem.W.Frag) : Prop where
  t : FldC K "TooMany" "most"
  l : FldC K "Locked" "colour"
  tt : PySem.W.exmOne K (.ref (He.ga K "TooMany")) (.ref (He.ga K "TooMany")) = some true
  lt : PySem.W.exmOne K (.ref (He.ga K "Locked")) (.ref (He.ga K "TooMany")) = some false
  ll : PySem.W.exmOne K (.ref (He.ga K "Locked")) (.ref (He.ga K "Locked")) = some true
def fldAllB (K : PySem.W.Frag) : Bool := fldB K "TooMany" "most" && (fldB K "Locked" "colour" && (decide (PySem.W.exmOne K (.ref (He.ga K "TooMany")) (.ref (He.ga K "TooMany")) = some true) && (decide (PySem.W.exmOne K (.ref (He.ga K "Locked")) (.ref (He.ga K "TooMany")) = some false) && decide (PySem.W.exmOne K (.ref (He.ga K "Locked")) (.ref (He.ga K "Locked")) = some true))))
theorem fldAllB_ok {K : PySem.W.Frag} (h : fldAllB K = true) : FldAll K := by
  unfold fldAllB at h
  obtain ⟨h1, h⟩ := Bool.and_eq_true_iff.mp h
  obtain ⟨h2, h⟩ := Bool.and_eq_true_iff.mp h
  obtain ⟨h3, h⟩ := Bool.and_eq_true_iff.mp h
  obtain ⟨h4, h5⟩ := Bool.and_eq_true_iff.mp h
  exact ⟨fldB_ok h1, fldB_ok h2, of_decide_eq_true h3, of_decide_eq_true h4, of_decide_eq_true h5⟩
/-- the body of a class -/
def clsBody : Stmt → List Stmt
  | .ClassDef _ _ _ body _ _ _ _ _ _ _ => body
  | _ => []
/-- kin = [name, e.field, isinstance(e, ValueError)] -/
def tFld (c : Str) (a : Addr) (cls : Value) (d : Option Addr) : TS := tAsg (tLst (tCons (tC (.str c)) (tCons (tXf a cls d (He.ga Wr.K c) (fldN c) (tVar 5)) (tCons (tCB (HX.rIsB Wr.K cls a) (tCons (tVar 5) (tCons (tC (.ty "ValueError")) tNil))) tNil)))) (gName 4)
theorem suite_fld {c : Str} (hC : FldC Wr.K c (fldN c)) {σ : L2.St} {H : Hp} {a dd : Addr} {v : V} {D : Ends} (e5 : σ[5]? = some (some (.ref a))) (hd : H dd = some (.xd [(fldN c, v)]))
    (go : ∀ p, H p = none → D.nx (σ.set 4 (some (.ref p))) (upd H p (.lst [.str c, v, .bl true]))) : tFld c a (.ref (He.ga Wr.K c)) (some dd) D σ H :=
  ⟨.ref a, e5, rfl, rfl, dd, [(fldN c, v)], v, rfl, hd, by simp [List.lookup], .ref a, e5, He.ga Wr.K c, .ty "ValueError", .type "ValueError", rfl, rfl, fun u h => h, rfl, hC.ve, by rw [sizeLine_eq]; simp, fun p hp => go p hp⟩
/-- what _law_refused tells of a refusal -/
def kinOf2 (c : Str) (fs : List V) : Option (List D) := match fs with
  | [] => kinOf c []
  | [.int i] => if c = "TooMany" then some [.str c, .int i, .bool true] else none
  | [.str x] => if c = "Locked" then some [.str c, .str x, .bool true] else none
  | _ => none
def sRef2 (Fl : Nat → List D → Res Rv) : Fs := fun ρ => match ρ with
  | [.sh (.dict [(.bool false, .int i)]), .sh a, .sh b, .sh c, s4, s5, s6, s7, s8] => (match Fl i.toNat [a, b, c] with
    | .ok _ => .nx ρ
    | .err c fs => (match kinOf2 c fs with
      | some kin => .nx ((nosE 9).set 4 (.ow kin))
      | none => .no)
    | .no => .no)
  | _ => .no
theorem kinOf2_one {c : Str} {v : V} {kin : List D} (h : kinOf2 c [v] = some kin) : ∃ d : D, kin = [.str c, d, .bool true] ∧ (∀ S : Hp, Rp S v d) ∧ (c = "TooMany" ∨ c = "Locked") := by
  cases v with
  | int i =>
    replace h : (if c = "TooMany" then some [PyData.str c, .int i, .bool true] else none) = some kin := h
    split at h
    · rename_i q
      exact ⟨.int i, (Option.some.inj h).symm, fun _ => rfl, .inl q⟩
    · cases h
  | str x =>
    replace h : (if c = "Locked" then some [PyData.str c, .str x, .bool true] else none) = some kin := h
    split at h
    · rename_i q
      exact ⟨.str x, (Option.some.inj h).symm, fun _ => rfl, .inr q⟩
    · cases h
  | _ => cases h
theorem kinOf2_two {c : Str} {v w : V} {fs : List V} : kinOf2 c (v :: w :: fs) = none := by cases v <;> rfl
theorem rs_ref2 {ER : Er} {Wout : WX} {Fl : Nat → List D → Res Rv} {t3 : Addr → Value → Option Addr → TS} {g3 : Str → Addr → Fs} (hTm : ∀ c ∈ RN, PySem.W.exmOne Wr.K (.ref (He.ga Wr.K c)) (.ref (He.ga Wr.K "TooMany")) = some false) (hLk : ∀ c ∈ RN, PySem.W.exmOne Wr.K (.ref (He.ga Wr.K c)) (.ref (He.ga Wr.K "Locked")) = some false) (hBx : ∀ c ∈ RN, PySem.W.exmOne Wr.K (.ref (He.ga Wr.K c)) (.ref (He.ga Wr.K "BoxError")) = some true)
    (h3 : ∀ c ∈ RN, ∀ a, RS ER0 (t3 a (.ref (He.ga Wr.K c)) none) (g3 c a)) (hg : ∀ c ∈ RN, ∀ a, ∃ ρ', g3 c a ((nosE 9).set 5 (.sh (adrD a))) = .nx ρ' ∧ wipeE (ρ'.set 5 .no) [6] = (nosE 9).set 4 (.ow [.str c, .bool true]))
    (hTT : PySem.W.exmOne Wr.K (.ref (He.ga Wr.K "TooMany")) (.ref (He.ga Wr.K "TooMany")) = some true) (hLT : PySem.W.exmOne Wr.K (.ref (He.ga Wr.K "Locked")) (.ref (He.ga Wr.K "TooMany")) = some false) (hLL : PySem.W.exmOne Wr.K (.ref (He.ga Wr.K "Locked")) (.ref (He.ga Wr.K "Locked")) = some true)
    (fT : FldC Wr.K "TooMany" "most") (fL : FldC Wr.K "Locked" "colour") :
    RS ER (fun D σ H => tDrop (HX.tCallS Wr.lm 0 (fun j => spP 3 EWx (Fl j)) (HX.wNm Wr.K 5 Wout D [(.ref (He.ga Wr.K "TooMany"), tFld "TooMany"), (.ref (He.ga Wr.K "Locked"), tFld "Locked"), (.ref (He.ga Wr.K "BoxError"), t3)]) (tCons (tVar 1) (tCons (tVar 2) (tCons (tVar 3) tNil)))) D σ H) (sRef2 Fl) := ⟨fun B S0 M σ H S ρ D R a => by
  have old : ∀ {x : Out}, sRef2 Fl ρ = x → sRef Fl ρ = x → tDrop (HX.tCallS Wr.lm 0 (fun j => spP 3 EWx (Fl j)) (HX.wNm Wr.K 5 Wout D [(.ref (He.ga Wr.K "TooMany"), tFld "TooMany"), (.ref (He.ga Wr.K "Locked"), tFld "Locked"), (.ref (He.ga Wr.K "BoxError"), t3)]) (tCons (tVar 1) (tCons (tVar 2) (tCons (tVar 3) tNil)))) D σ H := fun e1 e2 => by
    rw [e1, ← e2] at a
    exact (rs_ref (ER := ER) (K := Wr.K) (Wout := Wout) (t1 := tFld "TooMany") (t2 := tFld "Locked") hTm hLk hBx h3 hg).go B S0 M σ H S ρ D R a
  have a0 := a
  unfold sRef2 at a
  split at a
  · rename_i i d1 d2 d3 s4 s5 s6 s7 s8
    cases hF : Fl i.toNat [d1, d2, d3] with
    | no => rw [hF] at a; exact (show False from a).elim
    | ok rv =>
      refine old (x := .nx [.sh (.dict [(.bool false, .int i)]), .sh d1, .sh d2, .sh d3, s4, s5, s6, s7, s8]) ?_ ?_
      · show (match Fl i.toNat [d1, d2, d3] with | .ok _ => _ | .err c fs => _ | .no => _) = _
        rw [hF]
      · show (match Fl i.toNat [d1, d2, d3] with | .ok _ => _ | .err c fs => _ | .no => _) = _
        rw [hF]
    | err c fs =>
      cases fs with
      | nil =>
        refine old (x := match kinOf c [] with | some kin => .nx ((nosE 9).set 4 (.ow kin)) | none => .no) ?_ ?_
        · show (match Fl i.toNat [d1, d2, d3] with | .ok _ => _ | .err c fs => _ | .no => _) = _
          rw [hF] <;> rfl
        · show (match Fl i.toNat [d1, d2, d3] with | .ok _ => _ | .err c fs => _ | .no => _) = _
          rw [hF] <;> rfl
      | cons v fs =>
        cases fs with
        | cons v2 fs => rw [hF] at a; simp only [kinOf2_two] at a; exact (show False from a).elim
        | nil =>
          rw [hF] at a
          simp only at a
          cases hk : kinOf2 c [v] with
          | none => rw [hk] at a; exact (show False from a).elim
          | some kin =>
            rw [hk] at a
            simp only at a
            obtain ⟨dv, rfl, rpv, hc⟩ := kinOf2_one hk
            obtain ⟨v0, e0, r0⟩ := R.ats 0 _ rfl
            obtain ⟨v1, e1, r1⟩ := R.ats 1 _ rfl
            obtain ⟨v2, e2, r2⟩ := R.ats 2 _ rfl
            obtain ⟨v3, e3, r3⟩ := R.ats 3 _ rfl
            have hlen : σ.length = 9 := R.len
            obtain ⟨f, rfl, z | z | ⟨n, c', ek, hf, hcd⟩ | ⟨_, _, _, z, _⟩⟩ := r0
            case' inr.inr.inr => simp [tdK] at z
            · obtain ⟨ns, z, _⟩ := z
              injection z with z _; injection z with z _; cases z
            · injection z with z _; injection z with z _; injection z with z; cases z
            · injection ek with ek _; injection ek with _ ek; injection ek with ek
              subst ek
              rw [Int.toNat_natCast] at hF
              refine ⟨f, n, c', e0, R.sub _ _ hf, v1, e1, v2, e2, v3, e3, R.sub _ _ hf, R.sub _ _ hcd, ?_⟩
              refine ⟨S, [d1, d2, d3], R.sub, R.tabs.low, .cons r1 (.cons r2 (.cons r3 .nil)), rfl, ?_⟩
              rw [hF]
              intro H' kp dd hdd
              obtain ⟨kp1, S', kp2, kp3, kp4, kp5, kp6⟩ := id kp
              obtain ⟨m1, _⟩ := R.kpAfter (L := tbs) (fun x hx => .inl (R.tabs.sub x hx)) kp (fun x hx => hx)
              have base2 : ∀ x o, B x = some o → S' x = S0 x := fun x o hx => by
                by_cases z : x ∈ M
                · obtain ⟨o', ho⟩ := R.there x z
                  rw [kp6 x o' ho]; exact R.base x o hx
                · rw [kp6 x o (R.keep x o hx z)]; exact R.base x o hx
              have kk : Kp B S0 M H' := ⟨m1, S', R.s0.trans kp2, kp3, kp4.up R.tabs.sub, fun x hx => by
                obtain ⟨o, ho⟩ := R.there x hx
                by_cases z : x ∈ tbs
                · exact kp5 x z
                · exact ⟨o, kp1 x o ho z⟩, base2⟩
              have k2 : Rel B S0 M σ H' S' (nosE 9) := by
                refine ⟨kp3, R.s0.trans kp2, m1, kk.2.choose_spec.2.2.2.1, base2, by rw [hlen]; rfl, fun i s e => ?_, fun i j s s' l ij y1 y2 o1 o2 _ _ => ?_, kp4.up R.tabs.sub⟩
                · have : s = .no := by
                    unfold nosE at e
                    rw [List.getElem?_replicate] at e
                    split at e
                    · exact (Option.some.inj e).symm
                    · cases e
                  rw [this]; trivial
                · have : s = .no := by
                    unfold nosE at y1
                    rw [List.getElem?_replicate] at y1
                    split at y1
                    · exact (Option.some.inj y1).symm
                    · cases y1
                  rw [this] at o1; cases o1
              have fin : ∀ (ad : Addr) (E2 : Ends), (∀ σ' H2, D.nx (σ'.set 5 none) H2 → E2.nx σ' H2) → FldC Wr.K c (fldN c) → tFld c ad (.ref (He.ga Wr.K c)) (some dd) E2 (σ.set 5 (some (.ref ad))) (upd H' dd (.xd [(fldN c, v)])) := fun ad E2 hE fC => by
                have k3 := (k2.lay (p := dd) (o := .xd [(fldN c, v)]) hdd).setSh (i := 5) (Rp.adr (S := S') ad)
                refine suite_fld fC (List.getElem?_set_self (by omega)) upd_same fun p hp => hE _ _ ?_
                have nb := k3.nobody hp
                have k4 := (k3.lay (p := p) (o := .lst [.str c, v, .bl true]) hp).setOwn (i := 4) (p := p) (s0 := .ow [.str c, dv, .bool true]) ⟨p, _, rfl, upd_same, nb.1, .cons rfl (.cons (rpv S') (.cons rfl .nil)), nb.2.1, nb.2.2.1⟩ nb.2.2.2
                exact a _ _ S' kp2 (k4.setNo (i := 5) none)
              rcases hc with hc | hc
              · subst hc
                exact ⟨true, hTT, fun _ ad _ => fin ad _ (fun _ _ z => z) fT, (fun z => nomatch z)⟩
              · subst hc
                exact ⟨false, hLT, (fun z => nomatch z), fun _ => ⟨true, hLL, fun _ ad _ => fin ad _ (fun _ _ z => z) fL, (fun z => nomatch z)⟩⟩
  · exact (show False from a).elim⟩
end DL

set_option Elab.async false
set_option linter.all false
namespace DL
open PySem PySem.Spec PyProof.Rows L2
variable [Wr]
/-- a law's end: what it computes is True -/
theorem law_endT {F : List D → Res Rv} {ns : List Int} {H : Hp} {a : Addr} (h : F [frzD ns] = .ok (.sh (.bool true))) (hS : SqL Wr.K H a (ns.map V.int)) (hT : ∀ q ∈ Wr.T, H q.1 = some (.tbl #[])) : spP 1 EW0 F [.ref a] H (fun v _ => v = .bl true) fun _ _ _ => False := by
  refine ⟨fun b => if b ∈ tbs then none else H b, [frzD ns], fun b o e => ?_, fun q hq => ⟨List.mem_map.mpr ⟨q, hq, rfl⟩, if_pos (List.mem_map.mpr ⟨q, hq, rfl⟩), #[], hT q hq, trivial, fun pos cv z => ?_⟩, ?_, rfl, ?_⟩
  · replace e : (if b ∈ tbs then none else H b) = some o := e
    by_cases hb : b ∈ tbs
    · rw [if_pos hb] at e; cases e
    · rw [if_neg hb] at e; exact e
  · cases z
  · refine ⟨_, _, rfl, Rp.frz ?_, rfl⟩
    have nt : ∀ o, H a = some o → (∀ ps, o ≠ .tbl ps) → (if a ∈ tbs then none else H a) = some o := fun o e n => by
      rw [if_neg fun z => ?_]
      · exact e
      · obtain ⟨q, hq, rfl⟩ := List.mem_map.mp z
        rw [hT q hq] at e
        exact n _ (Option.some.inj e).symm
    rcases hS with (z | ⟨o, z⟩) | z
    · exact .inl (.inl (nt _ z fun ps y => by cases y))
    · exact .inl (.inr ⟨o, nt _ z fun ps y => by cases y⟩)
    · exact .inr z
  · rw [h]
    intro v H' S' _ _ _ _ _ g
    exact g
end DL

set_option Elab.async false
set_option linter.all false
set_option maxRecDepth 100000
set_option maxHeartbeats 4000000
/-! evaluation of denotations by simp -/
namespace DL
open PySem PySem.Spec PyProof.Rows L2
variable [Wr]
@[simp] theorem dSh_ap (f : Fe) (ρ : En) : dSh f ρ = (f ρ).bind fun p => match p.1 with
  | .sh d => .ok (d, p.2)
  | .fr ds => .ok (.list ds, p.2)
  | .fk _ => .no := by
  unfold dSh
  cases f ρ with
  | ok a => obtain ⟨rv, ρ'⟩ := a; cases rv <;> rfl
  | err c fs => rfl
  | no => rfl
@[simp] theorem dVar_ap (i : Nat) (ρ : En) : dVar i ρ = match ρ[i]? with
  | some (.sh d) => .ok (.sh d, ρ)
  | some (.ow ds) => .ok (.sh (.list ds), ρ.set i (.sh (.list ds)))
  | _ => .no := id rfl
@[simp] theorem dMove_ap (i : Nat) (ρ : En) : dMove i ρ = match ρ[i]? with
  | some (.sh d) => .ok (.sh d, ρ)
  | some (.ow ds) => .ok (.fr ds, ρ.set i .no)
  | some (.od kvs) => .ok (.fk kvs, ρ.set i .no)
  | _ => .no := id rfl
@[simp] theorem dC_ap (d : D) (ρ : En) : dC d ρ = .ok (.sh d, ρ) := id rfl
@[simp] theorem optR_some (rv : Rv) (ρ : En) : optR (some rv) ρ = .ok (rv, ρ) := id rfl
@[simp] theorem optR_none (ρ : En) : optR none ρ = .no := id rfl
@[simp] theorem dOp_ap (g : D → D → Option Rv) (fa fb : Fd) (ρ : En) : dOp g fa fb ρ = (fa ρ).bind fun p => (fb p.2).bind fun q => optR (g p.1 q.1) q.2 := id rfl
@[simp] theorem dNegF_ap (fa : Fd) (ρ : En) : dNegF fa ρ = (fa ρ).bind fun p => match p.1 with
  | .int i => .ok (.sh (.int (-i)), p.2)
  | _ => .no := id rfl
@[simp] theorem dAdd_int (a b : Int) : dAdd (.int a) (.int b) = some (.sh (.int (a + b))) := id rfl
@[simp] theorem dAdd_list (a b : List D) : dAdd (.list a) (.list b) = if szOk (a.length + b.length) = true then some (.fr (a ++ b)) else none := id rfl
@[simp] theorem dAdd_str (a b : Str) : dAdd (.str a) (.str b) = if szOk (a.length + b.length) = true then some (.sh (.str (a ++ b))) else none := id rfl
@[simp] theorem dSub_int (a b : Int) : dSub (.int a) (.int b) = some (.sh (.int (a - b))) := id rfl
@[simp] theorem dMul_int (a b : Int) : dMul (.int a) (.int b) = if (smI a || smI b) = true then some (.sh (.int (a * b))) else none := id rfl
@[simp] theorem dMul_list (xs : List D) (k : Int) : dMul (.list xs) (.int k) = if (s62 k && szOk (xs.length * k.toNat)) = true then some (.fr (List.replicate k.toNat xs).flatten) else none := id rfl
@[simp] theorem dDiv_int (a b : Int) : dDiv (.int a) (.int b) = if (decide (0 < b) && s30 b) = true then some (.sh (.int (a / b))) else none := id rfl
@[simp] theorem dMod_int (a b : Int) : dMod (.int a) (.int b) = if decide (0 < b) = true then some (.sh (.int (a % b))) else none := id rfl
@[simp] theorem dLt_int (a b : Int) : dLt (.int a) (.int b) = some (.sh (.bool (decide (a < b)))) := id rfl
@[simp] theorem dLe_int (a b : Int) : dLe (.int a) (.int b) = some (.sh (.bool (decide (a ≤ b)))) := id rfl
@[simp] theorem dGt_int (a b : Int) : dGt (.int a) (.int b) = some (.sh (.bool (decide (b < a)))) := id rfl
@[simp] theorem dGe_int (a b : Int) : dGe (.int a) (.int b) = some (.sh (.bool (decide (b ≤ a)))) := id rfl
/-- the order of texts -/
def ltB (a b : Str) : Bool := decide (a.cps.toList < b.cps.toList)
@[simp] theorem dLt_str (a b : Str) : dLt (.str a) (.str b) = some (.sh (.bool (ltB a b))) := id rfl
@[simp] theorem okD_int (a : Int) : okD (.int a) = true := by simp [okD, plainD, SeqAt.shaped, PyData.canLay0, PyData.depth]
@[simp] theorem okD_bool (a : Bool) : okD (.bool a) = true := by simp [okD, plainD, SeqAt.shaped, PyData.canLay0, PyData.depth]
@[simp] theorem okD_none : okD .none = true := by simp [okD, plainD, SeqAt.shaped, PyData.canLay0, PyData.depth]
theorem okD_str (a : Str) (h : PyData.strOk a = true) : okD (.str a) = true := by simp [okD, plainD, SeqAt.shaped, PyData.canLay0, PyData.depth, h]
@[simp] theorem dEq_int (a b : Int) : dEq (.int a) (.int b) = some (.sh (.bool (decide (a = b)))) := by
  simp [dEq, PyData.eqv, Bool.beq_eq_decide_eq]
@[simp] theorem dNe_int (a b : Int) : dNe (.int a) (.int b) = some (.sh (.bool (!decide (a = b)))) := by
  simp [dNe, PyData.eqv, Bool.beq_eq_decide_eq]
@[simp] theorem dB_ap (f : Fd) (ρ : En) : dB f ρ = (f ρ).bind bOf := id rfl
@[simp] theorem bOf_bool (b : Bool) (ρ : En) : bOf (.bool b, ρ) = .ok (b, ρ) := id rfl
@[simp] theorem dAnd_ap (f g : Ft) (ρ : En) : dAnd f g ρ = (f ρ).bind fun p => if p.1 = true then g p.2 else .ok (false, p.2) := id rfl
@[simp] theorem dOr_ap (f g : Ft) (ρ : En) : dOr f g ρ = (f ρ).bind fun p => if p.1 = true then .ok (true, p.2) else g p.2 := id rfl
@[simp] theorem dNot_ap (f : Ft) (ρ : En) : dNot f ρ = (f ρ).bind fun p => .ok (!p.1, p.2) := id rfl
@[simp] theorem dAndV_ap (fa : Fd) (fb : Fe) (ρ : En) : dAndV fa fb ρ = (dB fa ρ).bind fun p => if p.1 = true then fb p.2 else .ok (.sh (.bool false), p.2) := id rfl
@[simp] theorem dOrV_ap (fa : Fd) (fb : Fe) (ρ : En) : dOrV fa fb ρ = (dB fa ρ).bind fun p => if p.1 = true then .ok (.sh (.bool true), p.2) else fb p.2 := id rfl
@[simp] theorem dNotV_ap (fa : Fd) (ρ : En) : dNotV fa ρ = (dB fa ρ).bind fun p => .ok (.sh (.bool (!p.1)), p.2) := id rfl
@[simp] theorem dIf_ap (f : Ft) (fa fb : Fe) (ρ : En) : dIf f fa fb ρ = (f ρ).bind fun p => if p.1 = true then fa p.2 else fb p.2 := id rfl
def chk (o : Option Rv) (k : Bool → Res (Rv × En)) : Res (Rv × En) := match o with
  | some (.sh (.bool b)) => k b
  | _ => .no
@[simp] theorem chk_bool (b : Bool) (k : Bool → Res (Rv × En)) : chk (some (.sh (.bool b))) k = k b := id rfl
@[simp] theorem dChain_ap (g g' : D → D → Option Rv) (fa fb fc : Fd) (ρ : En) : dChain g g' fa fb fc ρ = (fa ρ).bind fun p => (fb p.2).bind fun q => chk (g p.1 q.1) fun b => if b = true then (fc q.2).bind fun z => optR (g' q.1 z.1) z.2 else .ok (.sh (.bool false), q.2) := by
  unfold dChain
  congr 1
  funext p
  congr 1
  funext q
  unfold chk
  cases g p.1 q.1 with
  | none => rfl
  | some rv =>
    cases rv with
    | sh d => cases d with
      | bool b => cases b <;> rfl
      | _ => rfl
    | _ => rfl
@[simp] theorem dNil_ap (ρ : En) : dNil ρ = .ok ([], ρ) := id rfl
@[simp] theorem dCons_ap (fa : Fd) (fr : Fa) (ρ : En) : dCons fa fr ρ = (fa ρ).bind fun p => (fr p.2).bind fun q => .ok (p.1 :: q.1, q.2) := id rfl
@[simp] theorem dTup_ap (f : Fa) (ρ : En) : dTup f ρ = (f ρ).bind fun p => if szOk p.1.length = true then .ok (.sh (.tuple p.1), p.2) else .no := id rfl
@[simp] theorem dLst_ap (f : Fa) (ρ : En) : dLst f ρ = (f ρ).bind fun p => if szOk p.1.length = true then .ok (.fr p.1, p.2) else .no := id rfl
@[simp] theorem dCall_ap (g : List D → Option Rv) (f : Fa) (ρ : En) : dCall g f ρ = (f ρ).bind fun p => optR (g p.1) p.2 := id rfl
@[simp] theorem dLen_list (ds : List D) : dLen [.list ds] = some (.sh (.int (ds.length : Nat))) := id rfl
@[simp] theorem dLen_tuple (ds : List D) : dLen [.tuple ds] = some (.sh (.int (ds.length : Nat))) := id rfl
@[simp] theorem dLen_frz (ns : List Int) : dLen [frzD ns] = some (.sh (.int (ns.length : Nat))) := by
  show some (Rv.sh (.int ((ns.map PyData.int).length : Nat))) = _
  rw [List.length_map]
@[simp] theorem dTupleF_list (ds : List D) : dTupleF [.list ds] = some (.sh (.tuple ds)) := id rfl
@[simp] theorem dTupleF_tuple (ds : List D) : dTupleF [.tuple ds] = some (.sh (.tuple ds)) := id rfl
@[simp] theorem dListF_list (ds : List D) : dListF [.list ds] = some (.fr ds) := id rfl
@[simp] theorem dListF_tuple (ds : List D) : dListF [.tuple ds] = some (.fr ds) := id rfl
@[simp] theorem dIntF_int (i : Int) : dIntF [.int i] = some (.sh (.int i)) := id rfl
@[simp] theorem dIntF_bool (b : Bool) : dIntF [.bool b] = some (.sh (.int (if b then 1 else 0))) := id rfl
@[simp] theorem dMax2_int (i j : Int) : dMax2 [.int i, .int j] = some (.sh (.int (if j > i then j else i))) := id rfl
@[simp] theorem dMin2_int (i j : Int) : dMin2 [.int i, .int j] = some (.sh (.int (if j < i then j else i))) := id rfl
@[simp] theorem dSumF_ints (ns : List Int) : dSumF [.list (ns.map .int)] = some (.sh (.int ns.sum)) := by simp [dSumF]
@[simp] theorem dAllF_bools (ns : List Bool) : dAllF [.list (ns.map .bool)] = some (.sh (.bool (ns.all id))) := by simp [dAllF]
@[simp] theorem dAnyF_bools (ns : List Bool) : dAnyF [.list (ns.map .bool)] = some (.sh (.bool (ns.any id))) := by simp [dAnyF]
@[simp] theorem dIsi_ap (T : String) (fa : Fd) (ρ : En) : dIsi T fa ρ = (fa ρ).bind fun p => optR (bRv (isiD T p.1)) p.2 := id rfl
@[simp] theorem bRv_some' (b : Bool) : bRv (some b) = some (.sh (.bool b)) := id rfl
theorem kB (a b : String) (r : Bool) (h : kitB a b = some r) : kitB a b = some r := h
@[simp] theorem isi_int_int (i : Int) : isiD "int" (.int i) = some true := show kitB "int" "int" = some true by decide +kernel
@[simp] theorem isi_int_bool (i : Bool) : isiD "int" (.bool i) = some true := show kitB "bool" "int" = some true by decide +kernel
@[simp] theorem isi_int_none : isiD "int" .none = some false := show kitB "NoneType" "int" = some false by decide +kernel
@[simp] theorem isi_int_str (i : Str) : isiD "int" (.str i) = some false := show kitB "str" "int" = some false by decide +kernel
@[simp] theorem isi_int_list (i : List D) : isiD "int" (.list i) = some false := show kitB "list" "int" = some false by decide +kernel
@[simp] theorem isi_int_tuple (i : List D) : isiD "int" (.tuple i) = some false := show kitB "tuple" "int" = some false by decide +kernel
@[simp] theorem isi_bool_int (i : Int) : isiD "bool" (.int i) = some false := show kitB "int" "bool" = some false by decide +kernel
@[simp] theorem isi_bool_bool (i : Bool) : isiD "bool" (.bool i) = some true := show kitB "bool" "bool" = some true by decide +kernel
@[simp] theorem isi_bool_none : isiD "bool" .none = some false := show kitB "NoneType" "bool" = some false by decide +kernel
@[simp] theorem isi_bool_str (i : Str) : isiD "bool" (.str i) = some false := show kitB "str" "bool" = some false by decide +kernel
@[simp] theorem isi_bool_list (i : List D) : isiD "bool" (.list i) = some false := show kitB "list" "bool" = some false by decide +kernel
@[simp] theorem isi_bool_tuple (i : List D) : isiD "bool" (.tuple i) = some false := show kitB "tuple" "bool" = some false by decide +kernel
@[simp] theorem isi_str_int (i : Int) : isiD "str" (.int i) = some false := show kitB "int" "str" = some false by decide +kernel
@[simp] theorem isi_str_bool (i : Bool) : isiD "str" (.bool i) = some false := show kitB "bool" "str" = some false by decide +kernel
@[simp] theorem isi_str_none : isiD "str" .none = some false := show kitB "NoneType" "str" = some false by decide +kernel
@[simp] theorem isi_str_str (i : Str) : isiD "str" (.str i) = some true := show kitB "str" "str" = some true by decide +kernel
@[simp] theorem isi_str_list (i : List D) : isiD "str" (.list i) = some false := show kitB "list" "str" = some false by decide +kernel
@[simp] theorem isi_str_tuple (i : List D) : isiD "str" (.tuple i) = some false := show kitB "tuple" "str" = some false by decide +kernel
@[simp] theorem isi_tuple_int (i : Int) : isiD "tuple" (.int i) = some false := show kitB "int" "tuple" = some false by decide +kernel
@[simp] theorem isi_tuple_bool (i : Bool) : isiD "tuple" (.bool i) = some false := show kitB "bool" "tuple" = some false by decide +kernel
@[simp] theorem isi_tuple_none : isiD "tuple" .none = some false := show kitB "NoneType" "tuple" = some false by decide +kernel
@[simp] theorem isi_tuple_str (i : Str) : isiD "tuple" (.str i) = some false := show kitB "str" "tuple" = some false by decide +kernel
@[simp] theorem isi_tuple_list (i : List D) : isiD "tuple" (.list i) = some false := show kitB "list" "tuple" = some false by decide +kernel
@[simp] theorem isi_tuple_tuple (i : List D) : isiD "tuple" (.tuple i) = some true := show kitB "tuple" "tuple" = some true by decide +kernel
@[simp] theorem isi_list_int (i : Int) : isiD "list" (.int i) = some false := show kitB "int" "list" = some false by decide +kernel
@[simp] theorem isi_list_bool (i : Bool) : isiD "list" (.bool i) = some false := show kitB "bool" "list" = some false by decide +kernel
@[simp] theorem isi_list_none : isiD "list" .none = some false := show kitB "NoneType" "list" = some false by decide +kernel
@[simp] theorem isi_list_str (i : Str) : isiD "list" (.str i) = some false := show kitB "str" "list" = some false by decide +kernel
@[simp] theorem isi_list_list (i : List D) : isiD "list" (.list i) = some true := show kitB "list" "list" = some true by decide +kernel
@[simp] theorem isi_list_tuple (i : List D) : isiD "list" (.tuple i) = some false := show kitB "tuple" "list" = some false by decide +kernel
@[simp] theorem dOpO_ap (g : D → D → Option Rv) (i : Nat) (fb : Fd) (ρ : En) : dOpO g i fb ρ = if (ρ[i]?.bind slD).isSome = true then (fb ρ).bind fun q => match q.2[i]?.bind slD with
  | some d => optR (g d q.1) q.2
  | none => .no
  else .no := id rfl
@[simp] theorem dOpR_ap (g : D → D → Option Rv) (fa : Fd) (i : Nat) (ρ : En) : dOpR g fa i ρ = (fa ρ).bind fun q => match q.2[i]?.bind slD with
  | some d => optR (g q.1 d) q.2
  | none => .no := id rfl
@[simp] theorem slD_sh (d : D) : slD (.sh d) = some d := id rfl
@[simp] theorem slD_ow (d : List D) : slD (.ow d) = some (.list d) := id rfl
@[simp] theorem slD_io (d : List D) : slD (.io d) = some (.list d) := id rfl
theorem atI_of {α : Type} {xs : List α} {i : Int} {x : α} (h0 : 0 ≤ i) (h : xs[i.toNat]? = some x) : atI xs i = some x := by
  have e : ((i.toNat : Nat) : Int) = i := Int.toNat_of_nonneg h0
  rw [← e]
  exact atI_nat h
@[simp] theorem dIx_list (ds : List D) (i : Int) : dIx (.list ds) (.int i) = (atI ds i).map .sh := id rfl
@[simp] theorem dIx_tuple (ds : List D) (i : Int) : dIx (.tuple ds) (.int i) = (atI ds i).map .sh := id rfl
@[simp] theorem dIx_frz (ns : List Int) (i : Int) : dIx (frzD ns) (.int i) = (atI (ns.map PyData.int) i).map .sh := id rfl
@[simp] theorem atI_zero {α : Type} (x : α) (xs : List α) : atI (x :: xs) 0 = some x := atI_of (by decide) rfl
@[simp] theorem atI_one {α : Type} (x y : α) (xs : List α) : atI (x :: y :: xs) 1 = some y := atI_of (by decide) rfl
@[simp] theorem dLenO_ap (i : Nat) (ρ : En) : dLenO i ρ = match ρ[i]?.bind slD with
  | some d => optR (dLen [d]) ρ
  | none => .no := id rfl
/-! statements -/
@[simp] theorem onR_ok {α : Type} (a : α) (ρ : En) (k : α → En → Out) : onR (.ok (a, ρ)) k = k a ρ := id rfl
@[simp] theorem onR_no {α : Type} (k : α → En → Out) : onR (.no : Res (α × En)) k = .no := id rfl
@[simp] theorem sAsg_ap (i : Nat) (f : Fe) (ρ : En) : sAsg i f ρ = onR (f ρ) fun rv ρ' => .nx (setRv i rv ρ') := id rfl
@[simp] theorem setRv_sh (i : Nat) (d : D) (ρ : En) : setRv i (.sh d) ρ = ρ.set i (.sh d) := id rfl
@[simp] theorem setRv_fr (i : Nat) (d : List D) (ρ : En) : setRv i (.fr d) ρ = ρ.set i (.ow d) := id rfl
@[simp] theorem setRv_fk (i : Nat) (d : KD) (ρ : En) : setRv i (.fk d) ρ = ρ.set i (.od d) := id rfl
@[simp] theorem sDrop_ap (f : Fe) (ρ : En) : sDrop f ρ = onR (f ρ) fun _ ρ' => .nx ρ' := id rfl
@[simp] theorem sRet_ap (f : Fe) (ρ : En) : sRet f ρ = onR (f ρ) fun rv ρ' => .rt rv ρ' := id rfl
@[simp] theorem sPass_ap (ρ : En) : sPass ρ = .nx ρ := id rfl
@[simp] theorem sIf_ap (f : Ft) (a b : Fs) (ρ : En) : sIf f a b ρ = onR (f ρ) fun c ρ' => if c = true then a ρ' else b ρ' := id rfl
def seqO (o : Out) (b : Fs) : Out := match o with
  | .nx ρ' => b ρ'
  | o => o
@[simp] theorem sSeq_ap (a b : Fs) (ρ : En) : sSeq a b ρ = seqO (a ρ) b := id rfl
@[simp] theorem seqO_nx (ρ : En) (b : Fs) : seqO (.nx ρ) b = b ρ := id rfl
@[simp] theorem seqO_rt (rv : Rv) (ρ : En) (b : Fs) : seqO (.rt rv ρ) b = .rt rv ρ := id rfl
@[simp] theorem seqO_no (b : Fs) : seqO .no b = .no := id rfl
@[simp] theorem sFor_ap (fi : Fa) (fg : D → En → Option En) (fb : Fs) (ρ : En) : sFor fi fg fb ρ = onR (fi ρ) fun ds ρ' => sLoop fg fb ds ρ' := id rfl
@[simp] theorem sLoop_nil (fg : D → En → Option En) (fb : Fs) (ρ : En) : sLoop fg fb [] ρ = .nx ρ := id rfl
@[simp] theorem outP_rt (rv : Rv) (ρ : En) : outP (.rt rv ρ) = .ok rv := id rfl
@[simp] theorem outP_nx (ρ : En) : outP (.nx ρ) = .ok (.sh .none) := id rfl
@[simp] theorem outB_rt (rv : Rv) (ds : List D) (ρ : En) : outB (.rt rv (.io ds :: ρ)) = .ok (rv, ds) := id rfl
@[simp] theorem outB_nx (ds : List D) (ρ : En) : outB (.nx (.io ds :: ρ)) = .ok (.sh .none, ds) := id rfl
@[simp] theorem dCall0_ap (n : Nat) (F : List D → Res Rv) (f : Fa) (ρ : En) : dCall0 n F f ρ = (f ρ).bind fun p => if p.1.length = n then (noErr (F p.1)).bind fun rv => .ok (rv, p.2) else .no := id rfl
@[simp] theorem dSeq_ap (fa : Fd) (ρ : En) : dSeq fa ρ = (fa ρ).bind fun p => optL (seqOf p.1) p.2 := id rfl
@[simp] theorem optL_some (ds : List D) (ρ : En) : optL (some ds) ρ = .ok (ds, ρ) := id rfl
@[simp] theorem seqOf_list (ds : List D) : seqOf (.list ds) = some ds := id rfl
@[simp] theorem seqOf_tuple (ds : List D) : seqOf (.tuple ds) = some ds := id rfl
@[simp] theorem dRng1_ap (f : Fa) (ρ : En) : dRng1 f ρ = (f ρ).bind fun p => optL (rng1 p.1) p.2 := id rfl
@[simp] theorem dRng2_ap (f : Fa) (ρ : En) : dRng2 f ρ = (f ρ).bind fun p => optL (rng2 p.1) p.2 := id rfl
@[simp] theorem rng1_int (j : Int) : rng1 [.int j] = if s62 j = true then some (rngD 0 j) else none := id rfl
@[simp] theorem rng2_int (i j : Int) : rng2 [.int i, .int j] = if (s62 i && s62 j) = true then some (rngD i j) else none := id rfl
@[simp] theorem dEnum_ap (f : Fa) (ρ : En) : dEnum f ρ = (f ρ).bind fun p => optL (enumOf p.1) p.2 := id rfl
@[simp] theorem enumOf_tuple (ds : List D) : enumOf [.tuple ds] = some (enumD ds) := id rfl
@[simp] theorem gN_ap (j : Nat) (d : D) (ρ : En) : gN j d ρ = some (ρ.set j (.sh d)) := id rfl
@[simp] theorem gT_ap (n : Nat) (gs : List D → En → Option En) (ds : List D) (ρ : En) : gT n gs (.tuple ds) ρ = if ds.length = n then gs ds ρ else none := id rfl
@[simp] theorem gsNil_ap (ρ : En) : gsNil [] ρ = some ρ := id rfl
@[simp] theorem gsCons_ap (g : D → En → Option En) (gs : List D → En → Option En) (d : D) (ds : List D) (ρ : En) : gsCons g gs (d :: ds) ρ = (g d ρ).bind (gs ds) := id rfl
def updOut (o : Option (Unit × En)) : Out := match o with
  | some p => .nx p.2
  | none => .no
@[simp] theorem updOut_some (p : Unit × En) : updOut (some p) = .nx p.2 := id rfl
@[simp] theorem sApp_ap (i : Nat) (fa : Fd) (ρ : En) : sApp i fa ρ = if isL ρ i = true then onR (fa ρ) fun d ρ1 => updOut (updL i (fun ds => if szOk ds.length = true then some ((), ds ++ [d]) else none) ρ1) else .no := id rfl
@[simp] theorem lstOf_ow (ds : List D) : lstOf (.ow ds) = some ds := id rfl
@[simp] theorem lstOf_io (ds : List D) : lstOf (.io ds) = some ds := id rfl
@[simp] theorem putSl_ow (ds es : List D) : putSl (.ow ds) es = .ow es := id rfl
@[simp] theorem putSl_io (ds es : List D) : putSl (.io ds) es = .io es := id rfl
theorem szOk_of {n : Nat} (h : n ≤ 1000000) : szOk n = true := decide_eq_true h
theorem s62_of {i : Int} (h1 : -1000000 ≤ i) (h2 : i ≤ 1000000) : s62 i = true := Nat.ble_eq_true_of_le (by omega)
theorem smI_of {i : Int} (h1 : -1000000 ≤ i) (h2 : i ≤ 1000000) : smI i = true := Nat.ble_eq_true_of_le (by omega)
theorem s30_of {i : Int} (h1 : -1000000 ≤ i) (h2 : i ≤ 1000000) : s30 i = true := Nat.ble_eq_true_of_le (by omega)
end DL

set_option Elab.async false
set_option linter.all false
set_option maxRecDepth 100000
set_option maxHeartbeats 4000000
/-! loops, by an invariant -/
namespace DL
open PySem PySem.Spec PyProof.Rows L2
variable [Wr]
@[simp] theorem ixN_cast {n k : Nat} : ixN n (k : Int) = if k < n then some k else none := by
  unfold ixN
  rw [if_pos (Int.natCast_nonneg k)]
  by_cases h : k < n
  · rw [if_pos (by omega), if_pos h]; rfl
  · rw [if_neg (by omega), if_neg h]
@[simp] theorem atI_cast {α : Type} {xs : List α} {k : Nat} : atI xs (k : Int) = xs[k]? := by
  unfold atI
  rw [ixN_cast]
  by_cases h : k < xs.length
  · rw [if_pos h]; rfl
  · rw [if_neg h, List.getElem?_eq_none (by omega)]; rfl
/-- what a loop's body may end in: I goes on, C is the loop's end -/
def stepO (I : En → Prop) (C : Out → Prop) : Out → Prop
  | .nx ρ => I ρ
  | .ct ρ => I ρ
  | .bk ρ => C (.nx ρ)
  | .rt v ρ => C (.rt v ρ)
  | .err c fs => C (.err c fs)
  | .no => C .no
theorem sLoop_rel {fg : D → En → Option En} {fb : Fs} (I : List D → En → Prop) (C : Out → Prop)
    (h : ∀ d ds ρ, I (d :: ds) ρ → ∃ ρ1, fg d ρ = some ρ1 ∧ stepO (I ds) C (fb ρ1)) (hn : ∀ ρ, I [] ρ → C (.nx ρ)) : ∀ ds ρ, I ds ρ → C (sLoop fg fb ds ρ)
  | [], ρ, i => hn ρ i
  | d :: ds, ρ, i => by
    obtain ⟨ρ1, h1, h2⟩ := h d ds ρ i
    unfold sLoop
    rw [h1]
    simp only
    generalize e : fb ρ1 = o at h2 ⊢
    cases o with
    | nx ρ2 => exact sLoop_rel I C h hn ds ρ2 h2
    | ct ρ2 => exact sLoop_rel I C h hn ds ρ2 h2
    | bk ρ2 => exact h2
    | rt v ρ2 => exact h2
    | err c fs => exact h2
    | no => exact h2
/-- over a mapped list -/
theorem sLoop_map {β : Type} {fg : D → En → Option En} {fb : Fs} (enc : β → D) (I : List β → En → Prop) (C : Out → Prop)
    (h : ∀ x xs ρ, I (x :: xs) ρ → ∃ ρ1, fg (enc x) ρ = some ρ1 ∧ stepO (I xs) C (fb ρ1)) (hn : ∀ ρ, I [] ρ → C (.nx ρ)) (xs : List β) (ρ : En) (hi : I xs ρ) : C (sLoop fg fb (xs.map enc) ρ) := by
  refine sLoop_rel (fun ds ρ => ∃ xs, ds = xs.map enc ∧ I xs ρ) C ?_ ?_ _ ρ ⟨xs, rfl, hi⟩
  · rintro d ds ρ ⟨xs, e, i⟩
    cases xs with
    | nil => cases e
    | cons x xs =>
      cases e
      obtain ⟨ρ1, h1, h2⟩ := h x xs ρ i
      refine ⟨ρ1, h1, ?_⟩
      generalize fb ρ1 = o at h2 ⊢
      cases o with
      | nx ρ2 => exact ⟨xs, rfl, h2⟩
      | ct ρ2 => exact ⟨xs, rfl, h2⟩
      | bk ρ2 => exact h2
      | rt v ρ2 => exact h2
      | err c fs => exact h2
      | no => exact h2
  · rintro ρ ⟨xs, e, i⟩
    cases xs with
    | nil => exact hn ρ i
    | cons x xs => cases e
/-- a body that only goes on, its states in a type of their own -/
theorem sLoop_fold {β α : Type} {fg : D → En → Option En} {fb : Fs} (enc : β → D) (st : α → En) (f : α → β → α) (J : List β → α → Prop)
    (h : ∀ x xs a, J (x :: xs) a → ∃ ρ1, fg (enc x) (st a) = some ρ1 ∧ fb ρ1 = .nx (st (f a x)) ∧ J xs (f a x)) : ∀ (xs : List β) (a : α), J xs a → sLoop fg fb (xs.map enc) (st a) = .nx (st (xs.foldl f a)) ∧ J [] (xs.foldl f a)
  | [], a, j => ⟨rfl, j⟩
  | x :: xs, a, j => by
    obtain ⟨ρ1, h1, h2, h3⟩ := h x xs a j
    have ih := sLoop_fold enc st f J h xs _ h3
    refine ⟨?_, ih.2⟩
    show sLoop fg fb (enc x :: xs.map enc) (st a) = _
    unfold sLoop
    rw [h1]
    simp only [h2]
    exact ih.1
theorem sLoopB_rel {j : Nat} {fb : Fs} (I : List (List D) → En → Prop) (C : Out → Prop)
    (h : ∀ d ds ρ, I (d :: ds) ρ → stepO (I ds) C (fb (ρ.set j (.ow d)))) (hn : ∀ ρ, I [] ρ → C (.nx ρ)) : ∀ ds ρ, I ds ρ → C (sLoopB j fb ds ρ)
  | [], ρ, i => hn ρ i
  | d :: ds, ρ, i => by
    have h2 := h d ds ρ i
    unfold sLoopB
    generalize e : fb (ρ.set j (.ow d)) = o at h2 ⊢
    cases o with
    | nx ρ2 => exact sLoopB_rel I C h hn ds ρ2 h2
    | ct ρ2 => exact sLoopB_rel I C h hn ds ρ2 h2
    | bk ρ2 => exact h2
    | rt v ρ2 => exact h2
    | err c fs => exact h2
    | no => exact h2
/-- a comprehension whose parts read the state alone -/
theorem lcLoop_fm {β : Type} {fg : D → En → Option En} {ft : Ft} {fe : Fd} {vs : List Nat} (enc : β → D) (p : β → Bool) (g : β → D) (ρ : En) : ∀ (xs : List β) (acc : List D), acc.length + xs.length ≤ 1000000 →
    (∀ x ∈ xs, ∃ ρ1 ρ2, fg (enc x) ρ = some ρ1 ∧ ft ρ1 = .ok (p x, ρ2) ∧ (p x = false → wipeE ρ2 vs = ρ) ∧ (p x = true → ∃ ρ3, fe ρ2 = .ok (g x, ρ3) ∧ wipeE ρ3 vs = ρ)) →
    lcLoop fg ft fe vs (xs.map enc) ρ acc = .ok (acc ++ (xs.filter p).map g, ρ)
  | [], acc, _, _ => by simp [lcLoop]
  | x :: xs, acc, hl, h => by
    obtain ⟨ρ1, ρ2, h1, h2, h3, h4⟩ := h x (by simp)
    show lcLoop fg ft fe vs (enc x :: xs.map enc) ρ acc = _
    unfold lcLoop
    rw [h1]
    simp only [h2]
    cases e : p x with
    | false =>
      simp only
      rw [h3 e, lcLoop_fm enc p g ρ xs acc (by simp at hl; omega) fun y hy => h y (by simp [hy])]
      simp [e]
    | true =>
      obtain ⟨ρ3, h5, h6⟩ := h4 e
      simp only [h5]
      rw [if_pos (szOk_of (by simp at hl; omega)), h6, lcLoop_fm enc p g ρ xs _ (by simp at hl ⊢; omega) fun y hy => h y (by simp [hy])]
      simp [e]
theorem lcLoop_m {β : Type} {fg : D → En → Option En} {fe : Fd} {vs : List Nat} (enc : β → D) (g : β → D) (ρ : En) (xs : List β) (hl : xs.length ≤ 1000000)
    (h : ∀ x ∈ xs, ∃ ρ1 ρ3, fg (enc x) ρ = some ρ1 ∧ fe ρ1 = .ok (g x, ρ3) ∧ wipeE ρ3 vs = ρ) :
    lcLoop fg (fun ρ => .ok (true, ρ)) fe vs (xs.map enc) ρ [] = .ok (xs.map g, ρ) := by
  have := lcLoop_fm (vs := vs) (fg := fg) (ft := fun ρ => .ok (true, ρ)) (fe := fe) enc (fun _ => true) g ρ xs [] (by simpa using hl) fun x hx => by
    obtain ⟨ρ1, ρ3, h1, h2, h3⟩ := h x hx
    exact ⟨ρ1, ρ1, h1, rfl, fun e => (Bool.noConfusion e), fun _ => ⟨ρ3, h2, h3⟩⟩
  rw [this, List.filter_eq_self.mpr fun _ _ => rfl]
  simp
@[simp] theorem dLc_ap (fi : Fa) (fg : D → En → Option En) (ft : Ft) (fe : Fd) (vs : List Nat) (ρ : En) : dLc fi fg ft fe vs ρ = (fi ρ).bind fun p => (lcLoop fg ft fe vs p.1 (wipeE p.2 vs) []).bind fun q => .ok (.fr q.1, backE p.2 q.2 vs) := id rfl
theorem dLc_m {β : Type} {fi : Fa} {fg : D → En → Option En} {fe : Fd} {vs : List Nat} {ρ ρ1 : En} (enc : β → D) (g : β → D) (xs : List β) (hi : fi ρ = .ok (xs.map enc, ρ1)) (hl : xs.length ≤ 1000000)
    (h : ∀ x ∈ xs, ∃ ρa ρb, fg (enc x) (wipeE ρ1 vs) = some ρa ∧ fe ρa = .ok (g x, ρb) ∧ wipeE ρb vs = wipeE ρ1 vs) : dLc fi fg (fun ρ => .ok (true, ρ)) fe vs ρ = .ok (.fr (xs.map g), backE ρ1 (wipeE ρ1 vs) vs) := by
  unfold dLc
  rw [hi, Res.bind_ok]
  simp only
  rw [lcLoop_m enc g _ xs hl h]
  rfl
theorem dLc_fm {β : Type} {fi : Fa} {fg : D → En → Option En} {ft : Ft} {fe : Fd} {vs : List Nat} {ρ ρ1 : En} (enc : β → D) (p : β → Bool) (g : β → D) (xs : List β) (hi : fi ρ = .ok (xs.map enc, ρ1)) (hl : xs.length ≤ 1000000)
    (h : ∀ x ∈ xs, ∃ ρa ρb, fg (enc x) (wipeE ρ1 vs) = some ρa ∧ ft ρa = .ok (p x, ρb) ∧ (p x = false → wipeE ρb vs = wipeE ρ1 vs) ∧ (p x = true → ∃ ρc, fe ρb = .ok (g x, ρc) ∧ wipeE ρc vs = wipeE ρ1 vs)) : dLc fi fg ft fe vs ρ = .ok (.fr ((xs.filter p).map g), backE ρ1 (wipeE ρ1 vs) vs) := by
  unfold dLc
  rw [hi, Res.bind_ok]
  simp only
  rw [lcLoop_fm enc p g _ xs [] (by simpa using hl) h]
  rfl
def bkS : Sl → Sl
  | .sh d => .sh d
  | _ => .no
theorem sSeq_of {a b : Fs} {ρ ρ' : En} (h : a ρ = .nx ρ') : sSeq a b ρ = b ρ' := by rw [sSeq_ap, h]; rfl
def enc2 (p : Nat × D) : D := .tuple [.int (p.1 : Nat), p.2]
theorem enumD_eq (ds : List D) : enumD ds = ((List.range ds.length).map fun i => (i, ds.getD i .none)).map enc2 := by
  simp [enumD, enc2, Function.comp_def]
theorem rngD_nat (n : Nat) : rngD 0 (n : Int) = (List.range n).map fun i : Nat => .int (i : Int) := by
  simp [rngD]
@[simp] theorem sForB_ap (n : Nat) (F : List D → Option (List (List D))) (fa : Fa) (j : Nat) (fb : Fs) (ρ : En) : sForB n F fa j fb ρ = onR (fa ρ) fun ds ρ1 => if ds.length = n then (match F ds with
  | some bss => sLoopB j fb bss ρ1
  | none => .no) else .no := id rfl
@[simp] theorem sSet_ap (i : Nat) (fe fk : Fd) (ρ : En) : sSet i fe fk ρ = onR (fe ρ) fun d ρ1 => if isL ρ1 i = true then onR (fk ρ1) fun k ρ2 => match k with
  | .int k => updOut (updL i (fun ds => (ixN ds.length k).map fun j => ((), ds.set j d)) ρ2)
  | _ => .no
  else .no := by
  unfold sSet
  congr 1
@[simp] theorem dCallB0_ap (n : Nat) (F : List D → List D → Res (Rv × List D)) (i : Nat) (f : Fa) (ρ : En) : dCallB0 n F i f ρ = if isL ρ i = true then (f ρ).bind fun p => if p.1.length + 1 = n then (match p.2[i]? with
  | some s => (match lstOf s with
    | some bs => (noErr (F bs p.1)).bind fun q => .ok (q.1, p.2.set i (putSl s q.2))
    | none => .no)
  | none => .no) else .no else .no := id rfl
end DL

set_option Elab.async false
set_option linter.all false
set_option maxRecDepth 100000
set_option maxHeartbeats 4000000
/-! which data may be compared; equality of encoded data -/
namespace DL
open PySem PySem.Spec PyProof.Rows L2
variable [Wr]
def okN (n : Nat) (d : D) : Bool := plainD d && PyData.canLay0 d && decide (d.depth ≤ n)
theorem okD_of {n : Nat} {d : D} (h : okN n d = true) (hn : n ≤ 64) : okD d = true := by
  unfold okN at h
  rw [Bool.and_eq_true, Bool.and_eq_true] at h
  have := of_decide_eq_true h.2
  unfold okD SeqAt.shaped
  rw [h.1.1, h.1.2, decide_eq_true (show d.depth ≤ 64 by omega)]
  rfl
theorem okN_mono {n m : Nat} {d : D} (h : okN n d = true) (hn : n ≤ m) : okN m d = true := by
  unfold okN at h ⊢
  rw [Bool.and_eq_true, Bool.and_eq_true] at h
  have := of_decide_eq_true h.2
  rw [h.1.1, h.1.2, decide_eq_true (show d.depth ≤ m by omega)]
  rfl
theorem okN_int (n : Nat) (i : Int) : okN n (.int i) = true := by simp [okN, plainD, PyData.canLay0, PyData.depth]
theorem okN_bool (n : Nat) (i : Bool) : okN n (.bool i) = true := by simp [okN, plainD, PyData.canLay0, PyData.depth]
theorem okN_none (n : Nat) : okN n .none = true := by simp [okN, plainD, PyData.canLay0, PyData.depth]
theorem okN_str (n : Nat) {x : Str} (h : PyData.strOk x = true) : okN n (.str x) = true := by simp [okN, plainD, PyData.canLay0, PyData.depth, h]
theorem okL_aux {n : Nat} : ∀ {xs : List D}, (∀ x ∈ xs, okN n x = true) → plainL xs = true ∧ PyData.canLayAll0 xs = true ∧ PyData.depthAll xs ≤ n
  | [], _ => ⟨rfl, rfl, Nat.zero_le n⟩
  | x :: xs, h => by
    have h1 := h x (by simp)
    obtain ⟨a, b, c⟩ := okL_aux (xs := xs) fun y hy => h y (by simp [hy])
    unfold okN at h1
    rw [Bool.and_eq_true, Bool.and_eq_true] at h1
    have := of_decide_eq_true h1.2
    exact ⟨by simp [plainL, h1.1.1, a], by simp [PyData.canLayAll0, h1.1.2, b], by simp only [PyData.depthAll]; omega⟩
theorem okN_list {n : Nat} {xs : List D} (h : ∀ x ∈ xs, okN n x = true) : okN (n + 1) (.list xs) = true := by
  obtain ⟨a, b, c⟩ := okL_aux h
  simp [okN, plainD, PyData.canLay0, PyData.depth, a, b, c]
theorem okN_tuple {n : Nat} {xs : List D} (h : ∀ x ∈ xs, okN n x = true) : okN (n + 1) (.tuple xs) = true := by
  obtain ⟨a, b, c⟩ := okL_aux h
  simp [okN, plainD, PyData.canLay0, PyData.depth, a, b, c]
theorem okN_mapL {α : Type} {n : Nat} {e : α → D} (h : ∀ a, okN n (e a) = true) (xs : List α) : okN (n + 1) (.list (xs.map e)) = true :=
  okN_list fun x hx => by obtain ⟨a, _, rfl⟩ := List.mem_map.mp hx; exact h a
theorem okN_mapT {α : Type} {n : Nat} {e : α → D} (h : ∀ a, okN n (e a) = true) (xs : List α) : okN (n + 1) (.tuple (xs.map e)) = true :=
  okN_tuple fun x hx => by obtain ⟨a, _, rfl⟩ := List.mem_map.mp hx; exact h a
/-- data of one kind, equal only to themselves -/
def EqE {α : Type} [DecidableEq α] (e : α → D) : Prop := ∀ a b, PyData.eqv (e a) (e b) = decide (a = b)
theorem eqE_int : EqE PyData.int := fun a b => by simp [PyData.eqv, Bool.beq_eq_decide_eq]
theorem eqE_all {α : Type} [DecidableEq α] {e : α → D} (h : EqE e) : ∀ xs ys : List α, PyData.eqvAll (xs.map e) (ys.map e) = decide (xs = ys)
  | [], [] => rfl
  | [], y :: ys => rfl
  | x :: xs, [] => rfl
  | x :: xs, y :: ys => by
    simp only [List.map_cons, PyData.eqvAll, h x y, eqE_all h xs ys, List.cons.injEq, Bool.decide_and]
theorem eqE_list {α : Type} [DecidableEq α] {e : α → D} (h : EqE e) : EqE fun xs : List α => PyData.list (xs.map e) := fun a b => by
  simp only [PyData.eqv]
  exact eqE_all h a b
theorem eqE_tuple {α : Type} [DecidableEq α] {e : α → D} (h : EqE e) : EqE fun xs : List α => PyData.tuple (xs.map e) := fun a b => by
  simp only [PyData.eqv]
  exact eqE_all h a b
theorem dEq_of {d e : D} (h1 : okD d = true) (h2 : okD e = true) : dEq d e = some (.sh (.bool (PyData.eqv d e))) := by
  unfold dEq
  rw [h1, h2]
  rfl
theorem dNe_of {d e : D} (h1 : okD d = true) (h2 : okD e = true) : dNe d e = some (.sh (.bool (!PyData.eqv d e))) := by
  unfold dNe
  rw [h1, h2]
  rfl
theorem okD_ints (ns : List Int) : okD (.list (ns.map .int)) = true := okD_of (okN_mapL (n := 0) (okN_int 0) ns) (by decide)
theorem dEq_ints (a b : List Int) : dEq (.list (a.map .int)) (.list (b.map .int)) = some (.sh (.bool (decide (a = b)))) := by
  rw [dEq_of (okD_ints a) (okD_ints b)]
  exact congrArg (fun x => some (Rv.sh (.bool x))) (eqE_list eqE_int a b)
theorem dNe_ints (a b : List Int) : dNe (.list (a.map .int)) (.list (b.map .int)) = some (.sh (.bool (!decide (a = b)))) := by
  rw [dNe_of (okD_ints a) (okD_ints b)]
  exact congrArg (fun x => some (Rv.sh (.bool (!x)))) (eqE_list eqE_int a b)
end DL

set_option Elab.async false
set_option linter.all false
set_option maxRecDepth 100000
set_option maxHeartbeats 4000000
/-! evaluation, further -/
namespace DL
open PySem PySem.Spec PyProof.Rows L2
variable [Wr]
def wpO (js : List Nat) : Out → Out
  | .nx ρ => .nx (wipeE ρ js)
  | o => o
@[simp] theorem wpO_nx (js : List Nat) (ρ : En) : wpO js (.nx ρ) = .nx (wipeE ρ js) := id rfl
@[simp] theorem wpO_rt (js : List Nat) (v : Rv) (ρ : En) : wpO js (.rt v ρ) = .rt v ρ := id rfl
@[simp] theorem wpO_err (js : List Nat) (c : Str) (fs : List V) : wpO js (.err c fs) = .err c fs := id rfl
@[simp] theorem sWp_ap (js : List Nat) (f : Fs) (ρ : En) : sWp js f ρ = wpO js (f ρ) := by
  unfold sWp wpO
  cases f ρ <;> rfl
@[simp] theorem wipeE_nil (ρ : En) : wipeE ρ [] = ρ := id rfl
@[simp] theorem wipeE_cons (ρ : En) (v : Nat) (vs : List Nat) : wipeE ρ (v :: vs) = (wipeE ρ vs).set v .no := id rfl
@[simp] theorem dS_ap (f : Fe) (ρ : En) : dS f ρ = (dSh f ρ).bind fun p => .ok (.sh p.1, p.2) := id rfl
@[simp] theorem backE_nil (ρ0 ρ : En) : backE ρ0 ρ [] = ρ := id rfl
def bkO : Option Sl → Sl
  | some (.sh d) => .sh d
  | _ => .no
@[simp] theorem bkO_sh (d : D) : bkO (some (.sh d)) = .sh d := id rfl
@[simp] theorem bkO_no : bkO (some .no) = .no := id rfl
@[simp] theorem bkO_ow (d : List D) : bkO (some (.ow d)) = .no := id rfl
@[simp] theorem backE_cons (ρ0 ρ : En) (v : Nat) (vs : List Nat) : backE ρ0 ρ (v :: vs) = (backE ρ0 ρ vs).set v (bkO ρ0[v]?) := by
  conv => lhs; unfold backE
  unfold bkO
  rfl
@[simp] theorem dSortSet_ap (fa : Fd) (ρ : En) : dSortSet fa ρ = (fa ρ).bind fun p => optR (sortSetD p.1) p.2 := id rfl
@[simp] theorem dLenSet_ap (fa : Fd) (ρ : En) : dLenSet fa ρ = (fa ρ).bind fun p => optR (lenSetD p.1) p.2 := id rfl
@[simp] theorem dLstRg_ap (f : En → Res ((Int × Int) × En)) (ρ : En) : dLstRg f ρ = (f ρ).bind fun p => if rgOkD p.1.1 p.1.2 = true then .ok (.fr (rngD p.1.1 p.1.2), p.2) else .no := id rfl
@[simp] theorem dTupRg_ap (f : En → Res ((Int × Int) × En)) (ρ : En) : dTupRg f ρ = (f ρ).bind fun p => if rgOkD p.1.1 p.1.2 = true then .ok (.sh (.tuple (rngD p.1.1 p.1.2)), p.2) else .no := id rfl
@[simp] theorem rg1F_ap (f : Fd) (ρ : En) : rg1F f ρ = (f ρ).bind fun p => match p.1 with
  | .int n => .ok (((0 : Int), n), p.2)
  | _ => .no := id rfl
@[simp] theorem dSortIF_ints (ns : List Int) : dSortIF [.list (ns.map .int)] = some (.fr ((srtI ns).map .int)) := by simp [dSortIF]
@[simp] theorem dSl_ap (fa : Fd) (fl fh : Fo) (ρ : En) : dSl fa fl fh ρ = (fa ρ).bind fun p => (fl p.2).bind fun l => (fh l.2).bind fun h => optR (slcD p.1 l.1 h.1) h.2 := id rfl
@[simp] theorem slcD_list (ds : List D) (lo hi : Option Int) : slcD (.list ds) lo hi = some (.fr (cutD ds lo hi)) := id rfl
@[simp] theorem slcD_tuple (ds : List D) (lo hi : Option Int) : slcD (.tuple ds) lo hi = some (.sh (.tuple (cutD ds lo hi))) := id rfl
@[simp] theorem dNoPart_ap (ρ : En) : dNoPart ρ = .ok (none, ρ) := id rfl
@[simp] theorem dPart_ap (f : Fd) (ρ : En) : dPart f ρ = (f ρ).bind iOf := id rfl
@[simp] theorem iOf_int (i : Int) (ρ : En) : iOf (.int i, ρ) = .ok (some i, ρ) := id rfl
@[simp] theorem dZip_ap (f : Fa) (ρ : En) : dZip f ρ = (f ρ).bind fun p => optL (zipOf p.1) p.2 := id rfl
@[simp] theorem zipOf_tuple (ds es : List D) : zipOf [.tuple ds, .tuple es] = some (zipD ds es) := id rfl
@[simp] theorem zipOf_list (ds es : List D) : zipOf [.list ds, .list es] = some (zipD ds es) := id rfl
@[simp] theorem seqOf_str (z : Str) : seqOf (.str z) = some (z.cps.toList.map fun c => .str ⟨#[c]⟩) := id rfl
@[simp] theorem dLen_str (z : Str) : dLen [.str z] = if szOk z.length = true then some (.sh (.int (z.length : Nat))) else none := by
  show (if szOk z.length = true then some z.length else none).map _ = _
  split <;> rfl
@[simp] theorem dNewD_ap (ρ : En) : dNewD ρ = .ok (.fk [], ρ) := id rfl
def optN : Option En → Out
  | some ρ => .nx ρ
  | none => .no
@[simp] theorem optN_some (ρ : En) : optN (some ρ) = .nx ρ := id rfl
@[simp] theorem sUnp_ap (fg : D → En → Option En) (f : Fd) (ρ : En) : sUnp fg f ρ = onR (f ρ) fun d ρ1 => optN (fg d ρ1) := by
  unfold sUnp
  congr 1
@[simp] theorem dNotB_bool (a b : Bool) : dNotB (.bool a) (.bool b) = some (.sh (.bool (!decide (a = b)))) := id rfl
@[simp] theorem dIsB_bool (a b : Bool) : dIsB (.bool a) (.bool b) = some (.sh (.bool (decide (a = b)))) := id rfl
@[simp] theorem dCallF_ap (n : Nat) (F : List D → Res Rv) (f : Fa) (ρ : En) : dCallF n F f ρ = (f ρ).bind fun p => if p.1.length = n then (F p.1).bind fun rv => .ok (rv, p.2) else .no := id rfl
@[simp] theorem sRaise_ap (c : Str) (ρ : En) : sRaise c ρ = .err c [] := id rfl
@[simp] theorem seqO_err (c : Str) (fs : List V) (b : Fs) : seqO (.err c fs) b = .err c fs := id rfl
@[simp] theorem onR_err {α : Type} (c : Str) (fs : List V) (k : α → En → Out) : onR (.err c fs : Res (α × En)) k = .err c fs := id rfl
@[simp] theorem outP_err (c : Str) (fs : List V) : outP (.err c fs) = .err c fs := id rfl
@[simp] theorem dIsiO_ap (T : String) (i : Nat) (ρ : En) : dIsiO T i ρ = match ρ[i]?.bind slD with
  | some d => optR (bRv (isiD T d)) ρ
  | none => .no := id rfl
@[simp] theorem dLam_ap (i : Nat) (ρ : En) : dLam i ρ = .ok (.sh (lamD i), ρ) := id rfl
/-! loops -/
theorem sLoop_ex {β α : Type} {fg : D → En → Option En} {fb : Fs} (enc : β → D) (st : α → En) (J : List β → α → Prop)
    (h : ∀ x xs a, J (x :: xs) a → ∃ ρ1 a', fg (enc x) (st a) = some ρ1 ∧ fb ρ1 = .nx (st a') ∧ J xs a') : ∀ (xs : List β) (a : α), J xs a → ∃ a', sLoop fg fb (xs.map enc) (st a) = .nx (st a') ∧ J [] a'
  | [], a, j => ⟨a, rfl, j⟩
  | x :: xs, a, j => by
    obtain ⟨ρ1, a', h1, h2, h3⟩ := h x xs a j
    obtain ⟨a'', h4, h5⟩ := sLoop_ex enc st J h xs a' h3
    refine ⟨a'', ?_, h5⟩
    show sLoop fg fb (enc x :: xs.map enc) (st a) = _
    unfold sLoop
    rw [h1]
    simp only [h2]
    exact h4
theorem sLoop_const {β : Type} {fg : D → En → Option En} {fb : Fs} (enc : β → D) (ρ : En) : ∀ (xs : List β), (∀ x ∈ xs, ∃ ρ1, fg (enc x) ρ = some ρ1 ∧ fb ρ1 = .nx ρ) → sLoop fg fb (xs.map enc) ρ = .nx ρ
  | [], _ => rfl
  | x :: xs, h => by
    obtain ⟨ρ1, h1, h2⟩ := h x (by simp)
    show sLoop fg fb (enc x :: xs.map enc) ρ = _
    unfold sLoop
    rw [h1]
    simp only [h2]
    exact sLoop_const enc ρ xs fun y hy => h y (by simp [hy])
theorem sWhile_ex {α : Type} {ft : Ft} {fb : Fs} (st : α → En) (I : α → Prop) (μ : α → Nat) (Dn : α → Prop)
    (h : ∀ a, I a → (ft (st a) = .ok (false, st a) ∧ Dn a) ∨ ∃ a', ft (st a) = .ok (true, st a) ∧ fb (st a) = .nx (st a') ∧ I a' ∧ μ a' < μ a) : ∀ (n : Nat) (a : α), I a → μ a < n → ∃ a', sWhile ft fb n (st a) = .nx (st a') ∧ I a' ∧ Dn a'
  | 0, a, _, hn => absurd hn (Nat.not_lt_zero _)
  | n + 1, a, i, hn => by
    rcases h a i with ⟨h1, h2⟩ | ⟨a', h1, h2, h3, h4⟩
    · refine ⟨a, ?_, i, h2⟩
      unfold sWhile
      rw [h1]
      rfl
    · obtain ⟨a'', h5, h6⟩ := sWhile_ex st I μ Dn h n a' h3 (by omega)
      refine ⟨a'', ?_, h6⟩
      unfold sWhile
      rw [h1, onR_ok, if_pos rfl, h2]
      exact h5
/-! comprehensions that leave the names as they are -/
theorem lc_m {β : Type} {fi : Fa} {fg : D → En → Option En} {fe : Fd} {vs : List Nat} {ρ : En} (enc : β → D) (g : β → D) (xs : List β) (hi : fi ρ = .ok (xs.map enc, ρ)) (hl : xs.length ≤ 1000000)
    (h : ∀ x ∈ xs, ∃ ρa, fg (enc x) (wipeE ρ vs) = some ρa ∧ fe ρa = .ok (g x, ρa) ∧ wipeE ρa vs = wipeE ρ vs) : dLc fi fg (fun ρ => .ok (true, ρ)) fe vs ρ = .ok (.fr (xs.map g), backE ρ (wipeE ρ vs) vs) := dLc_m enc g xs hi hl fun x hx => by
    obtain ⟨ρa, h1, h2, h3⟩ := h x hx
    exact ⟨ρa, ρa, h1, h2, h3⟩
theorem lc_fm {β : Type} {fi : Fa} {fg : D → En → Option En} {ft : Ft} {fe : Fd} {vs : List Nat} {ρ : En} (enc : β → D) (p : β → Bool) (g : β → D) (xs : List β) (hi : fi ρ = .ok (xs.map enc, ρ)) (hl : xs.length ≤ 1000000)
    (h : ∀ x ∈ xs, ∃ ρa, fg (enc x) (wipeE ρ vs) = some ρa ∧ ft ρa = .ok (p x, ρa) ∧ wipeE ρa vs = wipeE ρ vs ∧ (p x = true → fe ρa = .ok (g x, ρa))) : dLc fi fg ft fe vs ρ = .ok (.fr ((xs.filter p).map g), backE ρ (wipeE ρ vs) vs) :=
  dLc_fm enc p g xs hi hl fun x hx => by
    obtain ⟨ρa, h1, h2, h3, h4⟩ := h x hx
    exact ⟨ρa, ρa, h1, h2, fun _ => h3, fun z => ⟨ρa, h4 z, h3⟩⟩
theorem lc_fm1 {β : Type} {fi : Fa} {fg : D → En → Option En} {ft : Ft} {fe : Fd} {vs : List Nat} {ρ : En} (enc : β → D) (p : β → Bool) (g : β → D) (xs : List β) (ρ1 : En) (hi : fi ρ = .ok (xs.map enc, ρ1)) (hl : xs.length ≤ 1000000)
    (h : ∀ x ∈ xs, ∃ ρa, fg (enc x) (wipeE ρ1 vs) = some ρa ∧ ft ρa = .ok (p x, ρa) ∧ wipeE ρa vs = wipeE ρ1 vs ∧ (p x = true → fe ρa = .ok (g x, ρa))) : dLc fi fg ft fe vs ρ = .ok (.fr ((xs.filter p).map g), backE ρ1 (wipeE ρ1 vs) vs) :=
  dLc_fm enc p g xs hi hl fun x hx => by
    obtain ⟨ρa, h1, h2, h3, h4⟩ := h x hx
    exact ⟨ρa, ρa, h1, h2, fun _ => h3, fun z => ⟨ρa, h4 z, h3⟩⟩
/- small data without marks -/
mutual
def smD : D → Bool
  | .none => true
  | .bool _ => true
  | .int _ => true
  | .str x => szOk x.length
  | .list xs => szOk xs.length && smL xs
  | .tuple xs => szOk xs.length && smL xs
  | .dict _ => false
def smL : List D → Bool
  | [] => true
  | x :: xs => smD x && smL xs
end
theorem smL_iff : ∀ {ds : List D}, smL ds = true ↔ ∀ d ∈ ds, smD d = true
  | [] => by simp [smL]
  | d :: ds => by simp [smL, smL_iff]
theorem smD_tup {ds : List D} : smD (.tuple ds) = true ↔ ds.length ≤ 1000000 ∧ ∀ d ∈ ds, smD d = true := by
  simp [smD, szOk, smL_iff]
theorem smD_lst {ds : List D} : smD (.list ds) = true ↔ ds.length ≤ 1000000 ∧ ∀ d ∈ ds, smD d = true := by
  simp [smD, szOk, smL_iff]
end DL

set_option Elab.async false
set_option linter.all false
set_option maxRecDepth 100000
set_option maxHeartbeats 4000000
/-! evaluation of what Dl22 adds -/
namespace DL
open PySem PySem.Spec PyProof.Rows L2
variable [Wr]
@[simp] theorem dRev_ap (fa : Fd) (ρ : En) : dRev fa ρ = (fa ρ).bind fun p => optR (revD p.1) p.2 := id rfl
@[simp] theorem revD_list (ds : List D) : revD (.list ds) = some (.fr ds.reverse) := id rfl
@[simp] theorem revD_tuple (ds : List D) : revD (.tuple ds) = some (.sh (.tuple ds.reverse)) := id rfl
@[simp] theorem dReprF_bool (b : Bool) : dReprF [.bool b] = some (.sh (.str (if b then "True" else "False"))) := id rfl
@[simp] theorem dMulT_ap (ds : List D) (k : Int) : dMulT (.tuple ds) (.int k) = if (decide (0 < ds.length) && decide (ds.length ≤ 1000) && decide (2 ≤ k) && decide (k ≤ 1000)) = true then some (.sh (.tuple (List.replicate k.toNat ds).flatten)) else none := id rfl
def insO (i : Nat) (k d : D) (ρ : En) : Out := match k with
  | .int k => if (decide (0 ≤ k) && s62 k) = true then updOut (updL i (fun ds => if szOk ds.length = true then some ((), ds.take k.toNat ++ [d] ++ ds.drop k.toNat) else none) ρ) else .no
  | _ => .no
@[simp] theorem insO_int (i : Nat) (k : Int) (d : D) (ρ : En) : insO i (.int k) d ρ = if (decide (0 ≤ k) && s62 k) = true then updOut (updL i (fun ds => if szOk ds.length = true then some ((), ds.take k.toNat ++ [d] ++ ds.drop k.toNat) else none) ρ) else .no := id rfl
@[simp] theorem sIns_ap (i : Nat) (fa fb : Fd) (ρ : En) : sIns i fa fb ρ = if isL ρ i = true then onR (fa ρ) fun k ρ1 => onR (fb ρ1) fun d ρ2 => insO i k d ρ2 else .no := by
  unfold sIns insO updOut
  rfl
def setO (i : Nat) (k d : D) (c : En → Out) (ρ : En) : Out := match k with
  | .int k => (match updL i (fun ds => (ixN ds.length k).map fun j => ((), ds.set j d)) ρ with
    | some p => c p.2
    | none => .no)
  | _ => .no
@[simp] theorem setK_ap (i : Nat) (fk : Fd) (d : D) (c : En → Out) (ρ : En) : setK i fk d c ρ = if isL ρ i = true then onR (fk ρ) fun k ρ2 => setO i k d c ρ2 else .no := by
  unfold setK setO
  rfl
theorem setO_int (i : Nat) (k : Int) (d : D) (c : En → Out) (ρ : En) (s : Sl) (ds : List D) (j : Nat) (e : ρ[i]? = some s) (h : lstOf s = some ds) (hj : ixN ds.length k = some j) : setO i (.int k) d c ρ = c (ρ.set i (putSl s (ds.set j d))) := by
  unfold setO updL
  simp only [e, h, Option.bind_some, hj, Option.map_some]
def swapO (i : Nat) (fa fb : Fd) (d : D) (ρ : En) : Out := match d with
  | .tuple [d1, d2] => setK i fa d1 (setK i fb d2 .nx) ρ
  | _ => .no
@[simp] theorem swapO_two (i : Nat) (fa fb : Fd) (d1 d2 : D) (ρ : En) : swapO i fa fb (.tuple [d1, d2]) ρ = setK i fa d1 (setK i fb d2 .nx) ρ := id rfl
@[simp] theorem sSwap_ap (i : Nat) (fv fa fb : Fd) (ρ : En) : sSwap i fv fa fb ρ = onR (fv ρ) fun d ρ1 => swapO i fa fb d ρ1 := by
  unfold sSwap swapO
  rfl
end DL

set_option Elab.async false
set_option linter.all false
set_option maxRecDepth 100000
set_option maxHeartbeats 4000000
/-! evaluation of what Dl23 adds -/
namespace DL
open PySem PySem.Spec PyProof.Rows L2
variable [Wr]
@[simp] theorem dSortN_list (ds : List D) : dSortN [.list ds] = (allOf nrowOf ds).map fun ks => .fr ((srtW SX.lexN ks).map eNRow) := id rfl
@[simp] theorem dSortR_list (ds : List D) : dSortR [.list ds] = (allOf rowOf ds).map fun ks => .fr ((srtW HT.lexLt ks).map eRow) := id rfl
@[simp] theorem dSortRO_ap (i : Nat) (ρ : En) : dSortRO i ρ = match ρ[i]?.bind slD with
  | some d => optR (dSortR [d]) ρ
  | none => .no := id rfl
@[simp] theorem dDictF_list (ds : List D) : dDictF [.list ds] = (allOf pairOf ds).map fun ps => .fk (mergeD [] ps) := id rfl
@[simp] theorem dGetD_ap (i : Nat) (fk : Fd) (ρ : En) : dGetD i fk ρ = if isDc ρ i = true then (fk ρ).bind fun p => (match keyOf p.1, p.2[i]? with
  | some k, some (.od kvs) => (match getK kvs k with
    | some d => .ok (.sh d, p.2)
    | none => .no)
  | _, _ => .no) else .no := id rfl
@[simp] theorem dSlO_ap (i : Nat) (fl fh : Fo) (ρ : En) : dSlO i fl fh ρ = if isL ρ i = true then (fl ρ).bind fun l => (fh l.2).bind fun h => (match h.2[i]?.bind lstOf with
  | some ds => .ok (.fr (cutD ds l.1 h.1), h.2)
  | none => .no) else .no := id rfl
/-- a loop that looks for the first that fails -/
theorem sLoop_find {β : Type} {fg : D → En → Option En} {fb : Fs} (enc : β → D) (ρ : En) (p : β → Bool) (rv : Rv) : ∀ (xs : List β), (∀ x ∈ xs, ∃ ρ1 ρ2, fg (enc x) ρ = some ρ1 ∧ fb ρ1 = if p x = true then .nx ρ else .rt rv ρ2) → ∃ ρ', sLoop fg fb (xs.map enc) ρ = if xs.all p = true then .nx ρ else .rt rv ρ'
  | [], _ => ⟨ρ, rfl⟩
  | x :: xs, h => by
    obtain ⟨ρ1, ρ2, h1, h2⟩ := h x (by simp)
    obtain ⟨ρ', h3⟩ := sLoop_find enc ρ p rv xs fun y hy => h y (by simp [hy])
    rw [List.map_cons]
    unfold sLoop
    rw [h1]
    simp only
    rw [h2]
    by_cases q : p x = true
    · refine ⟨ρ', ?_⟩
      simp [q, h3]
    · refine ⟨ρ2, ?_⟩
      simp [q]
/-- a comprehension that changes the names' state -/
theorem lcLoop_ex {β α : Type} {fg : D → En → Option En} {ft : Ft} {fe : Fd} {vs : List Nat} (enc : β → D) (st : α → En) (J : List β → α → List D → Prop)
    (h : ∀ x xs a acc, J (x :: xs) a acc → ∃ ρ1 b ρ2 a', fg (enc x) (st a) = some ρ1 ∧ ft ρ1 = .ok (b, ρ2) ∧ (b = false → wipeE ρ2 vs = st a' ∧ J xs a' acc) ∧ (b = true → ∃ y ρ3, fe ρ2 = .ok (y, ρ3) ∧ wipeE ρ3 vs = st a' ∧ szOk acc.length = true ∧ J xs a' (acc ++ [y]))) :
    ∀ (xs : List β) (a : α) (acc : List D), J xs a acc → ∃ a' acc', lcLoop fg ft fe vs (xs.map enc) (st a) acc = .ok (acc', st a') ∧ J [] a' acc'
  | [], a, acc, hj => ⟨a, acc, rfl, hj⟩
  | x :: xs, a, acc, hj => by
    obtain ⟨ρ1, b, ρ2, a', h1, h2, h3, h4⟩ := h x xs a acc hj
    rw [List.map_cons]
    unfold lcLoop
    rw [h1]
    simp only
    rw [h2]
    cases b with
    | false =>
      obtain ⟨h5, h6⟩ := h3 rfl
      simp only
      rw [h5]
      exact lcLoop_ex enc st J h xs a' acc h6
    | true =>
      obtain ⟨y, ρ3, h5, h6, h7, h8⟩ := h4 rfl
      simp only
      rw [h5]
      simp only
      rw [if_pos h7, h6]
      exact lcLoop_ex enc st J h xs a' _ h8
end DL

set_option Elab.async false
set_option linter.all false
set_option maxRecDepth 100000
set_option maxHeartbeats 4000000
/-! evaluation of what Dl24 adds -/
namespace DL
open PySem PySem.Spec PyProof.Rows L2
variable [Wr]
theorem sForO_of {i : Nat} {fg : D → En → Option En} {fb : Fs} {ρ ρ' : En} {ds : List D} (h0 : ρ[i]? = some (.ow ds)) (h : ∀ l, sLoop fg fb ds (ρ.set i (.sh (adrD l))) = .nx (ρ'.set i (.sh (adrD l)))) : sForO i fg fb ρ = .nx (ρ'.set i (.ow ds)) := by
  unfold sForO
  rw [h0]
  exact unO_nx h
theorem dLcO_of {i : Nat} {fg : D → En → Option En} {ft : Ft} {fe : Fd} {vs : List Nat} {ρ ρ' : En} {ds : List D} {rv : Rv} (h0 : ρ[i]? = some (.ow ds)) (h : dLc (fun ρ => .ok (ds, ρ)) fg ft fe vs (ρ.set i .no) = .ok (rv, ρ')) : dLcO i fg ft fe vs ρ = .ok (rv, ρ'.set i (.ow ds)) := by
  unfold dLcO
  rw [h0]
  unfold dLc at h
  simp only [Res.bind_ok] at h
  cases e : lcLoop fg ft fe vs ds (wipeE (ρ.set i .no) vs) [] with
  | ok q =>
    rw [e] at h
    simp only [Res.bind_ok] at h ⊢
    injection h with h
    rw [Prod.mk.injEq] at h
    rw [← h.1, ← h.2]
    show Res.bind _ _ = _
    rw [e]
    rfl
  | err c fs => rw [e] at h; cases h
  | no => rw [e] at h; cases h
end DL

set_option Elab.async false
set_option linter.all false
set_option maxRecDepth 100000
set_option maxHeartbeats 4000000
/-! evaluation of what Dl25 adds -/
namespace DL
open PySem PySem.Spec PyProof.Rows L2
variable [Wr]
@[simp] theorem sRaise1_ap (c : Str) (fa : Fa) (ρ : En) : sRaise1 c fa ρ = match fa ρ with
  | .ok ([.int i], _) => .err c [.int i]
  | .ok ([.str x], _) => .err c [.str x]
  | _ => .no := id rfl
end DL

set_option Elab.async false
set_option linter.all false
set_option maxRecDepth 100000
set_option maxHeartbeats 4000000
/-! numbers, rows of numbers, slices -/
namespace DL
open PySem PySem.Spec PyProof.Rows L2
variable [Wr]
theorem cut1 {α : Type} (ds : List α) : cutD ds (some 1) none = ds.drop 1 := by
  unfold cutD HT.sIx
  cases ds with
  | nil => rfl
  | cons x ds => simp
theorem cut_to {α : Type} (xs : List α) (k : Nat) : cutD xs none (some (k : Int)) = xs.take k := by
  unfold cutD
  rw [HT.sIx_none, HT.sIx_nat, List.drop_zero, Nat.sub_zero]
  rcases Nat.le_total k xs.length with z | z
  · rw [Nat.min_eq_left z]
  · rw [Nat.min_eq_right z, List.take_of_length_le (Nat.le_refl _), List.take_of_length_le z]
theorem cut_from {α : Type} (xs : List α) (k : Nat) : cutD xs (some (k : Int)) none = xs.drop k := by
  unfold cutD
  rw [HT.sIx_none, HT.sIx_nat]
  rcases Nat.le_total k xs.length with z | z
  · rw [Nat.min_eq_left z, List.take_of_length_le (by simp)]
  · rw [Nat.min_eq_right z, List.drop_of_length_le (Nat.le_refl _), List.drop_of_length_le z]
    simp
theorem cut_from1 {α : Type} (xs : List α) (k : Nat) : cutD xs (some ((k : Int) + 1)) none = xs.drop (k + 1) := cut_from xs (k + 1)
def eN (n : Nat) : D := .int (n : Int)
def eT (l : List Nat) : D := .tuple (l.map eN)
theorem eqE_str : EqE PyData.str := fun a b => by
  simp only [PyData.eqv]
  by_cases h : a = b
  · simp [h]
  · simp [h]
theorem eqE_nat : EqE eN := fun a b => by
  simp [eN, PyData.eqv, Bool.beq_eq_decide_eq]
  omega
theorem any_eqE {α : Type} [DecidableEq α] {e : α → D} (h : EqE e) (x : α) : ∀ xs : List α, ((xs.map e).any fun z => PyData.eqv z (e x)) = decide (x ∈ xs)
  | [] => by simp
  | y :: xs => by
    rw [List.map_cons, List.any_cons, any_eqE h x xs, h y x]
    by_cases q : y = x
    · subst q; simp
    · have : ¬ x = y := fun z => q z.symm
      simp [q, this]
theorem flat_all {α : Type} {e : α → D} (h : ∀ x, flatD (e x) = true) (xs : List α) : (xs.map e).all flatD = true := by
  rw [List.all_map, List.all_eq_true]
  exact fun x _ => h x
theorem inD_list {α : Type} [DecidableEq α] {e : α → D} (h : EqE e) (hf : ∀ x, flatD (e x) = true) (x : α) (xs : List α) : inD (e x) (.list (xs.map e)) = some (decide (x ∈ xs)) := by
  simp only [inD, hf x, flat_all hf xs, Bool.and_self, if_true, any_eqE h x xs]
theorem inD_tup {α : Type} [DecidableEq α] {e : α → D} (h : EqE e) (hf : ∀ x, flatD (e x) = true) (x : α) (xs : List α) : inD (e x) (.tuple (xs.map e)) = some (decide (x ∈ xs)) := by
  simp only [inD, hf x, flat_all hf xs, Bool.and_self, if_true, any_eqE h x xs]
theorem dIn_natL (x : Nat) (xs : List Nat) : dIn (eN x) (.list (xs.map eN)) = some (.sh (.bool (decide (x ∈ xs)))) := by
  rw [dIn, inD_list eqE_nat (fun _ => rfl)]; rfl
theorem dIn_natT (x : Nat) (xs : List Nat) : dIn (eN x) (eT xs) = some (.sh (.bool (decide (x ∈ xs)))) := by
  rw [dIn, eT, inD_tup eqE_nat (fun _ => rfl)]; rfl
theorem dNotIn_natL (x : Nat) (xs : List Nat) : dNotIn (eN x) (.list (xs.map eN)) = some (.sh (.bool (!decide (x ∈ xs)))) := by
  rw [dNotIn, inD_list eqE_nat (fun _ => rfl)]; rfl
theorem dNotIn_natT (x : Nat) (xs : List Nat) : dNotIn (eN x) (eT xs) = some (.sh (.bool (!decide (x ∈ xs)))) := by
  rw [dNotIn, eT, inD_tup eqE_nat (fun _ => rfl)]; rfl
theorem dIn_strL (x : Str) (xs : List Str) : dIn (.str x) (.list (xs.map .str)) = some (.sh (.bool (decide (x ∈ xs)))) := by
  rw [dIn, inD_list eqE_str (fun _ => rfl)]; rfl
theorem dNotIn_strL (x : Str) (xs : List Str) : dNotIn (.str x) (.list (xs.map .str)) = some (.sh (.bool (!decide (x ∈ xs)))) := by
  rw [dNotIn, inD_list eqE_str (fun _ => rfl)]; rfl
theorem dNe_nats (a b : List Nat) : dNe (.list (a.map eN)) (.list (b.map eN)) = some (.sh (.bool (!decide (a = b)))) := by
  have ok : ∀ l : List Nat, okD (.list (l.map eN)) = true := fun l => okD_of (okN_mapL (n := 0) (fun n => okN_int 0 _) l) (by decide)
  rw [dNe_of (ok a) (ok b)]
  exact congrArg (fun x => some (Rv.sh (.bool (!x)))) (eqE_list eqE_nat a b)
theorem eqE_eT : EqE eT := eqE_tuple eqE_nat
theorem okD_eTs (l : List (List Nat)) : okD (.list (l.map eT)) = true := okD_of (okN_mapL (n := 1) (fun x => okN_mapT (n := 0) (fun n => okN_int 0 _) x) l) (by decide)
theorem dNe_eTs (a b : List (List Nat)) : dNe (.list (a.map eT)) (.list (b.map eT)) = some (.sh (.bool (!decide (a = b)))) := by
  rw [dNe_of (okD_eTs a) (okD_eTs b)]
  exact congrArg (fun x => some (Rv.sh (.bool (!x)))) (eqE_list eqE_eT a b)
theorem dEq_eTs (a b : List (List Nat)) : dEq (.list (a.map eT)) (.list (b.map eT)) = some (.sh (.bool (decide (a = b)))) := by
  rw [dEq_of (okD_eTs a) (okD_eTs b)]
  exact congrArg (fun x => some (Rv.sh (.bool x))) (eqE_list eqE_eT a b)
theorem dEq_bool (a b : Bool) : dEq (.bool a) (.bool b) = some (.sh (.bool (a == b))) := by
  rw [dEq_of (okD_of (okN_bool 0 a) (by decide)) (okD_of (okN_bool 0 b) (by decide))]
  cases a <;> cases b <;> rfl
theorem dNe_same {x : Str} (h : PyData.strOk x = true) : dNe (.str x) (.str x) = some (.sh (.bool false)) := by
  rw [dNe_of (okD_of (okN_str 0 h) (by decide)) (okD_of (okN_str 0 h) (by decide))]
  simp [PyData.eqv]
theorem repr_ok (b : Bool) : PyData.strOk (if b then "True" else "False" : Str) = true := by cases b <;> decide +kernel
theorem isi2_tuple (ds : List D) : isi2D "tuple" "list" (.tuple ds) = some true := by simp [isi2D]
theorem isi2_list (ds : List D) : isi2D "tuple" "list" (.list ds) = some true := by simp [isi2D]
theorem dIsi2_ap (T U : String) (fa : Fd) (ρ : En) : dIsi2 T U fa ρ = (fa ρ).bind fun p => optR (bRv (isi2D T U p.1)) p.2 := id rfl
theorem allF_map {β : Type} (xs : List β) (p : β → Bool) : dAllF [.list (xs.map fun x => .bool (p x))] = some (.sh (.bool (xs.all p))) := by
  have : (xs.map fun x => PyData.bool (p x)) = (xs.map p).map .bool := by rw [List.map_map]; rfl
  rw [this, dAllF_bools, List.all_map]
  rfl
theorem anyF_map {β : Type} (xs : List β) (p : β → Bool) : dAnyF [.list (xs.map fun x => .bool (p x))] = some (.sh (.bool (xs.any p))) := by
  have : (xs.map fun x => PyData.bool (p x)) = (xs.map p).map .bool := by rw [List.map_map]; rfl
  rw [this, dAnyF_bools, List.any_map]
  rfl
@[simp] theorem sPutD_ap (i : Nat) (fe fk : Fd) (ρ : En) : sPutD i fe fk ρ = onR (fe ρ) fun d ρ1 => if isDc ρ1 i = true then onR (fk ρ1) fun k ρ2 => (match keyOf k, ρ2[i]? with
  | some k, some (.od kvs) => if szOk kvs.length = true then .nx (ρ2.set i (.od (putD kvs k d))) else .no
  | _, _ => .no)
  else .no := id rfl
theorem rng_nat (n : Nat) : rngD 0 (n : Int) = (List.range n).map eN := rngD_nat n
theorem len_below {n : Nat} {l : List Nat} (h1 : l.Nodup) (h2 : ∀ i ∈ l, i < n) : l.length ≤ n := by
  have : l.Perm ((List.range n).filter fun i => decide (i ∈ l)) := (List.perm_ext_iff_of_nodup h1 (List.nodup_range.filter _)).mpr fun i => by
    simp
    exact fun hi => h2 i hi
  rw [this.length_eq]
  exact Nat.le_trans (List.length_filter_le _ _) (by simp)
theorem rising_nodup {l : List Nat} (h : l.Pairwise (· < ·)) : l.Nodup := h.imp fun h => Nat.ne_of_lt h
theorem two_pow {k : Nat} (h : k ≤ 10) : 2 ^ k ≤ 1024 := Nat.pow_le_pow_right (n := 2) (by omega) h
theorem nodup_sub_len {α : Type} [DecidableEq α] : ∀ {l m : List α}, l.Nodup → (∀ x ∈ l, x ∈ m) → l.length ≤ m.length
  | [], m, _, _ => Nat.zero_le _
  | x :: l, m, h, s => by
    obtain ⟨h1, h2⟩ := List.nodup_cons.mp h
    have hx := s x (by simp)
    have := nodup_sub_len (l := l) (m := m.erase x) h2 fun y hy => (List.mem_erase_of_ne (fun z : y = x => h1 (by rw [← z]; exact hy))).mpr (s y (by simp [hy]))
    rw [List.length_erase_of_mem hx] at this
    have := List.length_pos_of_mem hx
    simp only [List.length_cons]
    omega
def nrw (l : List Nat) : Int × List Int := ((l.length : Int), l.map fun n : Nat => (n : Int))
def rwn (k : Int × List Int) : List Nat := k.2.map Int.toNat
theorem rwn_nrw (l : List Nat) : rwn (nrw l) = l := by
  unfold rwn nrw
  rw [List.map_map]
  conv => rhs; rw [← List.map_id l]
  exact List.map_congr_left fun n _ => by simp
end DL

set_option Elab.async false
set_option linter.all false
set_option maxRecDepth 100000
set_option maxHeartbeats 4000000
/-! t.index(x) of a tuple whose object is known -/
namespace DL
open PySem PySem.Spec PyProof.Rows L2
variable [Wr]
def tTix (K : PySem.W.Frag) (to : TE) (t : TA) : TE := fun σ H Q => to σ H fun x H1 => (∃ p xs, x = .ref p ∧ Tp H1 p xs) ∧ t σ H1 fun ys H2 => HX.rTIx K x ys H2 Q
theorem pe_tix {X : Cx} {o e : Expr} {es : List Expr} {to : TE} {t : TA} {apos cpos : Pos} (ho : PE X o to) (ha : PA X (e :: es) t)
    (hbase : attributeBase o "index" X.env (eval o X.env) = eval o X.env := by rfl)
    (hfew : ((backTo cpos (starEach (e :: es) X.env)).all (fun x => !x.1) && (backToKw cpos (keywordEach [] X.env)).all (fun x => x.1.isSome)
      && decide ((e :: es).length + ([] : List Keyword).length + (if ([] : List Keyword).isEmpty then 0 else 1) < 30)) = true := by rfl)
    (hline : (apos.endLine == cpos.line) = true := by rfl) (hs : starEach (e :: es) X.env = (false, eval e X.env) :: starEach es X.env := by rfl) (hplain : (backTo cpos (starEach es X.env)).any (·.1) = false := by rfl) :
    PE X (.Call (.Attribute o "index" apos) (e :: es) [] cpos) (tTix X.K to t) := by
  constructor
  intro pins s σ H Q I h
  refine wpAny_Call_method_late hbase hfew hline rfl (thn (ho.run pins s σ H _ I h) fun v sa ⟨x, Ha, Ia, ra, ty, qa⟩ => ?_)
  obtain ⟨p, xs, rfl, ob, hob, hcl, hdi⟩ := ty
  cases ra
  have hg : sa.heap.get? p = some ob := (Ia.hok p _ hob).1
  refine ⟨"tuple", "tuple.index", PySem.F.plainAttrs_tuple, PySem.F.slot_tuple_index, PySem.F.type_tuple_index, ⟨ob, hg, hcl⟩, fun a ea => ?_, ?_⟩
  · cases ea
    exact ⟨ob, hg, hdi⟩
  · have hA := ha.run cpos pins sa σ Ha _ Ia qa
    rw [hs] at hA ⊢
    refine Calls.callWith_builtin (by show (false || (backTo cpos (starEach es X.env)).any (·.1)) = false; rw [hplain] <;> rfl) (Calls.evalArgs_plain ?_)
    exact thn hA fun us sb ⟨vs, Hb, Ib, rb, qb⟩ => HX.mt_tupIx pins sb σ Hb (.ref p) vs (.ref p) us Q Ib rfl rb qb
def tixD : D → D → Option Rv
  | .tuple ds, .int z => (intsOf ds).bind fun ys => if z ∈ ys then some (.sh (.int ((ys.idxOf z : Nat) : Int))) else none
  | _, _ => none
def dTix (fa fb : Fd) : Fe := fun ρ => (fa ρ).bind fun p => match p.1 with
  | .tuple ds => (fb p.2).bind fun q => optR (tixD (.tuple ds) q.1) q.2
  | _ => .no
theorem re_tix {ER : Er} {K : PySem.W.Frag} {ta tb : TE} {fa fb : Fd} (ha : RD ER ta fa) (hb : RD ER tb fb) : RE ER (tTix K ta (tCons tb tNil)) (dTix fa fb) := ⟨fun B S0 M σ H S ρ Q R a => by
  refine ha.go B S0 M σ H S ρ _ R (AD.bindE a fun d ρ1 x H1 S1 e1 R1 r1 a1 => ?_)
  have ty : ∀ ds, d = .tuple ds → ∃ p xs, x = .ref p ∧ Tp H1 p xs := fun ds e => by
    subst e
    obtain ⟨p, xs, h1, h2, _⟩ := r1
    exact ⟨p, xs, h1, h2.mono R1.sub⟩
  cases d with
  | tuple ds =>
    refine ⟨ty ds rfl, ?_⟩
    refine hb.go B S0 M σ H1 S1 ρ1 _ R1 (AD.bindE a1 fun e ρ2 y H2 S2 e2 R2 r2 a2 => ?_)
    replace a2 : AE ER B S0 M σ S2 Q (optR (tixD (.tuple ds) e) ρ2) := a2
    obtain ⟨p, xs, rfl, h2, rx⟩ := Rp.mono e2 _ r1
    cases e with
    | int z =>
      replace a2 : AE ER B S0 M σ S2 Q (optR ((intsOf ds).bind fun ys => if z ∈ ys then some (Rv.sh (.int ((ys.idxOf z : Nat) : Int))) else none) ρ2) := a2
      cases hi : intsOf ds with
      | none => rw [hi] at a2; exact (show False from a2).elim
      | some ys =>
        rw [hi] at a2
        simp only [Option.bind_some] at a2
        by_cases hm : z ∈ ys
        · rw [if_pos hm] at a2
          rw [intsOf_eq hi] at rx
          have ex := rx.ints
          subst ex
          have hlt := List.idxOf_lt_length_of_mem hm
          refine ⟨p, ys, z, ys.idxOf z, rfl, by rw [show y = .int z from r2], h2.sq R2.sub, ?_, fun m hmj e => ?_, a2 _ H2 S2 (Ex.refl S2) R2 rfl⟩
          · rw [List.getElem?_eq_getElem hlt, List.getElem_idxOf hlt]
          · obtain ⟨hml, em⟩ := List.getElem?_eq_some_iff.mp e
            have q := List.not_of_lt_findIdx (p := (· == z)) (xs := ys) (i := m) hmj
            rw [em] at q
            simp at q
        · rw [if_neg hm] at a2; exact (show False from a2).elim
    | _ => exact (show False from a2).elim
  | _ => exact (show False from a1).elim⟩
end DL

set_option Elab.async false
set_option linter.all false
set_option maxRecDepth 100000
set_option maxHeartbeats 4000000
/-! an own list lent to a call -/
namespace DL
open PySem PySem.Spec PyProof.Rows L2
variable [Wr]
/- no lists within -/
mutual
def noLst : D → Bool
  | .list _ => false
  | .dict _ => false
  | .tuple ds => noLsts ds
  | _ => true
def noLsts : List D → Bool
  | [] => true
  | d :: ds => noLst d && noLsts ds
end
/-- less that is shared -/
def less (S : Hp) (l : Addr) : Hp := fun a => if a = l then none else S a
theorem less_ne {S : Hp} {l a : Addr} (h : a ≠ l) : less S l a = S a := if_neg h
theorem less_same {S : Hp} {l : Addr} : less S l l = none := if_pos rfl
mutual
theorem Rp.less {S : Hp} {l : Addr} {vs : List V} (hl : S l = some (.lst vs)) : ∀ (d : D) {v : V}, noLst d = true → Rp S v d → Rp (less S l) v d
  | .none, _, _, h => h
  | .bool _, _, _, h => h
  | .int _, _, _, h => h
  | .str _, _, _, h => h
  | .list _, _, n, _ => by cases n
  | .dict _, _, n, _ => by cases n
  | .tuple ds, _, n, h => by
    obtain ⟨a, xs, e, ⟨o, h1, h2⟩, r⟩ := h
    have : a ≠ l := fun z => by rw [z, hl] at h1; cases h1
    exact ⟨a, xs, e, ⟨o, by rw [less_ne this]; exact h1, h2⟩, RpL.less hl ds n r⟩
theorem RpL.less {S : Hp} {l : Addr} {vs : List V} (hl : S l = some (.lst vs)) : ∀ (ds : List D) {ws : List V}, noLsts ds = true → RpL S ws ds → RpL (less S l) ws ds
  | [], _, _, h => h
  | d :: ds, _, n, h => by
    obtain ⟨w, ws, e, r1, r2⟩ := h
    have n' := Bool.and_eq_true_iff.mp (show (noLst d && noLsts ds) = true from n)
    exact ⟨w, ws, e, Rp.less hl d n'.1 r1, RpL.less hl ds n'.2 r2⟩
end
def dCallLd (F : List D → Res Rv) (fa : Fd) (i : Nat) : Fe := fun ρ => (fa ρ).bind fun p => match p.2[i]? with
  | some (.ow ds) => (match F [p.1, .list ds] with
    | .ok (.sh d) => if noLst d = true then .ok (.sh d, p.2) else .no
    | _ => .no)
  | _ => .no
theorem re_callLd {ER : Er} {EW : EWT} {E : XK} {F : List D → Res Rv} {ta : TE} {fa : Fd} (i : Nat) (h : RD ER ta fa) : RE ER (tCall (spP 2 EW F) [] E (tCons ta (tCons (tVar i) tNil))) (dCallLd F fa i) := ⟨fun B S0 M σ H S ρ Q R a => by
  refine h.go B S0 M σ H S ρ _ R (AD.bindE a fun d ρ1 x H1 S1 e1 R1 r1 a1 => ?_)
  simp only at a1
  split at a1
  · rename_i ds hi
    obtain ⟨l, vs, ev, hl, hs, rl, hb⟩ := R1.ats i _ hi
    refine ⟨.ref l, ev, ?_⟩
    have nS : Ex S1 (upd S1 l (.lst vs)) := Ex.new hs
    have tb0 := R1.tabs.low
    have ltb : l ∉ tbs := R1.notab hi rfl ev
    have tb1 : TabsOk tbs H1 (upd S1 l (.lst vs)) := tb0.mono nS fun q hq ps m1 m2 m3 => ⟨m1, m3, by
      rw [upd_ne (fun z => by rw [z, hl] at m3; cases m3)]; exact m2⟩
    refine ⟨upd S1 l (.lst vs), [d, .list ds], fun b o e => ?_, tb1, ?_, rfl, ?_⟩
    · by_cases z : b = l
      · subst z; rw [upd_same] at e; cases e; exact hl
      · rw [upd_ne z] at e; exact R1.sub b o e
    · exact .cons (Rp.mono nS _ r1) (.cons ⟨l, vs, rfl, upd_same, RpL.mono nS _ rl⟩ .nil)
    · cases eF : F [d, .list ds] with
      | err c fs => rw [eF] at a1; exact (show False from a1).elim
      | no => rw [eF] at a1; exact (show False from a1).elim
      | ok rv =>
        rw [eF] at a1
        cases rv with
        | fr es => exact (show False from a1).elim
        | fk es => exact (show False from a1).elim
        | sh dd =>
          simp only at a1
          split at a1
          · rename_i hn
            intro v H' S' e2 s2 k2 b2 t2 g2
            have sl : S' l = some (.lst vs) := e2 _ _ upd_same
            have exl : Ex S1 (less S' l) := fun b o e => by
              have : b ≠ l := fun z => by rw [z, hs] at e; cases e
              rw [less_ne this]; exact e2 _ _ (nS _ _ e)
            have b3 : ∀ b o, H1 b = some o → less S' l b = S1 b := fun b o e => by
              by_cases z : b = l
              · rw [z, less_same, hs]
              · rw [less_ne z, b2 b o e, upd_ne z]
            refine a1 v H' (less S' l) exl ⟨fun b o e => ?_, R1.s0.trans exl, fun b o hb' hm => k2 _ _ (R1.keep b o hb' hm) fun z => hm (R1.tabs.sub b z), fun b hm => ?_, fun b o hb' => ?_, R1.len, fun j s hj => ?_, R1.apart, ?_⟩ (Rp.less sl dd hn g2)
            · by_cases z : b = l
              · rw [z, less_same] at e; cases e
              · rw [less_ne z] at e; exact s2 _ _ e
            · by_cases z : b ∈ tbs
              · obtain ⟨ps, z⟩ := t2.tbl z
                exact ⟨_, z⟩
              · obtain ⟨o, ho⟩ := R1.there b hm
                exact ⟨o, k2 _ _ ho z⟩
            · have : ∃ o', H1 b = some o' := by
                by_cases hm : b ∈ M
                · exact R1.there b hm
                · exact ⟨o, R1.keep b o hb' hm⟩
              obtain ⟨o', ho'⟩ := this
              rw [b3 b o' ho', R1.base b o hb']
            · exact (R1.ats j s hj).mono exl fun m o ev' ow h1 h2 => ⟨k2 _ _ h1 (R1.notab hj ow ev'), by rw [b3 m o h1]; exact h2⟩
            · have t3 : TabsOk tbs H' (less S' l) := fun q hq => by
                obtain ⟨m1, m2, ps, m3, m4, m5⟩ := t2 q hq
                refine ⟨m1, ?_, ps, m3, m4, fun pos cv y => ?_⟩
                · by_cases z : q.1 = l
                  · rw [z]; exact less_same
                  · rw [less_ne z]; exact m2
                · obtain ⟨c, y1, y2⟩ := m5 pos cv y
                  have : c ≠ l := fun z => by rw [z, sl] at y2; cases y2
                  exact ⟨c, y1, by rw [less_ne this]; exact y2⟩
              exact t3.up R1.tabs.sub
          · exact (show False from a1).elim
  · exact (show False from a1).elim⟩
end DL

set_option Elab.async false
set_option linter.all false
set_option maxRecDepth 100000
set_option maxHeartbeats 4000000
/-! dicts keyed by known tuples of ints -/
namespace DL
open PySem PySem.Spec PyProof.Rows L2
variable [Wr]
def tupI : D → Option (List Int)
  | .tuple ds => intsOf ds
  | _ => none
theorem tupI_eq {d : D} {ks : List Int} (h : tupI d = some ks) : d = .tuple (ks.map .int) := by
  cases d with
  | tuple ds => rw [intsOf_eq (show intsOf ds = some ks from h)]
  | _ => cases h
theorem knT_of {S : Hp} {v : V} {ks : List Int} (r : Rp S v (.tuple (ks.map .int))) : ∃ b, v = .ref b ∧ HX.KnT S b ks := by
  obtain ⟨b, xs, rfl, ⟨o, h1, h2, h3⟩, r⟩ := r
  rw [r.ints] at h1
  exact ⟨b, rfl, o, h1, h2, h3⟩
theorem rp_knT {S : Hp} {b : Addr} {ks : List Int} (h : HX.KnT S b ks) : Rp S (.ref b) (.tuple (ks.map .int)) := by
  obtain ⟨o, h1, h2, h3⟩ := h
  exact ⟨b, ks.map V.int, rfl, ⟨o, h1, h2, h3⟩, RpL.ofInts ks⟩
section
variable {ER : Er} {ta tb te : TE} {fa fb : Fd}
/-- found, layer, steps = {x: 0}, [x], 0 -/
def sSt1 (i j l k : Nat) : Fs := fun ρ => match ρ[k]? with
  | some (.sh d) => (match tupI d with
    | some ks => .nx (((ρ.set i (.oT [(ks, 0)])).set j (.ow [d])).set l (.sh (.int 0)))
    | none => .no)
  | _ => .no
theorem rs_st1 {i j l k : Nat} : RS ER (L2.tPar3 i j l (tCons (HX.tDisp1 (tVar k) (tC (.int 0))) (tCons (tLst (tCons (tVar k) tNil)) (tCons (tC (.int 0)) tNil)))) (sSt1 i j l k) := ⟨fun B S0 M σ H S ρ E R a => by
  unfold sSt1 at a
  split at a
  · rename_i d hk
    split at a
    · rename_i ks hks
      obtain ⟨v, ev, rv⟩ := R.ats k _ hk
      have ed := tupI_eq hks
      obtain ⟨b, rfl, kn⟩ := knT_of (by rw [← ed]; exact rv)
      intro p hp
      refine ⟨.ref b, ev, upd_same, b, ks, 0, rfl, rfl, ?_, fun u ru => ?_⟩
      · exact kn.mono fun c o e => by rw [upd_ne (ne_of_none (R.sub c o e) hp)]; exact R.sub c o e
      · rw [upd_upd]
        refine ⟨.ref b, ev, by show 1 ≤ sizeLine; rw [sizeLine_eq]; omega, fun q hq => ?_⟩
        refine ⟨.ref p, .ref q, .int 0, rfl, ?_⟩
        have nb := R.nobody hp
        have R1 := (R.lay (p := p) (o := HX.TdO p [(ks, b, u)]) hp).setOwn (i := i) (p := p) (s0 := .oT [(ks, 0)]) ⟨p, _, rfl, upd_same, nb.1, .cons ⟨rfl, kn, ru⟩ .nil, nb.2.1, nb.2.2.1⟩ nb.2.2.2
        have nb2 := R1.nobody hq
        have R2 := (R1.lay (p := q) (o := .lst [.ref b]) hq).setOwn (i := j) (p := q) (s0 := .ow [d]) ⟨q, _, rfl, upd_same, nb2.1, .cons rv .nil, nb2.2.1, nb2.2.2.1⟩ nb2.2.2.2
        exact a _ _ S (Ex.refl S) (R2.setSh (i := l) (v := .int 0) (d := .int 0) rfl)
    · exact (show False from a).elim
  · exact (show False from a).elim⟩
/-- x not in d -/
def dNotInT (fk : Fd) (i : Nat) : Fe := fun ρ => (fk ρ).bind fun p => match tupI p.1, p.2[i]? with
  | some ks, some (.oT ps) => .ok (.sh (.bool (!(HX.valT ps ks).isSome)), p.2)
  | _, _ => .no
theorem re_notInT (i : Nat) (hk : RD ER ta fa) : RE ER (HX.tTNotIn ta (tVar i)) (dNotInT fa i) := ⟨fun B S0 M σ H S ρ Q R a => by
  refine hk.go B S0 M σ H S ρ _ R (AD.bindE a fun d ρ1 v H1 S1 e1 R1 r1 a1 => ?_)
  simp only at a1
  split at a1
  · rename_i ks ps hks hs
    obtain ⟨l, xs, ev, hv, hS, kx, hB⟩ := R1.ats i _ hs
    obtain ⟨b, rfl, kn⟩ := knT_of (by rw [← tupI_eq hks]; exact r1)
    exact ⟨.ref l, ev, l, b, xs, ps, ks, rfl, rfl, .inl hv, kx.mono R1.sub, kn.mono R1.sub, a1 _ H1 S1 (Ex.refl S1) R1 rfl⟩
  · exact (show False from a1).elim⟩
/-- d[x] = e, x not in d -/
def isT (ρ : En) (i : Nat) : Bool := match ρ[i]? with
  | some (.oT _) => true
  | _ => false
theorem isT_some {ρ : En} {i : Nat} (h : isT ρ i = true) : ∃ ps, ρ[i]? = some (.oT ps) := by
  unfold isT at h
  split at h
  · rename_i ps e; exact ⟨ps, e⟩
  · cases h
def sPutT (i : Nat) (fe fk : Fd) : Fs := fun ρ => onR (fe ρ) fun d ρ1 => if isT ρ1 i = true then onR (fk ρ1) fun k ρ2 => (match d, tupI k, ρ2[i]? with
  | .int z, some ks, some (.oT ps) => if (szOk ps.length && !(HX.valT ps ks).isSome) = true then .nx (ρ2.set i (.oT (ps ++ [(ks, z)]))) else .no
  | _, _, _ => .no) else .no
theorem rs_putT (i : Nat) (h : RD ER te fa) (hk : RD ER tb fb) : RS ER (HX.sTPut (tVar i) tb te) (sPutT i fa fb) := ⟨fun B S0 M σ H S ρ E R a => by
  refine h.go B S0 M σ H S ρ _ R (AD.bindS a fun d ρ1 v H1 S1 e1 R1 r1 a1 => ?_)
  split at a1
  · rename_i hi
    obtain ⟨ps0, hp0⟩ := isT_some hi
    obtain ⟨l, xs0, ev, hv0, _⟩ := R1.ats i _ hp0
    refine ⟨.ref l, ev, hk.go B S0 M σ H1 S1 ρ1 _ R1 (AD.bindS a1 fun k ρ2 kv H2 S2 e2 R2 r2 a2 => ?_)⟩
    split at a2
    · rename_i z ks ps hks hs
      split at a2
      · rename_i hz
        rw [Bool.and_eq_true, Bool.not_eq_true'] at hz
        obtain ⟨l', xs, ev', hv, hS, kx, hB⟩ := R2.ats i _ hs
        rw [ev] at ev'
        injection ev' with ev'; injection ev' with ev'; injection ev' with ev'
        subst ev'
        obtain ⟨b, rfl, kn⟩ := knT_of (by rw [← tupI_eq hks]; exact r2)
        have hvn : HX.valT ps ks = none := Option.not_isSome_iff_eq_none.mp (by rw [hz.2]; simp)
        have hl : ps.length = xs.length := Paired.length kx
        refine ⟨l, b, xs, ps, ks, z, rfl, rfl, r1, hv, kx.mono R2.sub, kn.mono R2.sub, hvn, by rw [← hl]; exact sz_lt hz.1, fun u ru => ?_⟩
        exact a2 σ _ S2 (Ex.refl S2) (R2.write hs rfl ev ⟨l, _, rfl, upd_same, hS, Paired.snoc kx ⟨rfl, kn, ru⟩, hB⟩)
      · exact (show False from a2).elim
    · exact (show False from a2).elim
  · exact (show False from a1).elim⟩
/-- a dict that leaves its name, shared from then on -/
def dMoveK (i : Nat) : Fe := fun ρ => match ρ[i]? with
  | some (.oT ps) => .ok (.sh (tdD ps), ρ.set i .no)
  | _ => .no
theorem re_moveK (i : Nat) : RE ER (HX.tVarK i) (dMoveK i) := ⟨fun B S0 M σ H S ρ Q R a => by
  unfold dMoveK at a
  split at a
  · rename_i ps hs
    obtain ⟨l, xs, ev, hv, hS, kx, hB⟩ := R.ats i _ hs
    refine ⟨l, xs, ev, hv, fun o => ?_⟩
    have out : NoSl σ (ρ.set i .no) l := fun j s' ej oj z => by
      rcases getElem?_set_cases ej with ⟨rfl, rfl, _⟩ | ⟨ne, ej'⟩
      · cases oj
      · exact R.apart i j _ s' l ne hs ej' rfl oj ev z
    have R1 : Rel B S0 M σ H S (ρ.set i .no) := R.forget
    have R2 := R1.writeN (o := .frz o (HX.TdO l xs)) ⟨hS, hB.1, hB.2, out⟩
    have R3 := R2.give (p := l) upd_same hS hB.1 hB.2 out
    exact a (.ref l) _ _ (Ex.new hS) R3 (Rp.td upd_same (kx.mono (Ex.new hS)))
  · exact (show False from a).elim⟩
/-! a shared one -/
def prOf : D × D → Option (List Int × Int)
  | (k, .int z) => (tupI k).map fun ks => (ks, z)
  | _ => none
def prsOf : List (D × D) → Option (List (List Int × Int))
  | [] => some []
  | p :: r => (prOf p).bind fun q => (prsOf r).map (q :: ·)
def tdOf : D → Option (List (List Int × Int))
  | .dict ((.str t, .none) :: l) => if t = Str.ofString "T" then prsOf l else none
  | _ => none
theorem prOf_eq {p : D × D} {q : List Int × Int} (h : prOf p = some q) : p = (.tuple (q.1.map .int), .int q.2) := by
  unfold prOf at h
  split at h
  · obtain ⟨ks, h1, h2⟩ := Option.map_eq_some_iff.mp h
    rw [tupI_eq h1, ← h2]
  · cases h
theorem prsOf_eq : ∀ {l : List (D × D)} {ps : List (List Int × Int)}, prsOf l = some ps → l = ps.map fun p => (.tuple (p.1.map .int), .int p.2)
  | [], ps, h => by cases h; rfl
  | p :: r, ps, h => by
    obtain ⟨q, h1, h2⟩ := Option.bind_eq_some_iff.mp (show ((prOf p).bind fun q => (prsOf r).map (q :: ·)) = some ps from h)
    obtain ⟨qs, h3, h4⟩ := Option.map_eq_some_iff.mp h2
    rw [← h4, prOf_eq h1, prsOf_eq h3]
    rfl
theorem tdOf_eq {d : D} {ps : List (List Int × Int)} (h : tdOf d = some ps) : d = tdD ps := by
  unfold tdOf at h
  split at h
  · split at h
    · rename_i ht
      rw [prsOf_eq h, ht]
      rfl
    · cases h
  · cases h
theorem prsOf_map (ps : List (List Int × Int)) : prsOf (ps.map fun p => (.tuple (p.1.map .int), .int p.2)) = some ps := by
  induction ps with
  | nil => rfl
  | cons p ps ih =>
    show ((prOf (.tuple (p.1.map .int), .int p.2)).bind fun q => (prsOf (ps.map _)).map (q :: ·)) = _
    rw [ih]
    simp [prOf, tupI]
theorem tdOf_td (ps : List (List Int × Int)) : tdOf (tdD ps) = some ps := by
  show (if Str.ofString "T" = Str.ofString "T" then prsOf _ else none) = _
  rw [if_pos rfl]
  exact prsOf_map ps
def getT (d e : D) : Option Rv := (tdOf d).bind fun ps => (tupI e).bind fun ks => (HX.valT ps ks).map fun z => .sh (.int z)
def dGetT (fa fb : Fd) : Fe := fun ρ => (fa ρ).bind fun p => (fb p.2).bind fun q => optR (getT p.1 q.1) q.2
theorem re_getT (ha : RD ER ta fa) (hb : RD ER tb fb) : RE ER (HX.tTGet ta tb) (dGetT fa fb) := ⟨fun B S0 M σ H S ρ Q R a => by
  refine ha.go B S0 M σ H S ρ _ R (AD.bindE a fun d ρ1 x H1 S1 e1 R1 r1 a1 => ?_)
  refine hb.go B S0 M σ H1 S1 ρ1 _ R1 (AD.bindE a1 fun e ρ2 y H2 S2 e2 R2 r2 a2 => ?_)
  replace a2 : AE ER B S0 M σ S2 Q (optR (getT d e) ρ2) := a2
  unfold getT at a2
  cases hd : tdOf d with
  | none => rw [hd] at a2; exact (show False from a2).elim
  | some ps =>
    rw [hd] at a2
    simp only [Option.bind_some] at a2
    cases he : tupI e with
    | none => rw [he] at a2; exact (show False from a2).elim
    | some ks =>
      rw [he] at a2
      simp only [Option.bind_some] at a2
      cases hv : HX.valT ps ks with
      | none => rw [hv] at a2; exact (show False from a2).elim
      | some z =>
        rw [hv] at a2
        obtain ⟨l, xs, o, rfl, h1, kx⟩ := Rp.td_inv (by rw [← tdOf_eq hd]; exact Rp.mono e2 _ r1)
        obtain ⟨b, rfl, kn⟩ := knT_of (by rw [← tupI_eq he]; exact r2)
        exact ⟨l, b, xs, ps, ks, z, rfl, rfl, .inr ⟨o, R2.sub _ _ h1⟩, kx.mono R2.sub, kn.mono R2.sub, hv, a2 _ H2 S2 (Ex.refl S2) R2 rfl⟩⟩
def dKeysT (fa : Fd) : Fa := fun ρ => (fa ρ).bind fun p => match tdOf p.1 with
  | some ps => .ok (ps.map fun q => .tuple (q.1.map .int), p.2)
  | none => .no
theorem ri_kt (h : RD ER ta fa) : RI ER (HX.iKt ta) (dKeysT fa) := ⟨fun B S0 M σ H S ρ Q R a => by
  refine h.go B S0 M σ H S ρ _ R (AD.bindI a fun d ρ1 x H1 S1 e1 R1 r1 a1 => ?_)
  simp only at a1
  cases hd : tdOf d with
  | none => rw [hd] at a1; exact (show False from a1).elim
  | some ps =>
    rw [hd] at a1
    obtain ⟨l, xs, o, rfl, h1, kx⟩ := Rp.td_inv (by rw [← tdOf_eq hd]; exact r1)
    refine ⟨l, o, xs, rfl, R1.sub _ _ h1, a1 _ H1 S1 (Ex.refl S1) R1 ?_⟩
    unfold DW
    have hl : (ps.map fun q => (PyData.tuple (q.1.map .int) : D)).length = xs.length := by rw [List.length_map]; exact Paired.length kx
    rw [hl]
    refine HX.walk_kt.mono (fun H' e => e _ _ h1) fun i H' v H'' hi _ y => ?_
    obtain ⟨rfl, e, he, rfl⟩ := y
    have : ∃ p, ps[i]? = some p ∧ HX.KnT S1 e.2.1 p.1 := by
      have hi' : i < ps.length := by rw [Paired.length kx]; exact hi
      obtain ⟨z, hz, q1, q2, _⟩ := paired_get kx (List.getElem?_eq_getElem hi')
      rw [he] at hz
      cases hz
      exact ⟨_, List.getElem?_eq_getElem hi', q2⟩
    obtain ⟨p, hp, kn⟩ := this
    exact ⟨.tuple (p.1.map .int), by rw [List.getElem?_map, hp]; rfl, .inl ⟨rfl, rp_knT kn⟩⟩⟩
/-- min of a list of ints -/
def minI : List Int → Option Int
  | [] => none
  | x :: xs => some (match minI xs with
    | none => x
    | some m => if x ≤ m then x else m)
theorem minI_spec : ∀ {ns : List Int} {m : Int}, minI ns = some m → m ∈ ns ∧ ∀ x ∈ ns, m ≤ x
  | [], _, h => by cases h
  | x :: xs, m, h => by
    unfold minI at h
    injection h with h
    cases e : minI xs with
    | none =>
      rw [e] at h
      have : xs = [] := by
        cases xs with
        | nil => rfl
        | cons => cases e
      subst this
      simp only at h
      subst h
      simp
    | some k =>
      rw [e] at h
      obtain ⟨h1, h2⟩ := minI_spec e
      simp only at h
      by_cases q : x ≤ k
      · rw [if_pos q] at h
        subst h
        refine ⟨by simp, fun y hy => ?_⟩
        rcases List.mem_cons.mp hy with z | z
        · omega
        · have := h2 y z; omega
      · rw [if_neg q] at h
        subst h
        refine ⟨by simp [h1], fun y hy => ?_⟩
        rcases List.mem_cons.mp hy with z | z
        · omega
        · exact h2 y z
def dMinL : List D → Option Rv
  | [.list ds] => (intsOf ds).bind fun ns => (minI ns).map fun m => .sh (.int m)
  | _ => none
theorem g_minL {K : PySem.W.Frag} : CallG (rMin K) dMinL := fun B S0 M σ H S ρ xs ds rv Q R r h a => by
  unfold dMinL at h
  split at h
  · rename_i ds
    obtain ⟨ns, h1, h2⟩ := Option.bind_eq_some_iff.mp h
    obtain ⟨m, h3, h4⟩ := Option.map_eq_some_iff.mp h2
    subst h4
    obtain ⟨v, rfl, p, ys, rfl, h5, r1⟩ := RpL.one_inv r
    rw [intsOf_eq h1] at r1
    have ey := r1.ints
    subst ey
    obtain ⟨m1, m2⟩ := minI_spec h3
    refine ⟨p, ns, rfl, SqL.of (R.sub _ _ h5), List.length_pos_of_mem m1, fun k k1 k2 => ?_⟩
    have : k = m := by
      have a1 := m2 k k1
      have a2 := k2 m m1
      omega
    subst this
    exact ag_sh R a rfl
  · cases h
end
end DL

set_option Elab.async false
set_option linter.all false
set_option maxRecDepth 100000
/-! the hook, with the interpreter's statics among what is read -/
namespace HK
open PySem PySem.Spec PyProof.Rows L2
def adS (g : Addr → Option Obj) (n : Nat) : List Addr := He.asD g n ++ [cStatics]
def frS (g : Addr → Option Obj) (n : Nat) : PySem.W.Frag := He.frT g (adS g n)
def obS (n : Nat) (fa : List He.Fa) (fn : List He.DefD) (ts : List He.Tab) (tf : List He.Defn) (ex : PySem.W.Frag → Bool) (g : Addr → Option Obj) : He.AlX :=
  (He.obsT fa fn ts (frS g n), ex (frS g n) && He.tabsB g tf (frS g n))
theorem says_of {n : Nat} {fa : List He.Fa} {fn : List He.DefD} {ts : List He.Tab} {tf : List He.Defn} {ex : PySem.W.Frag → Bool} {w : World} {h : Heap} (e : obS n fa fn ts tf ex h.get? = He.valX fn ts w) :
    He.SaysX fa fn ts tf ex w h (frS h.get? n) := by
  have ea : He.obsT fa fn ts (frS h.get? n) = He.valT fn ts w := (Prod.mk.inj e).1
  have eb : (ex (frS h.get? n) && He.tabsB h.get? tf (frS h.get? n)) = true := (Prod.mk.inj e).2
  obtain ⟨hx, ht⟩ := Bool.and_eq_true_iff.mp eb
  have all : ∀ p ∈ tf, PySem.W.codeHdIn (frS h.get? n) (He.cT (frS h.get? n) p).1 (He.cT (frS h.get? n) p).2 = true ∧ ∃ o, h.get? (He.cT (frS h.get? n) p).2 = some o ∧ He.emptyTab o = true := by
    intro p hp
    have z := List.all_eq_true.mp ht p hp
    obtain ⟨za, zb⟩ := Bool.and_eq_true_iff.mp z
    refine ⟨za, ?_⟩
    cases r : h.get? (He.cT (frS h.get? n) p).2 with
    | none => rw [r] at zb; cases zb
    | some o => rw [r] at zb; exact ⟨o, rfl, zb⟩
  refine ⟨ea, hx, fun p hp => (all p hp).1, ?_, ?_⟩
  · intro p hp
    obtain ⟨_, o, r, z⟩ := all p hp
    exact He.frT_none r z
  · intro p hp
    obtain ⟨_, o, r, z⟩ := all p hp
    rw [r, He.emptyTab_eq z]
def hook (n : Nat) (fa : List He.Fa) (fn : List He.DefD) (ts : List He.Tab) (tf : List He.Defn) (ex : PySem.W.Frag → Bool) : PySem.W.Hook where
  α := He.AlX
  obs := fun s => obS n fa fn ts tf ex s.heap.get?
  val := fun w => He.valX fn ts w
  says := fun w h => ∃ K : PySem.W.Frag, K.In h ∧ He.SaysX fa fn ts tf ex w h K
  of := fun _ _ e => ⟨frS _ n, He.frT_in, says_of e⟩
  keeps := fun _ _ _ x kp => let ⟨K, a, c⟩ := x; ⟨K, a.keeps kp, ⟨c.t, c.more, c.hd, c.out, fun p hp => kp _ _ (c.empty p hp)⟩⟩
theorem obS_eq {n : Nat} {fa : List He.Fa} {fn : List He.DefD} {ts : List He.Tab} {tf : List He.Defn} {ex : PySem.W.Frag → Bool} {g : Addr → Option Obj} {s : Shared} (h : ∀ a, g a = s.heap.get? a) :
    obS n fa fn ts tf ex g = (hook n fa fn ts tf ex).obs s := by
  rw [show g = s.heap.get? from funext h]; rfl
end HK

set_option Elab.async false
set_option linter.all false
set_option maxRecDepth 100000
set_option maxHeartbeats 4000000
namespace DL
open PySem PySem.Spec PyProof.Rows L2
noncomputable section
variable [Wr] {P : Program} {w : World} {mg : Str → Option Value} {base : Heap}
def topS (i : Nat) : Stmt := PySem.Challenge.pw_keyswithin_k11_rows_of_exchanges_by_all.main.body.getD i (.Pass ⟨0, 0, 0, 0⟩)
abbrev s_is_within : Stmt := topS 19
abbrev s_is_laying : Stmt := topS 21
abbrev s_need_laying : Stmt := topS 22
abbrev s_all_rounds_of : Stmt := topS 23
abbrev s_is_exchange : Stmt := topS 25
abbrev s_exchanged : Stmt := topS 26
abbrev s_behind : Stmt := topS 27
abbrev s_row_to : Stmt := topS 28
abbrev s_row_to_rounds : Stmt := topS 29
abbrev s_Lcell_at : Stmt := topS 31
abbrev s_Ldraws : Stmt := topS 32
abbrev s_Lbag : Stmt := topS 33
abbrev s_Lbags : Stmt := topS 34
abbrev s_Ltake : Stmt := topS 35
abbrev s_Lmixed : Stmt := topS 36
abbrev s_Lcycles : Stmt := topS 37
abbrev s_Llaid : Stmt := topS 38
abbrev s_Lswapped : Stmt := topS 39
abbrev s_Lrefused : Stmt := topS 40
abbrev s_Lpairs : Stmt := topS 41
abbrev s_Lsteps : Stmt := topS 42
abbrev s_Lled : Stmt := topS 43
abbrev s_law : Stmt := topS 44
/-! ### is_within -/
theorem sc_is_within : FnScope ["thing", "low", "high"] ["thing", "low", "high"] (defScope s_is_within) := ⟨rfl, rfl, rfl, by decide +kernel, rfl, by decide +kernel, by decide +kernel⟩
def f_is_within : Fs := (sRet (dAndV (dSh (dIsi "int" (dSh (dVar 0)))) (dAndV (dSh (dNotV (dSh (dIsi "bool" (dSh (dVar 0)))))) (dChain dLe dLe (dSh (dVar 1)) (dSh (dVar 0)) (dSh (dVar 2))))))
def F_is_within : List D → Res Rv := runP 3 f_is_within
theorem ok_is_within {f : Addr} {fd : FuncData} (F : FnP Wr.K "is_within" s_is_within f fd) (hb : Bn mg) : FnOk P w Wr.K mg base CX0 1 f fd ["thing", "low", "high"] (spP 3 EW0 F_is_within) :=
  fnP (EW := EW0) (n := 3) (m := 3) (fs := f_is_within) F sc_is_within rfl rfl fun cdv A outer s H E hr => ⟨_, PSs.nox (pss_one (ps_ret (pe_and (pe_callB call_isi (by rfl) hb.isinstance b_isinstance (pa_cons (pv 0) (pa_cons (pe_bltn (v := .ty "int") (by rfl) hb.int b_int rfl) pa_nil))) (pe_and (pe_not (pe_callB call_isi (by rfl) hb.isinstance b_isinstance (pa_cons (pv 0) (pa_cons (pe_bltn (v := .ty "bool") (by rfl) hb.bool b_bool rfl) pa_nil)))) (pe_one (pe_chain op_leD op_leD (pv 1) (pv 0) (pv 2))))))),
    (rs_ret (re_and ((re_isi "int" ((re_var 0)).sh)).sh (re_and ((re_not ((re_isi "bool" ((re_var 0)).sh)).sh)).sh (re_chain g_le g_le ((re_var 1)).sh ((re_var 0)).sh ((re_var 2)).sh))))⟩
/-! ### is_laying -/
theorem sc_is_laying : FnScope ["thing", "one"] ["thing"] (defScope s_is_laying) := ⟨rfl, rfl, rfl, by decide +kernel, rfl, by decide +kernel, by decide +kernel⟩
def f_is_laying : Fs := (sSeq (sIf (dOr (dNot (dB (dSh (dIsi "tuple" (dSh (dVar 0)))))) (dNot (dB (dSh (dChain dLe dLe (dSh (dC (.int 1))) (dSh (dCall dLen (dCons (dSh (dVar 0)) dNil))) (dSh (dC (.int 30)))))))) (sRet (dC (.bool false))) sPass)
  (sRet (dAndV (dSh (dCall dAllF (dCons (dSh (dLc (dSeq (dSh (dVar 0))) (gN 1) (fun ρ => .ok (true, ρ)) (dSh (dCall0 3 F_is_within (dCons (dSh (dVar 1)) (dCons (dSh (dC (.int 0))) (dCons (dSh (dOp dSub (dSh (dCall dLen (dCons (dSh (dVar 0)) dNil))) (dSh (dC (.int 1))))) dNil))))) [1])) dNil))) (dOp dEq (dSh (dLenSet (dSh (dVar 0)))) (dSh (dCall dLen (dCons (dSh (dVar 0)) dNil)))))))
def F_is_laying : List D → Res Rv := runP 2 f_is_laying
theorem ok_is_laying {f : Addr} {fd : FuncData} (F : FnP Wr.K "is_laying" s_is_laying f fd) (hb : Bn mg) (c_is_within : Cal0 P w Wr.K mg base 1 "is_within" (spP 3 EW0 F_is_within)) : FnOk P w Wr.K mg base CX0 2 f fd ["thing"] (spP 1 EW0 F_is_laying) :=
  fnP (EW := EW0) (n := 1) (m := 2) (fs := f_is_laying) F sc_is_laying rfl rfl fun cdv A outer s H E hr => ⟨_, PSs.nox (pss_cons (ps_if (PW.pt (pw_or (pt_not (pt_val (pe_callB call_isi (by rfl) hb.isinstance b_isinstance (pa_cons (pv 0) (pa_cons (pe_bltn (v := .ty "tuple") (by rfl) hb.tuple b_tuple rfl) pa_nil))))) (pw_or1 (pt_not (pt_chain op_leD op_leD pe_int (pe_callB c_len (by rfl) hb.len b_len (pa_cons (pv 0) pa_nil)) pe_int))))) (pss_one (ps_ret pe_bl)) pss_nil)
      (pss_one (ps_ret (pe_and (pe_callB (cr_all rfl) (by rfl) hb.all b_all (pa_cons (pe_lc (own := [("one", 1)]) (by rfl) sc_is_laying.nd (pi_seq (pv 0)) (blkOk_by (own := [("one", 1)]) (by kernel_rfl)) (fun _ _ _ _ _ => (pg_name (i := 1) sc_is_laying.nd rfl (by first | exact .inl rfl | exact .inr rfl))) (fun _ _ _ _ _ => pts_nil) (fun _ _ _ _ _ => (pe_c0 c_is_within hr (by decide) (by rfl) (pa_cons (pv 1) (pa_cons pe_int (pa_cons (pe_op op_sub (pe_callB c_len (by rfl) hb.len b_len (pa_cons (pv 0) pa_nil)) pe_int) pa_nil)))))) pa_nil)) (pe_one (pe_cmpR (op_eqD hr.units) (SX.pe_lenSetT (by rfl) hb.len (by rfl) hb.set (pv 0)) (pe_callB c_len (by rfl) hb.len b_len (pa_cons (pv 0) pa_nil)) (nomark _))))))),
    (rs_seq (rs_if (rt_or (rt_not (rt_B ((re_isi "tuple" ((re_var 0)).sh)).sh)) (rt_not (rt_test ((re_chain g_le g_le ((re_int 1)).sh ((re_call g_len (ra_cons ((re_var 0)).sh ra_nil))).sh ((re_int 30)).sh)).sh))) (rs_ret (re_bl false)) rs_pass)
      (rs_ret (re_and ((re_call g_all (ra_cons ((re_lc (ri_seq ((re_var 0)).sh) (rg_name 1) (by decide) rt_yes ((re_call0 (ra_cons ((re_var 1)).sh (ra_cons ((re_int 0)).sh (ra_cons ((re_op g_sub ((re_call g_len (ra_cons ((re_var 0)).sh ra_nil))).sh ((re_int 1)).sh)).sh ra_nil))))).sh)).sh ra_nil))).sh (re_op k_eq.g ((re_lenSet ((re_var 0)).sh)).sh ((re_call g_len (ra_cons ((re_var 0)).sh ra_nil))).sh))))⟩
/-! ### need_laying -/
theorem sc_need_laying : FnScope ["laying"] ["laying"] (defScope s_need_laying) := ⟨rfl, rfl, rfl, by decide +kernel, rfl, by decide +kernel, by decide +kernel⟩
def f_need_laying : Fs := (sWp [0] (sIf (dNot (dB (dSh (dCall0 1 F_is_laying (dCons (dSh (dVar 0)) dNil))))) (sRaise "NoLaying") sPass))
def F_need_laying : List D → Res Rv := runP 1 f_need_laying
theorem ok_need_laying {f : Addr} {fd : FuncData} (F : FnP Wr.K "need_laying" s_need_laying f fd) (hb : Bn mg) (c_is_laying : Cal0 P w Wr.K mg base 2 "is_laying" (spP 1 EW0 F_is_laying)) (r_NoLaying : RefC Wr.K mg "NoLaying") : FnOk P w Wr.K mg base (L2N.CX P w) 3 f fd ["laying"] (spP 1 EWx F_need_laying) :=
  fnP (EW := EWx) (n := 1) (m := 1) (fs := f_need_laying) F sc_need_laying rfl rfl fun cdv A outer s H E hr => ⟨_, (pss_one (ps_if (PT.nox (pt_not (pt_val (pe_c0 c_is_laying hr (by decide) (by rfl) (pa_cons (pv 0) pa_nil))))) (pss_one (ps_ref0 (c := "NoLaying") r_NoLaying (by rfl) rfl (L2N.takes_of (E := E) rfl rfl rfl rfl))) pss_nil)),
    (rs_wp [0] (rs_if (rt_not (rt_B ((re_call0 (ra_cons ((re_var 0)).sh ra_nil))).sh)) (rs_raise0 "NoLaying") rs_pass))⟩
/-! ### all_rounds_of -/
theorem sc_all_rounds_of : FnScope ["laying", "found", "seen", "box", "some", "here"] ["laying"] (defScope s_all_rounds_of) := ⟨rfl, rfl, rfl, by decide +kernel, rfl, by decide +kernel, by decide +kernel⟩
def b_all_rounds_of_2 : Fs := (sSeq (sPutD 2 (dSh (dC (.bool true))) (dSh (dVar 5)))
  (sSeq (sApp 4 (dSh (dVar 5)))
  (sAsg 5 (dS (dOp dIx (dSh (dVar 0)) (dSh (dVar 5)))))))
def b_all_rounds_of_1 : Fs := (sSeq (sWp [3] (sPar [4, 5] (vCons (dLst dNil) (vCons (dVar 3) vNil))))
  (sSeq (sWp [5] (sWhile (dB (dSh (dInD false (dSh (dVar 5)) 2))) b_all_rounds_of_2 100000))
  (sWp [4] (sIf (dB (dSh (dOpO dNe 4 (dSh (dLst dNil))))) (sWp [4] (sApp 1 (dSh (dCall dTupleF (dCons (dSh (dVar 4)) dNil))))) sPass))))
def f_all_rounds_of : Fs := (sSeq (sPar [1, 2] (vCons (dLst dNil) (vCons dNewD vNil)))
  (sSeq (sWp [0, 2, 3, 4, 5] (sFor (dRng1 (dCons (dSh (dCall dLen (dCons (dSh (dVar 0)) dNil))) dNil)) (gN 3) b_all_rounds_of_1))
  (sRet (dMove 1))))
def F_all_rounds_of : List D → Res Rv := runP 6 f_all_rounds_of
theorem ok_all_rounds_of {f : Addr} {fd : FuncData} (F : FnP Wr.K "all_rounds_of" s_all_rounds_of f fd) (hb : Bn mg) : FnOk P w Wr.K mg base CX0 1 f fd ["laying"] (spP 1 EW0 F_all_rounds_of) :=
  fnP (EW := EW0) (n := 1) (m := 6) (fs := f_all_rounds_of) F sc_all_rounds_of rfl rfl fun cdv A outer s H E hr => ⟨_, PSs.nox (pss_cons (ps_par (i := 1) (j := 2) rfl sc_all_rounds_of.nd rfl rfl (by decide) rfl rfl (pa_cons (pe_lst pa_nil) (pa_cons pe_dnewK pa_nil)) (by rfl))
      (pss_cons (ps_for PassesOwn.never rfl (pi_range1 (by rfl) hb.range (pa_cons (pe_callB c_len (by rfl) hb.len b_len (pa_cons (pv 0) pa_nil)) pa_nil)) (pg_name (i := 3) sc_all_rounds_of.nd rfl (by first | exact .inl rfl | exact .inr rfl)) (pss_cons (ps_par (i := 4) (j := 5) rfl sc_all_rounds_of.nd rfl rfl (by decide) rfl rfl (pa_cons (pe_lst pa_nil) (pa_cons (pv 3) pa_nil)) (by rfl))
      (pss_cons (ps_while PassesOwn.never (pt_cmp (pc_dnotin (hu_of hr) (pv 5) (pv 2))) (pss_cons (ps_dput (hu_of hr) (pv 2) (pv 5) pe_bl rfl)
      (pss_cons (ps_expr (pe_bm PySem.F.plainAttrs_list PySem.F.slot_list_append PySem.F.type_list_append mt_append (pv 4) (pa_cons (pv 5) pa_nil)))
      (pss_one (ps_set (i := 5) sc_all_rounds_of.nd rfl (by first | exact .inl rfl | exact .inr rfl) (pe_ix ix_seq (pv 0) (pv 5) (fun _ _ => rfl)))))))
      (pss_one (ps_if (pt_cmpR (op_neD hr.units) (pv 4) (pe_lst pa_nil) (nomark _)) (pss_one (ps_expr (pe_bm PySem.F.plainAttrs_list PySem.F.slot_list_append PySem.F.type_list_append mt_append (pv 1) (pa_cons (pe_callTy c_tuple (by rfl) hb.tuple b_tuple (pa_cons (pv 4) pa_nil)) pa_nil)))) pss_nil)))))
      (pss_one (ps_ret (pv 1))))),
    (rs_seq (rs_par (rv_cons (re_lst ra_nil) (rv_cons re_dnew rv_nil)))
      (rs_seq (rs_wp [0, 2, 3, 4, 5] (rs_for (ri_rng1 (ra_cons ((re_call g_len (ra_cons ((re_var 0)).sh ra_nil))).sh ra_nil)) (rg_name 3) (rs_seq (rs_wp [3] (rs_par (rv_cons (re_lst ra_nil) (rv_cons (re_var 3) rv_nil))))
      (rs_seq (rs_wp [5] (rs_while 100000 (rt_test ((re_dnotin 2 ((re_var 5)).sh)).sh) (rs_seq (rs_dput 2 ((re_bl true)).sh ((re_var 5)).sh)
      (rs_seq (rs_app 4 ((re_var 5)).sh)
      (rs_asg 5 (re_S (re_op k_ix.g ((re_var 0)).sh ((re_var 5)).sh)))))))
      (rs_wp [4] (rs_if (rt_test ((re_opO k_ne 4 ((re_lst ra_nil)).sh)).sh) (rs_wp [4] (rs_app 1 ((re_call g_tuple (ra_cons ((re_var 4)).sh ra_nil))).sh)) rs_pass))))))
      (rs_ret (re_move 1))))⟩
/-! ### is_exchange -/
theorem sc_is_exchange : FnScope ["laying", "thing", "one"] ["laying", "thing"] (defScope s_is_exchange) := ⟨rfl, rfl, rfl, by decide +kernel, rfl, by decide +kernel, by decide +kernel⟩
def f_is_exchange : Fs := (sSeq (sIf (dOr (dNot (dB (dSh (dIsi "tuple" (dSh (dVar 1)))))) (dB (dSh (dOp dNe (dSh (dCall dLen (dCons (dSh (dVar 1)) dNil))) (dSh (dC (.int 2))))))) (sRet (dC (.bool false))) sPass)
  (sRet (dAndV (dSh (dCall dAllF (dCons (dSh (dLc (dSeq (dSh (dVar 1))) (gN 2) (fun ρ => .ok (true, ρ)) (dSh (dCall0 3 F_is_within (dCons (dSh (dVar 2)) (dCons (dSh (dC (.int 0))) (dCons (dSh (dOp dSub (dSh (dCall dLen (dCons (dSh (dVar 0)) dNil))) (dSh (dC (.int 1))))) dNil))))) [2])) dNil))) (dOp dLt (dSh (dOp dIx (dSh (dVar 1)) (dSh (dC (.int 0))))) (dSh (dOp dIx (dSh (dVar 1)) (dSh (dC (.int 1)))))))))
def F_is_exchange : List D → Res Rv := runP 3 f_is_exchange
theorem ok_is_exchange {f : Addr} {fd : FuncData} (F : FnP Wr.K "is_exchange" s_is_exchange f fd) (hb : Bn mg) (c_is_within : Cal0 P w Wr.K mg base 1 "is_within" (spP 3 EW0 F_is_within)) : FnOk P w Wr.K mg base CX0 2 f fd ["laying", "thing"] (spP 2 EW0 F_is_exchange) :=
  fnP (EW := EW0) (n := 2) (m := 3) (fs := f_is_exchange) F sc_is_exchange rfl rfl fun cdv A outer s H E hr => ⟨_, PSs.nox (pss_cons (ps_if (PW.pt (pw_or (pt_not (pt_val (pe_callB call_isi (by rfl) hb.isinstance b_isinstance (pa_cons (pv 1) (pa_cons (pe_bltn (v := .ty "tuple") (by rfl) hb.tuple b_tuple rfl) pa_nil))))) (pw_or1 (pt_cmpR (op_neD hr.units) (pe_callB c_len (by rfl) hb.len b_len (pa_cons (pv 1) pa_nil)) pe_int (nomark _))))) (pss_one (ps_ret pe_bl)) pss_nil)
      (pss_one (ps_ret (pe_and (pe_callB (cr_all rfl) (by rfl) hb.all b_all (pa_cons (pe_lc (own := [("one", 2)]) (by rfl) sc_is_exchange.nd (pi_seq (pv 1)) (blkOk_by (own := [("one", 2)]) (by kernel_rfl)) (fun _ _ _ _ _ => (pg_name (i := 2) sc_is_exchange.nd rfl (by first | exact .inl rfl | exact .inr rfl))) (fun _ _ _ _ _ => pts_nil) (fun _ _ _ _ _ => (pe_c0 c_is_within hr (by decide) (by rfl) (pa_cons (pv 2) (pa_cons pe_int (pa_cons (pe_op op_sub (pe_callB c_len (by rfl) hb.len b_len (pa_cons (pv 0) pa_nil)) pe_int) pa_nil)))))) pa_nil)) (pe_one (pe_cmpR op_ltD (pe_ix ix_seq (pv 1) pe_int (fun _ _ => rfl)) (pe_ix ix_seq (pv 1) pe_int (fun _ _ => rfl)) (nomark _))))))),
    (rs_seq (rs_if (rt_or (rt_not (rt_B ((re_isi "tuple" ((re_var 1)).sh)).sh)) (rt_test ((re_op k_ne.g ((re_call g_len (ra_cons ((re_var 1)).sh ra_nil))).sh ((re_int 2)).sh)).sh)) (rs_ret (re_bl false)) rs_pass)
      (rs_ret (re_and ((re_call g_all (ra_cons ((re_lc (ri_seq ((re_var 1)).sh) (rg_name 2) (by decide) rt_yes ((re_call0 (ra_cons ((re_var 2)).sh (ra_cons ((re_int 0)).sh (ra_cons ((re_op g_sub ((re_call g_len (ra_cons ((re_var 0)).sh ra_nil))).sh ((re_int 1)).sh)).sh ra_nil))))).sh)).sh ra_nil))).sh (re_op g_lt ((re_op k_ix.g ((re_var 1)).sh ((re_int 0)).sh)).sh ((re_op k_ix.g ((re_var 1)).sh ((re_int 1)).sh)).sh))))⟩
/-! ### exchanged -/
theorem sc_exchanged : FnScope ["laying", "pair", "found"] ["laying", "pair"] (defScope s_exchanged) := ⟨rfl, rfl, rfl, by decide +kernel, rfl, by decide +kernel, by decide +kernel⟩
def f_exchanged : Fs := (sSeq (sWp [0] (sAsg 2 (dCall dListF (dCons (dSh (dVar 0)) dNil))))
  (sSeq (sWp [1] (sSwap 2 (dSh (dTup (dCons (dSh (dOpO dIx 2 (dSh (dOp dIx (dSh (dVar 1)) (dSh (dC (.int 1))))))) (dCons (dSh (dOpO dIx 2 (dSh (dOp dIx (dSh (dVar 1)) (dSh (dC (.int 0))))))) dNil)))) (dSh (dOp dIx (dSh (dVar 1)) (dSh (dC (.int 0))))) (dSh (dOp dIx (dSh (dVar 1)) (dSh (dC (.int 1)))))))
  (sRet (dCall dTupleF (dCons (dSh (dVar 2)) dNil)))))
def F_exchanged : List D → Res Rv := runP 3 f_exchanged
theorem ok_exchanged {f : Addr} {fd : FuncData} (F : FnP Wr.K "exchanged" s_exchanged f fd) (hb : Bn mg) : FnOk P w Wr.K mg base CX0 1 f fd ["laying", "pair"] (spP 2 EW0 F_exchanged) :=
  fnP (EW := EW0) (n := 2) (m := 3) (fs := f_exchanged) F sc_exchanged rfl rfl fun cdv A outer s H E hr => ⟨_, PSs.nox (pss_cons (ps_set (i := 2) sc_exchanged.nd rfl (by first | exact .inl rfl | exact .inr rfl) (pe_callTy c_list (by rfl) hb.list b_list (pa_cons (pv 0) pa_nil)))
      (pss_cons (ps_asg (pe_tupX (pa_cons (pe_ix ix_seq (pv 2) (pe_ix ix_seq (pv 1) pe_int (fun _ _ => rfl)) (fun _ _ => rfl)) (pa_cons (pe_ix ix_seq (pv 2) (pe_ix ix_seq (pv 1) pe_int (fun _ _ => rfl)) (fun _ _ => rfl)) pa_nil))) (pg_tup rfl (pgs_cons (pg_sub (pv 2) (pe_ix ix_seq (pv 1) pe_int (fun _ _ => rfl)) set_list) (pgs_cons (pg_sub (pv 2) (pe_ix ix_seq (pv 1) pe_int (fun _ _ => rfl)) set_list) pgs_nil))))
      (pss_one (ps_ret (pe_callTy c_tuple (by rfl) hb.tuple b_tuple (pa_cons (pv 2) pa_nil)))))),
    (rs_seq (rs_wp [0] (rs_asg 2 (re_call g_list (ra_cons ((re_var 0)).sh ra_nil))))
      (rs_seq (rs_wp [1] (rs_swap 2 ((re_tup (ra_cons ((re_opO k_ix 2 ((re_op k_ix.g ((re_var 1)).sh ((re_int 1)).sh)).sh)).sh (ra_cons ((re_opO k_ix 2 ((re_op k_ix.g ((re_var 1)).sh ((re_int 0)).sh)).sh)).sh ra_nil)))).sh ((re_op k_ix.g ((re_var 1)).sh ((re_int 0)).sh)).sh ((re_op k_ix.g ((re_var 1)).sh ((re_int 1)).sh)).sh))
      (rs_ret (re_call g_tuple (ra_cons ((re_var 2)).sh ra_nil)))))⟩
/-! ### behind -/
theorem sc_behind : FnScope ["laying", "row", "pair"] ["laying", "row"] (defScope s_behind) := ⟨rfl, rfl, rfl, by decide +kernel, rfl, by decide +kernel, by decide +kernel⟩
def b_behind_1 : Fs := (sWp [2] (sAsg 0 (dS (dCall0 2 F_exchanged (dCons (dSh (dVar 0)) (dCons (dSh (dVar 2)) dNil))))))
def f_behind : Fs := (sSeq (sDrop (dCallF 1 F_need_laying (dCons (dSh (dVar 0)) dNil)))
  (sSeq (sIf (dOr (dNot (dB (dSh (dIsi "list" (dSh (dVar 1)))))) (dOr (dB (dSh (dOp dGt (dSh (dCall dLen (dCons (dSh (dVar 1)) dNil))) (dSh (dC (.int 60)))))) (dNot (dB (dSh (dCall dAllF (dCons (dSh (dLc (dSeq (dSh (dVar 1))) (gN 2) (fun ρ => .ok (true, ρ)) (dSh (dCall0 2 F_is_exchange (dCons (dSh (dVar 0)) (dCons (dSh (dVar 2)) dNil)))) [2])) dNil))))))) (sRaise "NoRow") sPass)
  (sSeq (sWp [1, 2] (sFor (dSeq (dSh (dVar 1))) (gN 2) b_behind_1))
  (sRet (dVar 0)))))
def F_behind : List D → Res Rv := runP 3 f_behind
theorem ok_behind {f : Addr} {fd : FuncData} (F : FnP Wr.K "behind" s_behind f fd) (hb : Bn mg) (c_need_laying : Cal1 P w Wr.K mg base 3 "need_laying" (spP 1 EWx F_need_laying)) (c_is_exchange : Cal0 P w Wr.K mg base 2 "is_exchange" (spP 2 EW0 F_is_exchange)) (c_exchanged : Cal0 P w Wr.K mg base 1 "exchanged" (spP 2 EW0 F_exchanged)) (r_NoRow : RefC Wr.K mg "NoRow") : FnOk P w Wr.K mg base (L2N.CX P w) 4 f fd ["laying", "row"] (spP 2 EWx F_behind) :=
  fnP (EW := EWx) (n := 2) (m := 3) (fs := f_behind) F sc_behind rfl rfl fun cdv A outer s H E hr => ⟨_, (pss_cons (ps_expr (pe_c1 c_need_laying hr (by decide) (by rfl) (L2N.passes_call (L2N.takes_of (E := E) rfl rfl rfl rfl) fun _ _ _ _ h => h) (pa_cons (pv 0) pa_nil)))
      (pss_cons (ps_if (PT.nox (PW.pt (pw_or (pt_not (pt_val (pe_callB call_isi (by rfl) hb.isinstance b_isinstance (pa_cons (pv 1) (pa_cons (pe_bltn (v := .ty "list") (by rfl) hb.list b_list rfl) pa_nil))))) (pw_or (pt_cmpR op_gtD (pe_callB c_len (by rfl) hb.len b_len (pa_cons (pv 1) pa_nil)) pe_int (nomark _)) (pw_or1 (pt_not (pt_val (pe_callB (cr_all rfl) (by rfl) hb.all b_all (pa_cons (pe_lc (own := [("pair", 2)]) (by rfl) sc_behind.nd (pi_seq (pv 1)) (blkOk_by (own := [("pair", 2)]) (by kernel_rfl)) (fun _ _ _ _ _ => (pg_name (i := 2) sc_behind.nd rfl (by first | exact .inl rfl | exact .inr rfl))) (fun _ _ _ _ _ => pts_nil) (fun _ _ _ _ _ => (pe_c0 c_is_exchange hr (by decide) (by rfl) (pa_cons (pv 0) (pa_cons (pv 2) pa_nil))))) pa_nil))))))))) (pss_one (ps_ref0 (c := "NoRow") r_NoRow (by rfl) rfl (L2N.takes_of (E := E) rfl rfl rfl rfl))) pss_nil)
      (pss_cons (HX.ps_nox (ps_for PassesOwn.never rfl (pi_seq (pv 1)) (pg_name (i := 2) sc_behind.nd rfl (by first | exact .inl rfl | exact .inr rfl)) (pss_one (HX.ps_nox (ps_set (i := 0) sc_behind.nd rfl (by first | exact .inl rfl | exact .inr rfl) (pe_c0 c_exchanged hr (by decide) (by rfl) (pa_cons (pv 0) (pa_cons (pv 2) pa_nil))))))))
      (pss_one (HX.ps_nox (ps_ret (pv 0))))))),
    (rs_seq (rs_drop (re_callF (fun _ _ _ h => h) (ra_cons ((re_var 0)).sh ra_nil)))
      (rs_seq (rs_if (rt_or (rt_not (rt_B ((re_isi "list" ((re_var 1)).sh)).sh)) (rt_or (rt_test ((re_op g_gt ((re_call g_len (ra_cons ((re_var 1)).sh ra_nil))).sh ((re_int 60)).sh)).sh) (rt_not (rt_B ((re_call g_all (ra_cons ((re_lc (ri_seq ((re_var 1)).sh) (rg_name 2) (by decide) rt_yes ((re_call0 (ra_cons ((re_var 0)).sh (ra_cons ((re_var 2)).sh ra_nil)))).sh)).sh ra_nil))).sh)))) (rs_raise0 "NoRow") rs_pass)
      (rs_seq (rs_wp [1, 2] (rs_for (ri_seq ((re_var 1)).sh) (rg_name 2) (rs_wp [2] (rs_asg 0 (re_S (re_call0 (ra_cons ((re_var 0)).sh (ra_cons ((re_var 2)).sh ra_nil))))))))
      (rs_ret (re_var 0)))))⟩
/-! ### row_to -/
theorem sc_row_to : FnScope ["laying", "other", "found", "box", "key", "pair"] ["laying", "other"] (defScope s_row_to) := ⟨rfl, rfl, rfl, by decide +kernel, rfl, by decide +kernel, by decide +kernel⟩
def b_row_to_1 : Fs := (sWp [3, 4, 5] (sIf (dB (dSh (dOp dNe (dSh (dOp dIx (dSh (dVar 0)) (dSh (dVar 3)))) (dSh (dVar 4))))) (sSeq (sWp [3, 4] (sAsg 5 (dTup (dCons (dSh (dVar 3)) (dCons (dSh (dTix (dSh (dVar 0)) (dSh (dVar 4)))) dNil)))))
  (sSeq (sApp 2 (dSh (dVar 5)))
  (sWp [5] (sAsg 0 (dS (dCall0 2 F_exchanged (dCons (dSh (dVar 0)) (dCons (dSh (dVar 5)) dNil)))))))) sPass))
def f_row_to : Fs := (sSeq (sDrop (dCallF 1 F_need_laying (dCons (dSh (dVar 0)) dNil)))
  (sSeq (sDrop (dCallF 1 F_need_laying (dCons (dSh (dVar 1)) dNil)))
  (sSeq (sIf (dB (dSh (dOp dNe (dSh (dCall dLen (dCons (dSh (dVar 0)) dNil))) (dSh (dCall dLen (dCons (dSh (dVar 1)) dNil)))))) (sRaise "Unlike") sPass)
  (sSeq (sAsg 2 (dLst dNil))
  (sSeq (sWp [0, 1, 3, 4, 5] (sFor (dEnum (dCons (dSh (dVar 1)) dNil)) (gT 2 (gsCons (gN 3) (gsCons (gN 4) gsNil))) b_row_to_1))
  (sRet (dMove 2)))))))
def F_row_to : List D → Res Rv := runP 6 f_row_to
theorem ok_row_to {f : Addr} {fd : FuncData} (F : FnP Wr.K "row_to" s_row_to f fd) (hb : Bn mg) (c_need_laying : Cal1 P w Wr.K mg base 3 "need_laying" (spP 1 EWx F_need_laying)) (c_exchanged : Cal0 P w Wr.K mg base 1 "exchanged" (spP 2 EW0 F_exchanged)) (r_Unlike : RefC Wr.K mg "Unlike") : FnOk P w Wr.K mg base (L2N.CX P w) 4 f fd ["laying", "other"] (spP 2 EWx F_row_to) :=
  fnP (EW := EWx) (n := 2) (m := 6) (fs := f_row_to) F sc_row_to rfl rfl fun cdv A outer s H E hr => ⟨_, (pss_cons (ps_expr (pe_c1 c_need_laying hr (by decide) (by rfl) (L2N.passes_call (L2N.takes_of (E := E) rfl rfl rfl rfl) fun _ _ _ _ h => h) (pa_cons (pv 0) pa_nil)))
      (pss_cons (ps_expr (pe_c1 c_need_laying hr (by decide) (by rfl) (L2N.passes_call (L2N.takes_of (E := E) rfl rfl rfl rfl) fun _ _ _ _ h => h) (pa_cons (pv 1) pa_nil)))
      (pss_cons (ps_if (PT.nox (pt_cmpR (op_neD hr.units) (pe_callB c_len (by rfl) hb.len b_len (pa_cons (pv 0) pa_nil)) (pe_callB c_len (by rfl) hb.len b_len (pa_cons (pv 1) pa_nil)) (nomark _))) (pss_one (ps_ref0 (c := "Unlike") r_Unlike (by rfl) rfl (L2N.takes_of (E := E) rfl rfl rfl rfl))) pss_nil)
      (pss_cons (HX.ps_nox (ps_set (i := 2) sc_row_to.nd rfl (by first | exact .inl rfl | exact .inr rfl) (pe_lst pa_nil)))
      (pss_cons (HX.ps_nox (ps_for PassesOwn.never rfl (pi_enumA (by rfl) hb.enumerate (pa_cons (pv 1) pa_nil)) (pg_tup rfl (pgs_cons (pg_name (i := 3) sc_row_to.nd rfl (by first | exact .inl rfl | exact .inr rfl)) (pgs_cons (pg_name (i := 4) sc_row_to.nd rfl (by first | exact .inl rfl | exact .inr rfl)) pgs_nil))) (pss_one (HX.ps_nox (ps_if (pt_cmpR (op_neD hr.units) (pe_ix ix_seq (pv 0) (pv 3) (fun _ _ => rfl)) (pv 4) (nomark _)) (pss_cons (HX.ps_nox (ps_set (i := 5) sc_row_to.nd rfl (by first | exact .inl rfl | exact .inr rfl) (pe_tupX (pa_cons (pv 3) (pa_cons (pe_tix (pv 0) (pa_cons (pv 4) pa_nil)) pa_nil)))))
      (pss_cons (HX.ps_nox (ps_expr (pe_bm PySem.F.plainAttrs_list PySem.F.slot_list_append PySem.F.type_list_append mt_append (pv 2) (pa_cons (pv 5) pa_nil))))
      (pss_one (HX.ps_nox (ps_set (i := 0) sc_row_to.nd rfl (by first | exact .inl rfl | exact .inr rfl) (pe_c0 c_exchanged hr (by decide) (by rfl) (pa_cons (pv 0) (pa_cons (pv 5) pa_nil)))))))) pss_nil)))))
      (pss_one (HX.ps_nox (ps_ret (pv 2))))))))),
    (rs_seq (rs_drop (re_callF (fun _ _ _ h => h) (ra_cons ((re_var 0)).sh ra_nil)))
      (rs_seq (rs_drop (re_callF (fun _ _ _ h => h) (ra_cons ((re_var 1)).sh ra_nil)))
      (rs_seq (rs_if (rt_test ((re_op k_ne.g ((re_call g_len (ra_cons ((re_var 0)).sh ra_nil))).sh ((re_call g_len (ra_cons ((re_var 1)).sh ra_nil))).sh)).sh) (rs_raise0 "Unlike") rs_pass)
      (rs_seq (rs_asg 2 (re_lst ra_nil))
      (rs_seq (rs_wp [0, 1, 3, 4, 5] (rs_for (ri_enum (ra_cons ((re_var 1)).sh ra_nil)) (rg_tup (rgs_cons (rg_name 3) (rgs_cons (rg_name 4) rgs_nil))) (rs_wp [3, 4, 5] (rs_if (rt_test ((re_op k_ne.g ((re_op k_ix.g ((re_var 0)).sh ((re_var 3)).sh)).sh ((re_var 4)).sh)).sh) (rs_seq (rs_wp [3, 4] (rs_asg 5 (re_tup (ra_cons ((re_var 3)).sh (ra_cons ((re_tix ((re_var 0)).sh ((re_var 4)).sh)).sh ra_nil)))))
      (rs_seq (rs_app 2 ((re_var 5)).sh)
      (rs_wp [5] (rs_asg 0 (re_S (re_call0 (ra_cons ((re_var 0)).sh (ra_cons ((re_var 5)).sh ra_nil)))))))) rs_pass))))
      (rs_ret (re_move 2)))))))⟩
/-! ### row_to_rounds -/
theorem sc_row_to_rounds : FnScope ["laying", "many", "found", "here", "pair", "some", "row"] ["laying", "many"] (defScope s_row_to_rounds) := ⟨rfl, rfl, rfl, by decide +kernel, rfl, by decide +kernel, by decide +kernel⟩
def b_row_to_rounds_1 : Fs := (sSeq (sAsg 4 (dTup (dCons (dSh (dOp dIx (dSh (dOp dIx (dSh (dVar 3)) (dSh (dC (.int 0))))) (dSh (dC (.int 0))))) (dCons (dSh (dOp dIx (dSh (dOp dIx (dSh (dVar 3)) (dSh (dNegF (dSh (dC (.int 1))))))) (dSh (dC (.int 0))))) dNil))))
  (sSeq (sWp [3, 5] (sIf (dB (dSh (dOp dLt (dSh (dCall dLen (dCons (dSh (dVar 3)) dNil))) (dSh (dVar 1))))) (sSeq (sWp [3] (sAsg 5 (dS (dOp dIx (dSh (dLc (dSeq (dSh (dVar 3))) (gN 6) (dB (dSh (dOp dGt (dSh (dCall dLen (dCons (dSh (dVar 6)) dNil))) (dSh (dC (.int 1)))))) (dSh (dVar 6)) [6])) (dSh (dC (.int 0)))))))
  (sWp [5] (sAsg 4 (dTup (dCons (dSh (dOp dIx (dSh (dVar 5)) (dSh (dC (.int 0))))) (dCons (dSh (dOp dIx (dSh (dVar 5)) (dSh (dC (.int 1))))) dNil)))))) sPass))
  (sSeq (sApp 2 (dSh (dVar 4)))
  (sSeq (sWp [4] (sAsg 0 (dS (dCall0 2 F_exchanged (dCons (dSh (dVar 0)) (dCons (dSh (dVar 4)) dNil))))))
  (sAsg 3 (dS (dCall0 1 F_all_rounds_of (dCons (dSh (dVar 0)) dNil))))))))
def f_row_to_rounds : Fs := (sSeq (sDrop (dCallF 1 F_need_laying (dCons (dSh (dVar 0)) dNil)))
  (sSeq (sIf (dNot (dB (dSh (dCall0 3 F_is_within (dCons (dSh (dVar 1)) (dCons (dSh (dC (.int 1))) (dCons (dSh (dCall dLen (dCons (dSh (dVar 0)) dNil))) dNil))))))) (sRaise "NoNumber") sPass)
  (sSeq (sPar [2, 3] (vCons (dLst dNil) (vCons (dS (dCall0 1 F_all_rounds_of (dCons (dSh (dVar 0)) dNil))) vNil)))
  (sSeq (sWp [0, 1, 3, 4, 5] (sWhile (dB (dSh (dOp dNe (dSh (dCall dLen (dCons (dSh (dVar 3)) dNil))) (dSh (dVar 1))))) b_row_to_rounds_1 100000))
  (sRet (dMove 2))))))
def F_row_to_rounds : List D → Res Rv := runP 7 f_row_to_rounds
theorem ok_row_to_rounds {f : Addr} {fd : FuncData} (F : FnP Wr.K "row_to_rounds" s_row_to_rounds f fd) (hb : Bn mg) (c_need_laying : Cal1 P w Wr.K mg base 3 "need_laying" (spP 1 EWx F_need_laying)) (c_is_within : Cal0 P w Wr.K mg base 1 "is_within" (spP 3 EW0 F_is_within)) (c_all_rounds_of : Cal0 P w Wr.K mg base 1 "all_rounds_of" (spP 1 EW0 F_all_rounds_of)) (c_exchanged : Cal0 P w Wr.K mg base 1 "exchanged" (spP 2 EW0 F_exchanged)) (r_NoNumber : RefC Wr.K mg "NoNumber") : FnOk P w Wr.K mg base (L2N.CX P w) 4 f fd ["laying", "many"] (spP 2 EWx F_row_to_rounds) :=
  fnP (EW := EWx) (n := 2) (m := 7) (fs := f_row_to_rounds) F sc_row_to_rounds rfl rfl fun cdv A outer s H E hr => ⟨_, (pss_cons (ps_expr (pe_c1 c_need_laying hr (by decide) (by rfl) (L2N.passes_call (L2N.takes_of (E := E) rfl rfl rfl rfl) fun _ _ _ _ h => h) (pa_cons (pv 0) pa_nil)))
      (pss_cons (ps_if (PT.nox (pt_not (pt_val (pe_c0 c_is_within hr (by decide) (by rfl) (pa_cons (pv 1) (pa_cons pe_int (pa_cons (pe_callB c_len (by rfl) hb.len b_len (pa_cons (pv 0) pa_nil)) pa_nil))))))) (pss_one (ps_ref0 (c := "NoNumber") r_NoNumber (by rfl) rfl (L2N.takes_of (E := E) rfl rfl rfl rfl))) pss_nil)
      (pss_cons (HX.ps_nox (ps_par (i := 2) (j := 3) rfl sc_row_to_rounds.nd rfl rfl (by decide) rfl rfl (pa_cons (pe_lst pa_nil) (pa_cons (pe_c0 c_all_rounds_of hr (by decide) (by rfl) (pa_cons (pv 0) pa_nil)) pa_nil)) (by rfl)))
      (pss_cons (HX.ps_nox (ps_while PassesOwn.never (pt_cmpR (op_neD hr.units) (pe_callB c_len (by rfl) hb.len b_len (pa_cons (pv 3) pa_nil)) (pv 1) (nomark _)) (pss_cons (HX.ps_nox (ps_set (i := 4) sc_row_to_rounds.nd rfl (by first | exact .inl rfl | exact .inr rfl) (pe_tupX (pa_cons (pe_ix ix_seq (pe_ix ix_seq (pv 3) pe_int (fun _ _ => rfl)) pe_int (fun _ _ => rfl)) (pa_cons (pe_ix ix_seq (pe_ix ix_seq (pv 3) (pe_un un_neg pe_int) (fun _ _ => rfl)) pe_int (fun _ _ => rfl)) pa_nil)))))
      (pss_cons (HX.ps_nox (ps_if (pt_cmpR op_ltD (pe_callB c_len (by rfl) hb.len b_len (pa_cons (pv 3) pa_nil)) (pv 1) (nomark _)) (pss_cons (HX.ps_nox (ps_set (i := 5) sc_row_to_rounds.nd rfl (by first | exact .inl rfl | exact .inr rfl) (pe_ix ix_seq (pe_lc (own := [("row", 6)]) (by rfl) sc_row_to_rounds.nd (pi_seq (pv 3)) (blkOk_by (own := [("row", 6)]) (by kernel_rfl)) (fun _ _ _ _ _ => (pg_name (i := 6) sc_row_to_rounds.nd rfl (by first | exact .inl rfl | exact .inr rfl))) (fun _ _ _ _ _ => (pts_one (pt_cmpR op_gtD (pe_callB c_len (by rfl) hb.len b_len (pa_cons (pv 6) pa_nil)) pe_int (nomark _)))) (fun _ _ _ _ _ => (pv 6))) pe_int (fun _ _ => rfl))))
      (pss_one (HX.ps_nox (ps_set (i := 4) sc_row_to_rounds.nd rfl (by first | exact .inl rfl | exact .inr rfl) (pe_tupX (pa_cons (pe_ix ix_seq (pv 5) pe_int (fun _ _ => rfl)) (pa_cons (pe_ix ix_seq (pv 5) pe_int (fun _ _ => rfl)) pa_nil))))))) pss_nil))
      (pss_cons (HX.ps_nox (ps_expr (pe_bm PySem.F.plainAttrs_list PySem.F.slot_list_append PySem.F.type_list_append mt_append (pv 2) (pa_cons (pv 4) pa_nil))))
      (pss_cons (HX.ps_nox (ps_set (i := 0) sc_row_to_rounds.nd rfl (by first | exact .inl rfl | exact .inr rfl) (pe_c0 c_exchanged hr (by decide) (by rfl) (pa_cons (pv 0) (pa_cons (pv 4) pa_nil)))))
      (pss_one (HX.ps_nox (ps_set (i := 3) sc_row_to_rounds.nd rfl (by first | exact .inl rfl | exact .inr rfl) (pe_c0 c_all_rounds_of hr (by decide) (by rfl) (pa_cons (pv 0) pa_nil)))))))))))
      (pss_one (HX.ps_nox (ps_ret (pv 2)))))))),
    (rs_seq (rs_drop (re_callF (fun _ _ _ h => h) (ra_cons ((re_var 0)).sh ra_nil)))
      (rs_seq (rs_if (rt_not (rt_B ((re_call0 (ra_cons ((re_var 1)).sh (ra_cons ((re_int 1)).sh (ra_cons ((re_call g_len (ra_cons ((re_var 0)).sh ra_nil))).sh ra_nil))))).sh)) (rs_raise0 "NoNumber") rs_pass)
      (rs_seq (rs_par (rv_cons (re_lst ra_nil) (rv_cons (re_S (re_call0 (ra_cons ((re_var 0)).sh ra_nil))) rv_nil)))
      (rs_seq (rs_wp [0, 1, 3, 4, 5] (rs_while 100000 (rt_test ((re_op k_ne.g ((re_call g_len (ra_cons ((re_var 3)).sh ra_nil))).sh ((re_var 1)).sh)).sh) (rs_seq (rs_asg 4 (re_tup (ra_cons ((re_op k_ix.g ((re_op k_ix.g ((re_var 3)).sh ((re_int 0)).sh)).sh ((re_int 0)).sh)).sh (ra_cons ((re_op k_ix.g ((re_op k_ix.g ((re_var 3)).sh ((re_neg ((re_int 1)).sh)).sh)).sh ((re_int 0)).sh)).sh ra_nil))))
      (rs_seq (rs_wp [3, 5] (rs_if (rt_test ((re_op g_lt ((re_call g_len (ra_cons ((re_var 3)).sh ra_nil))).sh ((re_var 1)).sh)).sh) (rs_seq (rs_wp [3] (rs_asg 5 (re_S (re_op k_ix.g ((re_lc (ri_seq ((re_var 3)).sh) (rg_name 6) (by decide) (rt_test ((re_op g_gt ((re_call g_len (ra_cons ((re_var 6)).sh ra_nil))).sh ((re_int 1)).sh)).sh) ((re_var 6)).sh)).sh ((re_int 0)).sh))))
      (rs_wp [5] (rs_asg 4 (re_tup (ra_cons ((re_op k_ix.g ((re_var 5)).sh ((re_int 0)).sh)).sh (ra_cons ((re_op k_ix.g ((re_var 5)).sh ((re_int 1)).sh)).sh ra_nil)))))) rs_pass))
      (rs_seq (rs_app 2 ((re_var 4)).sh)
      (rs_seq (rs_wp [4] (rs_asg 0 (re_S (re_call0 (ra_cons ((re_var 0)).sh (ra_cons ((re_var 4)).sh ra_nil))))))
      (rs_asg 3 (re_S (re_call0 (ra_cons ((re_var 0)).sh ra_nil))))))))))
      (rs_ret (re_move 2))))))⟩
/-! ### _law_cell_at -/
theorem sc_Lcell_at : FnScope ["script", "k"] ["script", "k"] (defScope s_Lcell_at) := ⟨rfl, rfl, rfl, by decide +kernel, rfl, by decide +kernel, by decide +kernel⟩
def f_Lcell_at : Fs := (sSeq (sWp [0, 1] (sIf (dB (dSh (dOp dLt (dSh (dVar 1)) (dSh (dCall dLen (dCons (dSh (dVar 0)) dNil)))))) (sRet (dOp dIx (dSh (dVar 0)) (dSh (dVar 1)))) sPass))
  (sRet (dC (.int 0))))
def F_Lcell_at : List D → Res Rv := runP 2 f_Lcell_at
theorem ok_Lcell_at {f : Addr} {fd : FuncData} (F : FnP Wr.K "_law_cell_at" s_Lcell_at f fd) (hb : Bn mg) : FnOk P w Wr.K mg base CX0 1 f fd ["script", "k"] (spP 2 EW0 F_Lcell_at) :=
  fnP (EW := EW0) (n := 2) (m := 2) (fs := f_Lcell_at) F sc_Lcell_at rfl rfl fun cdv A outer s H E hr => ⟨_, PSs.nox (pss_cons (ps_if (pt_cmpR op_ltD (pv 1) (pe_callB c_len (by rfl) hb.len b_len (pa_cons (pv 0) pa_nil)) (nomark _)) (pss_one (ps_ret (pe_ix ix_seq (pv 0) (pv 1) (fun _ _ => rfl)))) pss_nil)
      (pss_one (ps_ret pe_int))),
    (rs_seq (rs_wp [0, 1] (rs_if (rt_test ((re_op g_lt ((re_var 1)).sh ((re_call g_len (ra_cons ((re_var 0)).sh ra_nil))).sh)).sh) (rs_ret (re_op k_ix.g ((re_var 0)).sh ((re_var 1)).sh)) rs_pass))
      (rs_ret (re_int 0)))⟩
/-! ### _law_draws -/
theorem sc_Ldraws : FnScope ["cell", "many", "size", "found", "rest", "stirred", "k"] ["cell", "many", "size"] (defScope s_Ldraws) := ⟨rfl, rfl, rfl, by decide +kernel, rfl, by decide +kernel, by decide +kernel⟩
def b_Ldraws_1 : Fs := (sSeq (sAsg 5 (dS (dOp dMod (dSh (dOp dAdd (dSh (dOp dAdd (dSh (dOp dAdd (dSh (dOp dMul (dSh (dVar 5)) (dSh (dVar 5)))) (dSh (dOp dMul (dSh (dC (.int 48271))) (dSh (dVar 5)))))) (dSh (dVar 6)))) (dSh (dC (.int 1))))) (dSh (dC (.int 2305843009213693951))))))
  (sWp [6] (sIf (dAnd (dB (dSh (dOp dGt (dSh (dVar 6)) (dSh (dC (.int 2)))))) (dB (dSh (dOp dGt (dSh (dVar 4)) (dSh (dC (.int 0))))))) (sSeq (sApp 3 (dSh (dOp dMod (dSh (dVar 4)) (dSh (dVar 2)))))
  (sAsg 4 (dS (dOp dDiv (dSh (dVar 4)) (dSh (dVar 2)))))) (sWp [6] (sIf (dB (dSh (dOp dGt (dSh (dVar 6)) (dSh (dC (.int 2)))))) (sApp 3 (dSh (dOp dMod (dSh (dOp dDiv (dSh (dVar 5)) (dSh (dC (.int 4096))))) (dSh (dVar 2))))) sPass)))))
def f_Ldraws : Fs := (sSeq (sAsg 3 (dLst dNil))
  (sSeq (sAsg 4 (dS (dOp dMul (dSh (dVar 0)) (dSh (dCall dIntF (dCons (dSh (dOp dGe (dSh (dVar 0)) (dSh (dOp dPow (dSh (dC (.int 10))) (dSh (dC (.int 18))))))) dNil))))))
  (sSeq (sWp [0] (sAsg 5 (dS (dOp dMod (dSh (dVar 0)) (dSh (dC (.int 2305843009213693951)))))))
  (sSeq (sWp [1, 2, 4, 5, 6] (sFor (dRng1 (dCons (dSh (dOp dAdd (dSh (dVar 1)) (dSh (dC (.int 3))))) dNil)) (gN 6) b_Ldraws_1))
  (sRet (dMove 3))))))
def F_Ldraws : List D → Res Rv := runP 7 f_Ldraws
theorem ok_Ldraws {f : Addr} {fd : FuncData} (F : FnP Wr.K "_law_draws" s_Ldraws f fd) (hb : Bn mg) : FnOk P w Wr.K mg base CX0 1 f fd ["cell", "many", "size"] (spP 3 EW0 F_Ldraws) :=
  fnP (EW := EW0) (n := 3) (m := 7) (fs := f_Ldraws) F sc_Ldraws rfl rfl fun cdv A outer s H E hr => ⟨_, PSs.nox (pss_cons (ps_set (i := 3) sc_Ldraws.nd rfl (by first | exact .inl rfl | exact .inr rfl) (pe_lst pa_nil))
      (pss_cons (ps_set (i := 4) sc_Ldraws.nd rfl (by first | exact .inl rfl | exact .inr rfl) (pe_op op_mulD (pv 0) (pe_callTy c_int (by rfl) hb.int b_int (pa_cons (pe_cmpR op_geD (pv 0) (pe_op op_pow pe_int pe_int) (nomark _)) pa_nil))))
      (pss_cons (ps_set (i := 5) sc_Ldraws.nd rfl (by first | exact .inl rfl | exact .inr rfl) (pe_op op_mod (pv 0) pe_int))
      (pss_cons (ps_for PassesOwn.never rfl (pi_range1 (by rfl) hb.range (pa_cons (pe_op op_addD (pv 1) pe_int) pa_nil)) (pg_name (i := 6) sc_Ldraws.nd rfl (by first | exact .inl rfl | exact .inr rfl)) (pss_cons (ps_set (i := 5) sc_Ldraws.nd rfl (by first | exact .inl rfl | exact .inr rfl) (pe_op op_mod (pe_op op_addD (pe_op op_addD (pe_op op_addD (pe_op op_mulD (pv 5) (pv 5)) (pe_op op_mulD pe_int (pv 5))) (pv 6)) pe_int) pe_int))
      (pss_one (ps_if (PW.pt (pw_and (pt_cmpR op_gtD (pv 6) pe_int (nomark _)) (pw_and1 (pt_cmpR op_gtD (pv 4) pe_int (nomark _))))) (pss_cons (ps_expr (pe_bm PySem.F.plainAttrs_list PySem.F.slot_list_append PySem.F.type_list_append mt_append (pv 3) (pa_cons (pe_op op_mod (pv 4) (pv 2)) pa_nil)))
      (pss_one (ps_set (i := 4) sc_Ldraws.nd rfl (by first | exact .inl rfl | exact .inr rfl) (pe_op op_fdiv (pv 4) (pv 2))))) (pss_one (ps_if (pt_cmpR op_gtD (pv 6) pe_int (nomark _)) (pss_one (ps_expr (pe_bm PySem.F.plainAttrs_list PySem.F.slot_list_append PySem.F.type_list_append mt_append (pv 3) (pa_cons (pe_op op_mod (pe_op op_fdiv (pv 5) pe_int) (pv 2)) pa_nil)))) pss_nil))))))
      (pss_one (ps_ret (pv 3))))))),
    (rs_seq (rs_asg 3 (re_lst ra_nil))
      (rs_seq (rs_asg 4 (re_S (re_op g_mul ((re_var 0)).sh ((re_call g_int (ra_cons ((re_op g_ge ((re_var 0)).sh ((re_op g_pow ((re_int 10)).sh ((re_int 18)).sh)).sh)).sh ra_nil))).sh)))
      (rs_seq (rs_wp [0] (rs_asg 5 (re_S (re_op g_mod ((re_var 0)).sh ((re_int 2305843009213693951)).sh))))
      (rs_seq (rs_wp [1, 2, 4, 5, 6] (rs_for (ri_rng1 (ra_cons ((re_op g_add ((re_var 1)).sh ((re_int 3)).sh)).sh ra_nil)) (rg_name 6) (rs_seq (rs_asg 5 (re_S (re_op g_mod ((re_op g_add ((re_op g_add ((re_op g_add ((re_op g_mul ((re_var 5)).sh ((re_var 5)).sh)).sh ((re_op g_mul ((re_int 48271)).sh ((re_var 5)).sh)).sh)).sh ((re_var 6)).sh)).sh ((re_int 1)).sh)).sh ((re_int 2305843009213693951)).sh)))
      (rs_wp [6] (rs_if (rt_and (rt_test ((re_op g_gt ((re_var 6)).sh ((re_int 2)).sh)).sh) (rt_test ((re_op g_gt ((re_var 4)).sh ((re_int 0)).sh)).sh)) (rs_seq (rs_app 3 ((re_op g_mod ((re_var 4)).sh ((re_var 2)).sh)).sh)
      (rs_asg 4 (re_S (re_op g_div ((re_var 4)).sh ((re_var 2)).sh)))) (rs_wp [6] (rs_if (rt_test ((re_op g_gt ((re_var 6)).sh ((re_int 2)).sh)).sh) (rs_app 3 ((re_op g_mod ((re_op g_div ((re_var 5)).sh ((re_int 4096)).sh)).sh ((re_var 2)).sh)).sh) rs_pass)))))))
      (rs_ret (re_move 3))))))⟩
/-! ### _law_bag -/
theorem sc_Lbag : FnScope ["script", "k"] ["script", "k"] (defScope s_Lbag) := ⟨rfl, rfl, rfl, by decide +kernel, rfl, by decide +kernel, by decide +kernel⟩
def f_Lbag : Fs := (sRet (dLst (dCons (dSh (dCall0 3 F_Ldraws (dCons (dSh (dCall0 2 F_Lcell_at (dCons (dSh (dVar 0)) (dCons (dSh (dVar 1)) dNil)))) (dCons (dSh (dC (.int 400))) (dCons (dSh (dC (.int 1000))) dNil))))) (dCons (dSh (dC (.int 0))) dNil))))
def F_Lbag : List D → Res Rv := runP 2 f_Lbag
theorem ok_Lbag {f : Addr} {fd : FuncData} (F : FnP Wr.K "_law_bag" s_Lbag f fd) (hb : Bn mg) (c_Ldraws : Cal0 P w Wr.K mg base 1 "_law_draws" (spP 3 EW0 F_Ldraws)) (c_Lcell_at : Cal0 P w Wr.K mg base 1 "_law_cell_at" (spP 2 EW0 F_Lcell_at)) : FnOk P w Wr.K mg base CX0 2 f fd ["script", "k"] (spP 2 EW0 F_Lbag) :=
  fnP (EW := EW0) (n := 2) (m := 2) (fs := f_Lbag) F sc_Lbag rfl rfl fun cdv A outer s H E hr => ⟨_, PSs.nox (pss_one (ps_ret (pe_lst (pa_cons (pe_c0 c_Ldraws hr (by decide) (by rfl) (pa_cons (pe_c0 c_Lcell_at hr (by decide) (by rfl) (pa_cons (pv 0) (pa_cons (pv 1) pa_nil))) (pa_cons pe_int (pa_cons pe_int pa_nil)))) (pa_cons pe_int pa_nil))))),
    (rs_ret (re_lst (ra_cons ((re_call0 (ra_cons ((re_call0 (ra_cons ((re_var 0)).sh (ra_cons ((re_var 1)).sh ra_nil)))).sh (ra_cons ((re_int 400)).sh (ra_cons ((re_int 1000)).sh ra_nil))))).sh (ra_cons ((re_int 0)).sh ra_nil))))⟩
/-! ### _law_bags -/
theorem sc_Lbags : FnScope ["script", "limit", "k"] ["script", "limit"] (defScope s_Lbags) := ⟨rfl, rfl, rfl, by decide +kernel, rfl, by decide +kernel, by decide +kernel⟩
def F_Lbags : List D → Option (List (List D)) := runLL 3 (dRng1 (dCons (dSh (dCall dMax2 (dCons (dSh (dC (.int 1))) (dCons (dSh (dCall dMin2 (dCons (dSh (dVar 1)) (dCons (dSh (dCall dLen (dCons (dSh (dVar 0)) dNil))) dNil)))) dNil)))) dNil)) 2 (dCall0 2 F_Lbag (dCons (dSh (dVar 0)) (dCons (dSh (dVar 2)) dNil))) [2]
theorem ok_Lbags {f : Addr} {fd : FuncData} (F : FnP Wr.K "_law_bags" s_Lbags f fd) (hb : Bn mg) (c_Lbag : Cal0 P w Wr.K mg base 2 "_law_bag" (spP 2 EW0 F_Lbag)) : FnOk P w Wr.K mg base CX0 3 f fd ["script", "limit"] (spLL 2 EW0 F_Lbags) :=
  fnLL (EW := EW0) (n := 2) (m := 3) F sc_Lbags rfl rfl (by decide) fun cdv A outer s H E hr => ⟨_, _, PSs.nox (pss_one (ps_ret (pe_lc (own := [("k", 2)]) (by rfl) sc_Lbags.nd (pi_range1 (by rfl) hb.range (pa_cons (pe_callB (c_max2 rfl) (by rfl) hb.max b_max (pa_cons pe_int (pa_cons (pe_callB (c_min2 rfl) (by rfl) hb.min b_min (pa_cons (pv 1) (pa_cons (pe_callB c_len (by rfl) hb.len b_len (pa_cons (pv 0) pa_nil)) pa_nil))) pa_nil))) pa_nil)) (blkOk_by (own := [("k", 2)]) (by kernel_rfl)) (fun _ _ _ _ _ => (pg_name (i := 2) sc_Lbags.nd rfl (by first | exact .inl rfl | exact .inr rfl))) (fun _ _ _ _ _ => pts_nil) (fun _ _ _ _ _ => (pe_c0 c_Lbag hr (by decide) (by rfl) (pa_cons (pv 0) (pa_cons (pv 2) pa_nil))))))), (ri_rng1 (ra_cons ((re_call g_max2 (ra_cons ((re_int 1)).sh (ra_cons ((re_call g_min2 (ra_cons ((re_var 1)).sh (ra_cons ((re_call g_len (ra_cons ((re_var 0)).sh ra_nil))).sh ra_nil)))).sh ra_nil)))).sh ra_nil)), (re_call0 (ra_cons ((re_var 0)).sh (ra_cons ((re_var 2)).sh ra_nil)))⟩
/-! ### _law_take -/
theorem sc_Ltake : FnScope ["bag", "many"] ["bag", "many"] (defScope s_Ltake) := ⟨rfl, rfl, rfl, by decide +kernel, rfl, by decide +kernel, by decide +kernel⟩
def f_Ltake : Fs := (sSeq (sSet 0 (dSh (dOp dAdd (dSh (dOpO dIx 0 (dSh (dC (.int 1))))) (dSh (dC (.int 1))))) (dSh (dC (.int 1))))
  (sRet (dOp dMod (dSh (dOp dIx (dSh (dOpO dIx 0 (dSh (dC (.int 0))))) (dSh (dOp dMod (dSh (dOpO dIx 0 (dSh (dC (.int 1))))) (dSh (dCall dLen (dCons (dSh (dOpO dIx 0 (dSh (dC (.int 0))))) dNil))))))) (dSh (dVar 1)))))
def F_Ltake : List D → List D → Res (Rv × List D) := runB 2 f_Ltake
theorem ok_Ltake {f : Addr} {fd : FuncData} (F : FnP Wr.K "_law_take" s_Ltake f fd) (hb : Bn mg) : FnOk P w Wr.K mg base CX0 1 f fd ["bag", "many"] (spB 2 EW0 F_Ltake) :=
  fnB (EW := EW0) (n := 2) (m := 2) (fs := f_Ltake) F sc_Ltake rfl rfl fun cdv A outer s H E hr => ⟨_, PSs.nox (pss_cons (ps_asg (pe_op op_addD (pe_ix ix_seq (pv 0) pe_int (fun _ _ => rfl)) pe_int) (pg_sub (pv 0) pe_int set_list))
      (pss_one (ps_ret (pe_op op_mod (pe_ix ix_seq (pe_ix ix_seq (pv 0) pe_int (fun _ _ => rfl)) (pe_op op_mod (pe_ix ix_seq (pv 0) pe_int (fun _ _ => rfl)) (pe_callB c_len (by rfl) hb.len b_len (pa_cons (pe_ix ix_seq (pv 0) pe_int (fun _ _ => rfl)) pa_nil))) (fun _ _ => rfl)) (pv 1))))),
    (rs_seq (rs_set 0 ((re_op g_add ((re_opO k_ix 0 ((re_int 1)).sh)).sh ((re_int 1)).sh)).sh ((re_int 1)).sh)
      (rs_ret (re_op g_mod ((re_op k_ix.g ((re_opO k_ix 0 ((re_int 0)).sh)).sh ((re_op g_mod ((re_opO k_ix 0 ((re_int 1)).sh)).sh ((re_call g_len (ra_cons ((re_opO k_ix 0 ((re_int 0)).sh)).sh ra_nil))).sh)).sh)).sh ((re_var 1)).sh)))⟩
/-! ### _law_mixed -/
theorem sc_Lmixed : FnScope ["bag", "many", "found", "one"] ["bag", "many"] (defScope s_Lmixed) := ⟨rfl, rfl, rfl, by decide +kernel, rfl, by decide +kernel, by decide +kernel⟩
def b_Lmixed_1 : Fs := (sWp [3] (sIns 2 (dSh (dCallB0 2 F_Ltake 0 (dCons (dSh (dVar 3)) dNil))) (dSh (dVar 3))))
def f_Lmixed : Fs := (sSeq (sAsg 2 (dLst dNil))
  (sSeq (sWp [1, 3] (sFor (dRng2 (dCons (dSh (dC (.int 1))) (dCons (dSh (dOp dAdd (dSh (dVar 1)) (dSh (dC (.int 1))))) dNil))) (gN 3) b_Lmixed_1))
  (sRet (dCall dTupleF (dCons (dSh (dVar 2)) dNil)))))
def F_Lmixed : List D → List D → Res (Rv × List D) := runB 4 f_Lmixed
theorem ok_Lmixed {f : Addr} {fd : FuncData} (F : FnP Wr.K "_law_mixed" s_Lmixed f fd) (hb : Bn mg) (c_Ltake : Cal0 P w Wr.K mg base 1 "_law_take" (spB 2 EW0 F_Ltake)) : FnOk P w Wr.K mg base CX0 2 f fd ["bag", "many"] (spB 2 EW0 F_Lmixed) :=
  fnB (EW := EW0) (n := 2) (m := 4) (fs := f_Lmixed) F sc_Lmixed rfl rfl fun cdv A outer s H E hr => ⟨_, PSs.nox (pss_cons (ps_set (i := 2) sc_Lmixed.nd rfl (by first | exact .inl rfl | exact .inr rfl) (pe_lst pa_nil))
      (pss_cons (ps_for PassesOwn.never rfl (pi_range2 (by rfl) hb.range (pa_cons pe_int (pa_cons (pe_op op_addD (pv 1) pe_int) pa_nil))) (pg_name (i := 3) sc_Lmixed.nd rfl (by first | exact .inl rfl | exact .inr rfl)) (pss_one (ps_expr (pe_bm PySem.F.plainAttrs_list PySem.F.slot_list_insert PySem.F.type_list_insert mt_insert (pv 2) (pa_cons (pe_c0 c_Ltake hr (by decide) (by rfl) (pa_cons (pv 0) (pa_cons (pv 3) pa_nil))) (pa_cons (pv 3) pa_nil))))))
      (pss_one (ps_ret (pe_callTy c_tuple (by rfl) hb.tuple b_tuple (pa_cons (pv 2) pa_nil)))))),
    (rs_seq (rs_asg 2 (re_lst ra_nil))
      (rs_seq (rs_wp [1, 3] (rs_for (ri_rng2 (ra_cons ((re_int 1)).sh (ra_cons ((re_op g_add ((re_var 1)).sh ((re_int 1)).sh)).sh ra_nil))) (rg_name 3) (rs_wp [3] (rs_ins 2 ((re_callB0 0 (ra_cons ((re_var 3)).sh ra_nil))).sh ((re_var 3)).sh))))
      (rs_ret (re_call g_tuple (ra_cons ((re_var 2)).sh ra_nil)))))⟩
/-! ### _law_cycles -/
theorem sc_Lcycles : FnScope ["laying", "found", "seen", "box", "row", "here"] ["laying"] (defScope s_Lcycles) := ⟨rfl, rfl, rfl, by decide +kernel, rfl, by decide +kernel, by decide +kernel⟩
def b_Lcycles_2 : Fs := (sSeq (sApp 2 (dSh (dVar 5)))
  (sSeq (sApp 4 (dSh (dVar 5)))
  (sAsg 5 (dS (dOp dIx (dSh (dVar 0)) (dSh (dVar 5)))))))
def b_Lcycles_1 : Fs := (sSeq (sWp [3] (sPar [4, 5] (vCons (dLst dNil) (vCons (dVar 3) vNil))))
  (sSeq (sWp [5] (sWhile (dB (dSh (dOpR dNotIn (dSh (dVar 5)) 2))) b_Lcycles_2 100000))
  (sWp [4] (sIf (dB (dSh (dOpO dNe 4 (dSh (dLst dNil))))) (sWp [4] (sApp 1 (dSh (dCall dTupleF (dCons (dSh (dVar 4)) dNil))))) sPass))))
def f_Lcycles : Fs := (sSeq (sPar [1, 2] (vCons (dLst dNil) (vCons (dLst dNil) vNil)))
  (sSeq (sWp [0, 2, 3, 4, 5] (sFor (dRng1 (dCons (dSh (dCall dLen (dCons (dSh (dVar 0)) dNil))) dNil)) (gN 3) b_Lcycles_1))
  (sRet (dMove 1))))
def F_Lcycles : List D → Res Rv := runP 6 f_Lcycles
theorem ok_Lcycles {f : Addr} {fd : FuncData} (F : FnP Wr.K "_law_cycles" s_Lcycles f fd) (hb : Bn mg) : FnOk P w Wr.K mg base CX0 1 f fd ["laying"] (spP 1 EW0 F_Lcycles) :=
  fnP (EW := EW0) (n := 1) (m := 6) (fs := f_Lcycles) F sc_Lcycles rfl rfl fun cdv A outer s H E hr => ⟨_, PSs.nox (pss_cons (ps_par (i := 1) (j := 2) rfl sc_Lcycles.nd rfl rfl (by decide) rfl rfl (pa_cons (pe_lst pa_nil) (pa_cons (pe_lst pa_nil) pa_nil)) (by rfl))
      (pss_cons (ps_for PassesOwn.never rfl (pi_range1 (by rfl) hb.range (pa_cons (pe_callB c_len (by rfl) hb.len b_len (pa_cons (pv 0) pa_nil)) pa_nil)) (pg_name (i := 3) sc_Lcycles.nd rfl (by first | exact .inl rfl | exact .inr rfl)) (pss_cons (ps_par (i := 4) (j := 5) rfl sc_Lcycles.nd rfl rfl (by decide) rfl rfl (pa_cons (pe_lst pa_nil) (pa_cons (pv 3) pa_nil)) (by rfl))
      (pss_cons (ps_while PassesOwn.never (pt_cmpR (op_notInAll (hu65 hr)) (pv 5) (pv 2) (by rfl)) (pss_cons (ps_expr (pe_bm PySem.F.plainAttrs_list PySem.F.slot_list_append PySem.F.type_list_append mt_append (pv 2) (pa_cons (pv 5) pa_nil)))
      (pss_cons (ps_expr (pe_bm PySem.F.plainAttrs_list PySem.F.slot_list_append PySem.F.type_list_append mt_append (pv 4) (pa_cons (pv 5) pa_nil)))
      (pss_one (ps_set (i := 5) sc_Lcycles.nd rfl (by first | exact .inl rfl | exact .inr rfl) (pe_ix ix_seq (pv 0) (pv 5) (fun _ _ => rfl)))))))
      (pss_one (ps_if (pt_cmpR (op_neD hr.units) (pv 4) (pe_lst pa_nil) (nomark _)) (pss_one (ps_expr (pe_bm PySem.F.plainAttrs_list PySem.F.slot_list_append PySem.F.type_list_append mt_append (pv 1) (pa_cons (pe_callTy c_tuple (by rfl) hb.tuple b_tuple (pa_cons (pv 4) pa_nil)) pa_nil)))) pss_nil)))))
      (pss_one (ps_ret (pv 1))))),
    (rs_seq (rs_par (rv_cons (re_lst ra_nil) (rv_cons (re_lst ra_nil) rv_nil)))
      (rs_seq (rs_wp [0, 2, 3, 4, 5] (rs_for (ri_rng1 (ra_cons ((re_call g_len (ra_cons ((re_var 0)).sh ra_nil))).sh ra_nil)) (rg_name 3) (rs_seq (rs_wp [3] (rs_par (rv_cons (re_lst ra_nil) (rv_cons (re_var 3) rv_nil))))
      (rs_seq (rs_wp [5] (rs_while 100000 (rt_test ((re_opR k_notIn ((re_var 5)).sh 2)).sh) (rs_seq (rs_app 2 ((re_var 5)).sh)
      (rs_seq (rs_app 4 ((re_var 5)).sh)
      (rs_asg 5 (re_S (re_op k_ix.g ((re_var 0)).sh ((re_var 5)).sh)))))))
      (rs_wp [4] (rs_if (rt_test ((re_opO k_ne 4 ((re_lst ra_nil)).sh)).sh) (rs_wp [4] (rs_app 1 ((re_call g_tuple (ra_cons ((re_var 4)).sh ra_nil))).sh)) rs_pass))))))
      (rs_ret (re_move 1))))⟩
/-! ### _law_laid -/
theorem sc_Llaid : FnScope ["bag", "many", "one"] ["bag", "many"] (defScope s_Llaid) := ⟨rfl, rfl, rfl, by decide +kernel, rfl, by decide +kernel, by decide +kernel⟩
def f_Llaid : Fs := (sRet (dCall dTupleF (dCons (dSh (dLc (dSeq (dSh (dCallB0 2 F_Lmixed 0 (dCons (dSh (dVar 1)) dNil)))) (gN 2) (fun ρ => .ok (true, ρ)) (dSh (dOp dSub (dSh (dVar 2)) (dSh (dC (.int 1))))) [2])) dNil)))
def F_Llaid : List D → List D → Res (Rv × List D) := runB 3 f_Llaid
theorem ok_Llaid {f : Addr} {fd : FuncData} (F : FnP Wr.K "_law_laid" s_Llaid f fd) (hb : Bn mg) (c_Lmixed : Cal0 P w Wr.K mg base 2 "_law_mixed" (spB 2 EW0 F_Lmixed)) : FnOk P w Wr.K mg base CX0 3 f fd ["bag", "many"] (spB 2 EW0 F_Llaid) :=
  fnB (EW := EW0) (n := 2) (m := 3) (fs := f_Llaid) F sc_Llaid rfl rfl fun cdv A outer s H E hr => ⟨_, PSs.nox (pss_one (ps_ret (pe_callTy c_tuple (by rfl) hb.tuple b_tuple (pa_cons (pe_lc (own := [("one", 2)]) (by rfl) sc_Llaid.nd (pi_seq (pe_c0 c_Lmixed hr (by decide) (by rfl) (pa_cons (pv 0) (pa_cons (pv 1) pa_nil)))) (blkOk_by (own := [("one", 2)]) (by kernel_rfl)) (fun _ _ _ _ _ => (pg_name (i := 2) sc_Llaid.nd rfl (by first | exact .inl rfl | exact .inr rfl))) (fun _ _ _ _ _ => pts_nil) (fun _ _ _ _ _ => (pe_op op_sub (pv 2) pe_int))) pa_nil)))),
    (rs_ret (re_call g_tuple (ra_cons ((re_lc (ri_seq ((re_callB0 0 (ra_cons ((re_var 1)).sh ra_nil))).sh) (rg_name 2) (by decide) rt_yes ((re_op g_sub ((re_var 2)).sh ((re_int 1)).sh)).sh)).sh ra_nil)))⟩
/-! ### _law_swapped -/
theorem sc_Lswapped : FnScope ["laying", "pair", "found"] ["laying", "pair"] (defScope s_Lswapped) := ⟨rfl, rfl, rfl, by decide +kernel, rfl, by decide +kernel, by decide +kernel⟩
def f_Lswapped : Fs := (sSeq (sAsg 2 (dCall dListF (dCons (dSh (dVar 0)) dNil)))
  (sSeq (sWp [0, 1] (sSwap 2 (dSh (dTup (dCons (dSh (dOp dIx (dSh (dVar 0)) (dSh (dOp dIx (dSh (dVar 1)) (dSh (dC (.int 1))))))) (dCons (dSh (dOp dIx (dSh (dVar 0)) (dSh (dOp dIx (dSh (dVar 1)) (dSh (dC (.int 0))))))) dNil)))) (dSh (dOp dIx (dSh (dVar 1)) (dSh (dC (.int 0))))) (dSh (dOp dIx (dSh (dVar 1)) (dSh (dC (.int 1)))))))
  (sRet (dCall dTupleF (dCons (dSh (dVar 2)) dNil)))))
def F_Lswapped : List D → Res Rv := runP 3 f_Lswapped
theorem ok_Lswapped {f : Addr} {fd : FuncData} (F : FnP Wr.K "_law_swapped" s_Lswapped f fd) (hb : Bn mg) : FnOk P w Wr.K mg base CX0 1 f fd ["laying", "pair"] (spP 2 EW0 F_Lswapped) :=
  fnP (EW := EW0) (n := 2) (m := 3) (fs := f_Lswapped) F sc_Lswapped rfl rfl fun cdv A outer s H E hr => ⟨_, PSs.nox (pss_cons (ps_set (i := 2) sc_Lswapped.nd rfl (by first | exact .inl rfl | exact .inr rfl) (pe_callTy c_list (by rfl) hb.list b_list (pa_cons (pv 0) pa_nil)))
      (pss_cons (ps_asg (pe_tupX (pa_cons (pe_ix ix_seq (pv 0) (pe_ix ix_seq (pv 1) pe_int (fun _ _ => rfl)) (fun _ _ => rfl)) (pa_cons (pe_ix ix_seq (pv 0) (pe_ix ix_seq (pv 1) pe_int (fun _ _ => rfl)) (fun _ _ => rfl)) pa_nil))) (pg_tup rfl (pgs_cons (pg_sub (pv 2) (pe_ix ix_seq (pv 1) pe_int (fun _ _ => rfl)) set_list) (pgs_cons (pg_sub (pv 2) (pe_ix ix_seq (pv 1) pe_int (fun _ _ => rfl)) set_list) pgs_nil))))
      (pss_one (ps_ret (pe_callTy c_tuple (by rfl) hb.tuple b_tuple (pa_cons (pv 2) pa_nil)))))),
    (rs_seq (rs_asg 2 (re_call g_list (ra_cons ((re_var 0)).sh ra_nil)))
      (rs_seq (rs_wp [0, 1] (rs_swap 2 ((re_tup (ra_cons ((re_op k_ix.g ((re_var 0)).sh ((re_op k_ix.g ((re_var 1)).sh ((re_int 1)).sh)).sh)).sh (ra_cons ((re_op k_ix.g ((re_var 0)).sh ((re_op k_ix.g ((re_var 1)).sh ((re_int 0)).sh)).sh)).sh ra_nil)))).sh ((re_op k_ix.g ((re_var 1)).sh ((re_int 0)).sh)).sh ((re_op k_ix.g ((re_var 1)).sh ((re_int 1)).sh)).sh))
      (rs_ret (re_call g_tuple (ra_cons ((re_var 2)).sh ra_nil)))))⟩
def q_law : Str := "law" ++ ".<locals>." ++ "<lambda>"
abbrev l_0 : Expr := (inE 1 (inE 0 (exS (inS 0 (inS 10 ((defBody s_law).getD 0 (.Pass ⟨0, 0, 0, 0⟩)))))))
def F_lam0 : List D → Res Rv := runL 3 (dCallF 2 F_behind (dCons (dSh (dVar 0)) (dCons (dSh (dVar 1)) dNil)))
theorem lok_0 (c : Addr) (hb : Bn mg) (c_behind : Cal1 P w Wr.K mg base 4 "behind" (spP 2 EWx F_behind)) : HX.LOk P w Wr.K mg base (L2N.CX P w) 5 (lamOf q_law l_0 c) ["a", "b", "c"] (spP 3 EWx F_lam0) :=
  lokP (EW := EWx) (n := 3) (ps := ["a", "b", "c"]) (by rw [lam_sc]; exact ⟨rfl, rfl, rfl, by decide, rfl, by decide +kernel, by decide +kernel, by decide +kernel, by decide +kernel⟩) (fun pm ctv us hl => match us, hl with | [_, _, _], _ => rfl) rfl fun f A outer s H E hr => ⟨_, (pe_c1 c_behind hr (by decide) (by rfl) (L2N.passes_call (L2N.takes_of (E := E) rfl rfl rfl rfl) fun _ _ _ _ h => h) (pa_cons (pv 0) (pa_cons (pv 1) pa_nil))), (re_callF (fun _ _ _ h => h) (ra_cons ((re_var 0)).sh (ra_cons ((re_var 1)).sh ra_nil)))⟩
abbrev l_1 : Expr := (inE 1 (inE 0 (exS (inS 11 ((defBody s_law).getD 0 (.Pass ⟨0, 0, 0, 0⟩))))))
def F_lam1 : List D → Res Rv := runL 3 (dCallF 2 F_row_to (dCons (dSh (dVar 0)) (dCons (dSh (dVar 1)) dNil)))
theorem lok_1 (c : Addr) (hb : Bn mg) (c_row_to : Cal1 P w Wr.K mg base 4 "row_to" (spP 2 EWx F_row_to)) : HX.LOk P w Wr.K mg base (L2N.CX P w) 5 (lamOf q_law l_1 c) ["a", "b", "c"] (spP 3 EWx F_lam1) :=
  lokP (EW := EWx) (n := 3) (ps := ["a", "b", "c"]) (by rw [lam_sc]; exact ⟨rfl, rfl, rfl, by decide, rfl, by decide +kernel, by decide +kernel, by decide +kernel, by decide +kernel⟩) (fun pm ctv us hl => match us, hl with | [_, _, _], _ => rfl) rfl fun f A outer s H E hr => ⟨_, (pe_c1 c_row_to hr (by decide) (by rfl) (L2N.passes_call (L2N.takes_of (E := E) rfl rfl rfl rfl) fun _ _ _ _ h => h) (pa_cons (pv 0) (pa_cons (pv 1) pa_nil))), (re_callF (fun _ _ _ h => h) (ra_cons ((re_var 0)).sh (ra_cons ((re_var 1)).sh ra_nil)))⟩
def Flams : Nat → List D → Res Rv
  | 0 => F_lam0
  | 1 => F_lam1
  | _ => fun _ => .no
/-! ### _law_refused -/
theorem b_ValueError : bootBuiltins "ValueError" = some (.type "ValueError") := by decide +kernel
theorem sc_Lrefused : FnScope ["call", "one", "two", "three", "kin", "e", "words", "word", "there"] ["call", "one", "two", "three"] (defScope s_Lrefused) := ⟨rfl, rfl, rfl, by decide +kernel, rfl, by decide +kernel, by decide +kernel⟩
def f_Lrefused : Fs := sSeq (sAsg 4 (dLst dNil)) (sSeq (sRef Flams) (sRet (dMove 4)))
def F_Lrefused : List D → Res Rv := runP 9 f_Lrefused
def g3w (b : Str → Bool) (a : Addr) : Fs := (sSeq (sAsg 6 (dLst (dCons (dSh (dTup (dCons (dSh (dC (.str "NoHouse"))) (dCons (dSh (dIsE a (b "NoHouse") 5)) dNil)))) (dCons (dSh (dTup (dCons (dSh (dC (.str "NoColour"))) (dCons (dSh (dIsE a (b "NoColour") 5)) dNil)))) dNil))))
  (sSeq (sAsg 6 (dOp dAdd (dSh (dVar 6)) (dSh (dLst (dCons (dSh (dTup (dCons (dSh (dC (.str "NoRow"))) (dCons (dSh (dIsE a (b "NoRow") 5)) dNil)))) dNil)))))
  (sSeq (sAsg 6 (dOp dAdd (dSh (dVar 6)) (dSh (dLst (dCons (dSh (dTup (dCons (dSh (dC (.str "NoBoxes"))) (dCons (dSh (dIsE a (b "NoBoxes") 5)) dNil)))) (dCons (dSh (dTup (dCons (dSh (dC (.str "NoLaying"))) (dCons (dSh (dIsE a (b "NoLaying") 5)) dNil)))) dNil))))))
  (sSeq (sAsg 6 (dOp dAdd (dSh (dVar 6)) (dSh (dLst (dCons (dSh (dTup (dCons (dSh (dC (.str "NoNumber"))) (dCons (dSh (dIsE a (b "NoNumber") 5)) dNil)))) (dCons (dSh (dTup (dCons (dSh (dC (.str "NoBox"))) (dCons (dSh (dIsE a (b "NoBox") 5)) dNil)))) dNil))))))
  (sSeq (sAsg 6 (dOp dAdd (dSh (dVar 6)) (dSh (dLst (dCons (dSh (dTup (dCons (dSh (dC (.str "NoKey"))) (dCons (dSh (dIsE a (b "NoKey") 5)) dNil)))) (dCons (dSh (dTup (dCons (dSh (dC (.str "Locks"))) (dCons (dSh (dIsE a (b "Locks") 5)) dNil)))) dNil))))))
  (sSeq (sAsg 6 (dOp dAdd (dSh (dVar 6)) (dSh (dLst (dCons (dSh (dTup (dCons (dSh (dC (.str "Unlike"))) (dCons (dSh (dIsE a (b "Unlike") 5)) dNil)))) dNil)))))
  (sSeq (sAsg 6 (dOp dAdd (dSh (dVar 6)) (dSh (dLst (dCons (dSh (dTup (dCons (dSh (dC (.str "Open"))) (dCons (dSh (dIsE a (b "Open") 5)) dNil)))) (dCons (dSh (dTup (dCons (dSh (dC (.str "Shut"))) (dCons (dSh (dIsE a (b "Shut") 5)) dNil)))) dNil))))))
  (sSeq (sAsg 6 (dOp dAdd (dSh (dVar 6)) (dSh (dLst (dCons (dSh (dTup (dCons (dSh (dC (.str "Full"))) (dCons (dSh (dIsE a (b "Full") 5)) dNil)))) dNil)))))
  (sSeq (sApp 6 (dSh (dTup (dCons (dSh (dC (.str "NothingLeft"))) (dCons (dSh (dIsE a (b "NothingLeft") 5)) dNil)))))
  (sAsg 4 (dOp dAdd (dSh (dLc (dSeqL (dSh (dVar 6))) (gT 2 (gsCons (gN 7) (gsCons (gN 8) gsNil))) (dB (dSh (dVar 8))) (dSh (dVar 7)) [7, 8])) (dSh (dLst (dCons (dSh (dIsE a true 5)) dNil))))))))))))))
def encW (p : Str × Bool) : D := .tuple [.str p.1, .bool p.2]
theorem g3w_one (b : Str → Bool) (a : Addr) (c : Str) (hc : ((RN.map fun d => (d, b d)).filter (·.2)).map (·.1) = [c]) : ∃ ρ', g3w b a ((nosE 9).set 5 (.sh (adrD a))) = .nx ρ' ∧ wipeE (ρ'.set 5 .no) [6] = (nosE 9).set 4 (.ow [.str c, .bool true]) := by
  have e : ((RN.map fun d => (d, b d)).filter (·.2)).map (fun p => PyData.str p.1) = [.str c] := by
    have := congrArg (List.map PyData.str) hc
    rw [List.map_map] at this
    exact this
  refine ⟨[.no, .no, .no, .no, .ow [.str c, .bool true], .sh (adrD a), .sh (.list ((RN.map fun d => (d, b d)).map encW)), .no, .no], ?_, rfl⟩
  unfold g3w
  simp [nosE, dIsE, adrD, szOk_of, isL, updL, -dLc_ap]
  rw [lc_fm1 encW (·.2) (fun p => .str p.1) (RN.map fun d => (d, b d)) [.no, .no, .no, .no, .no, .sh (adrD a), .sh (.list ((RN.map fun d => (d, b d)).map encW)), .no, .no] ?q1 ?q2 ?q3]
  case q1 => rfl
  case q2 => simp [RN]
  case q3 => exact fun p _ => ⟨_, rfl, by simp, rfl, fun _ => by simp⟩
  rw [e]
  simp [szOk_of, adrD, dIsE]
theorem g3w_ok : ∀ c ∈ RN, ∀ a, ∃ ρ', g3w (fun d => decide (c = d)) a ((nosE 9).set 5 (.sh (adrD a))) = .nx ρ' ∧ wipeE (ρ'.set 5 .no) [6] = (nosE 9).set 4 (.ow [.str c, .bool true]) := by
  have key : ∀ c ∈ RN, ((RN.map fun d => (d, decide (c = d))).filter (·.2)).map (·.1) = [c] := by decide +kernel
  exact fun c hc a => g3w_one _ a c (key c hc)
def tBx (a : Addr) (cls : Value) (d : Option Addr) : TS := (tSeq (tAsg (tLst (tCons (tTupX (tCons (tC (.str "NoHouse")) (tCons (tCB (HX.rIsA Wr.K cls d a) (tCons (tVar 5) (tCons (tC (.ref (He.ga Wr.K "NoHouse"))) tNil))) tNil))) (tCons (tTupX (tCons (tC (.str "NoColour")) (tCons (tCB (HX.rIsA Wr.K cls d a) (tCons (tVar 5) (tCons (tC (.ref (He.ga Wr.K "NoColour"))) tNil))) tNil))) tNil))) (gName 6))
  (tSeq (tAsg (tOp (rAddD Wr.K) (tVar 6) (tLst (tCons (tTupX (tCons (tC (.str "NoRow")) (tCons (tCB (HX.rIsA Wr.K cls d a) (tCons (tVar 5) (tCons (tC (.ref (He.ga Wr.K "NoRow"))) tNil))) tNil))) tNil))) (gName 6))
  (tSeq (tAsg (tOp (rAddD Wr.K) (tVar 6) (tLst (tCons (tTupX (tCons (tC (.str "NoBoxes")) (tCons (tCB (HX.rIsA Wr.K cls d a) (tCons (tVar 5) (tCons (tC (.ref (He.ga Wr.K "NoBoxes"))) tNil))) tNil))) (tCons (tTupX (tCons (tC (.str "NoLaying")) (tCons (tCB (HX.rIsA Wr.K cls d a) (tCons (tVar 5) (tCons (tC (.ref (He.ga Wr.K "NoLaying"))) tNil))) tNil))) tNil)))) (gName 6))
  (tSeq (tAsg (tOp (rAddD Wr.K) (tVar 6) (tLst (tCons (tTupX (tCons (tC (.str "NoNumber")) (tCons (tCB (HX.rIsA Wr.K cls d a) (tCons (tVar 5) (tCons (tC (.ref (He.ga Wr.K "NoNumber"))) tNil))) tNil))) (tCons (tTupX (tCons (tC (.str "NoBox")) (tCons (tCB (HX.rIsA Wr.K cls d a) (tCons (tVar 5) (tCons (tC (.ref (He.ga Wr.K "NoBox"))) tNil))) tNil))) tNil)))) (gName 6))
  (tSeq (tAsg (tOp (rAddD Wr.K) (tVar 6) (tLst (tCons (tTupX (tCons (tC (.str "NoKey")) (tCons (tCB (HX.rIsA Wr.K cls d a) (tCons (tVar 5) (tCons (tC (.ref (He.ga Wr.K "NoKey"))) tNil))) tNil))) (tCons (tTupX (tCons (tC (.str "Locks")) (tCons (tCB (HX.rIsA Wr.K cls d a) (tCons (tVar 5) (tCons (tC (.ref (He.ga Wr.K "Locks"))) tNil))) tNil))) tNil)))) (gName 6))
  (tSeq (tAsg (tOp (rAddD Wr.K) (tVar 6) (tLst (tCons (tTupX (tCons (tC (.str "Unlike")) (tCons (tCB (HX.rIsA Wr.K cls d a) (tCons (tVar 5) (tCons (tC (.ref (He.ga Wr.K "Unlike"))) tNil))) tNil))) tNil))) (gName 6))
  (tSeq (tAsg (tOp (rAddD Wr.K) (tVar 6) (tLst (tCons (tTupX (tCons (tC (.str "Open")) (tCons (tCB (HX.rIsA Wr.K cls d a) (tCons (tVar 5) (tCons (tC (.ref (He.ga Wr.K "Open"))) tNil))) tNil))) (tCons (tTupX (tCons (tC (.str "Shut")) (tCons (tCB (HX.rIsA Wr.K cls d a) (tCons (tVar 5) (tCons (tC (.ref (He.ga Wr.K "Shut"))) tNil))) tNil))) tNil)))) (gName 6))
  (tSeq (tAsg (tOp (rAddD Wr.K) (tVar 6) (tLst (tCons (tTupX (tCons (tC (.str "Full")) (tCons (tCB (HX.rIsA Wr.K cls d a) (tCons (tVar 5) (tCons (tC (.ref (He.ga Wr.K "Full"))) tNil))) tNil))) tNil))) (gName 6))
  (tSeq (tDrop (tBM Wr.K "list" rAppend (tVar 6) (tCons (tTupX (tCons (tC (.str "NothingLeft")) (tCons (tCB (HX.rIsA Wr.K cls d a) (tCons (tVar 5) (tCons (tC (.ref (He.ga Wr.K "NothingLeft"))) tNil))) tNil))) tNil)))
  (tAsg (tOp (rAddD Wr.K) (tLc (HX.iLst Wr.K (tVar 6)) (gTup Wr.K 2 (gCons (gName 7) (gCons (gName 8) gNil))) (tB (tVar 8)) (tVar 7) [7, 8]) (tLst (tCons (tCB (HX.rIsA Wr.K cls d a) (tCons (tVar 5) (tCons (tC (.ty "ValueError")) tNil))) tNil))) (gName 4)))))))))))
theorem ok_Lrefused {f : Addr} {fd : FuncData} (F : FnP Wr.K "_law_refused" s_Lrefused f fd) (hb : Bn mg) (hL : ∀ j c', HX.LOk P w Wr.K mg base (L2N.CX P w) 5 (Wr.lm j c') ["a", "b", "c"] (spP 3 EWx (Flams j))) (hR : RefAll Wr.K mg) : FnOk P w Wr.K mg base CX0 6 f fd ["call", "one", "two", "three"] (spP 4 EW0 F_Lrefused) :=
  fnP (EW := EW0) (n := 4) (m := 9) (fs := f_Lrefused) F sc_Lrefused rfl rfl fun cdv A outer s H E hr => ⟨_, PSs.nox (pss_cons (ps_set (i := 4) sc_Lrefused.nd rfl (by first | exact .inl rfl | exact .inr rfl) (pe_lst pa_nil))
      (pss_cons (by
        apply HX.ps_try_nm (X := (cxOf CX0 P w Wr.K mg base ["call", "one", "two", "three", "kin", "e", "words", "word", "there"] "_law_refused" (defScope s_Lrefused) f cdv A outer s H E).nox) (n := "e") (i := 5) (tb := fun W => tDrop (HX.tCallS Wr.lm 0 (fun j => spP 3 EWx (Flams j)) W (tCons (tVar 1) (tCons (tVar 2) (tCons (tVar 3) tNil))))) (Wout := fun _ _ _ _ => False) rfl rfl sc_Lrefused.nd rfl rfl (fun u s' x => by obtain ⟨_, _, _, _, _, _, _, _, _, _, _, _, _, _, _, _, z⟩ := x; exact z.elim)
        case hb => exact (fun W pn xe tk _ => pss_one (ps_expr (HX.pe_callLmS (x := "call") (W := W) (sp := fun j => spP 3 EWx (Flams j)) hL hr (by decide) tk rfl (by first | exact .inl rfl | exact .inr (.inl rfl)) (pa_cons (pv 1) (pa_cons (pv 2) (pa_cons (pv 3) pa_nil))))))
        case hh =>
          apply HX.NmOk.cons ⟨by rfl, by decide, .inl (hR.g "TooMany" (by decide))⟩
          case hsu => exact fun a oe cls d pn hz hf => pss_one ps_never
          case r =>
            apply HX.NmOk.cons ⟨by rfl, by decide, .inl (hR.g "Locked" (by decide))⟩
            case hsu => exact fun a oe cls d pn hz hf => pss_one ps_never
            case r =>
              apply HX.NmOk.cons ⟨by rfl, by decide, .inl (hR.g "BoxError" (by decide))⟩
              case hsu =>
                intro a oe cls d pn hz hf
                exact (pss_cons (ps_set (i := 6) sc_Lrefused.nd rfl (by first | exact .inl rfl | exact .inr rfl) (pe_lst (pa_cons (pe_tupX (pa_cons pe_str (pa_cons (pe_callB (HX.call_isA (X := (cxOf CX0 P w Wr.K mg base ["call", "one", "two", "three", "kin", "e", "words", "word", "there"] "_law_refused" (defScope s_Lrefused) f cdv A outer s H E).nox) (a := a) (pn := pn) hz hf) (by rfl) hb.isinstance b_isinstance (pa_cons (pv 5) (pa_cons (pe_glob (v := .ref (He.ga Wr.K "NoHouse")) (by rfl) (hR.g "NoHouse" (by decide)) (by exact rfl)) pa_nil))) pa_nil))) (pa_cons (pe_tupX (pa_cons pe_str (pa_cons (pe_callB (HX.call_isA (X := (cxOf CX0 P w Wr.K mg base ["call", "one", "two", "three", "kin", "e", "words", "word", "there"] "_law_refused" (defScope s_Lrefused) f cdv A outer s H E).nox) (a := a) (pn := pn) hz hf) (by rfl) hb.isinstance b_isinstance (pa_cons (pv 5) (pa_cons (pe_glob (v := .ref (He.ga Wr.K "NoColour")) (by rfl) (hR.g "NoColour" (by decide)) (by exact rfl)) pa_nil))) pa_nil))) pa_nil))))
      (pss_cons (ps_set (i := 6) sc_Lrefused.nd rfl (by first | exact .inl rfl | exact .inr rfl) (pe_op op_addD (pv 6) (pe_lst (pa_cons (pe_tupX (pa_cons pe_str (pa_cons (pe_callB (HX.call_isA (X := (cxOf CX0 P w Wr.K mg base ["call", "one", "two", "three", "kin", "e", "words", "word", "there"] "_law_refused" (defScope s_Lrefused) f cdv A outer s H E).nox) (a := a) (pn := pn) hz hf) (by rfl) hb.isinstance b_isinstance (pa_cons (pv 5) (pa_cons (pe_glob (v := .ref (He.ga Wr.K "NoRow")) (by rfl) (hR.g "NoRow" (by decide)) (by exact rfl)) pa_nil))) pa_nil))) pa_nil))))
      (pss_cons (ps_set (i := 6) sc_Lrefused.nd rfl (by first | exact .inl rfl | exact .inr rfl) (pe_op op_addD (pv 6) (pe_lst (pa_cons (pe_tupX (pa_cons pe_str (pa_cons (pe_callB (HX.call_isA (X := (cxOf CX0 P w Wr.K mg base ["call", "one", "two", "three", "kin", "e", "words", "word", "there"] "_law_refused" (defScope s_Lrefused) f cdv A outer s H E).nox) (a := a) (pn := pn) hz hf) (by rfl) hb.isinstance b_isinstance (pa_cons (pv 5) (pa_cons (pe_glob (v := .ref (He.ga Wr.K "NoBoxes")) (by rfl) (hR.g "NoBoxes" (by decide)) (by exact rfl)) pa_nil))) pa_nil))) (pa_cons (pe_tupX (pa_cons pe_str (pa_cons (pe_callB (HX.call_isA (X := (cxOf CX0 P w Wr.K mg base ["call", "one", "two", "three", "kin", "e", "words", "word", "there"] "_law_refused" (defScope s_Lrefused) f cdv A outer s H E).nox) (a := a) (pn := pn) hz hf) (by rfl) hb.isinstance b_isinstance (pa_cons (pv 5) (pa_cons (pe_glob (v := .ref (He.ga Wr.K "NoLaying")) (by rfl) (hR.g "NoLaying" (by decide)) (by exact rfl)) pa_nil))) pa_nil))) pa_nil)))))
      (pss_cons (ps_set (i := 6) sc_Lrefused.nd rfl (by first | exact .inl rfl | exact .inr rfl) (pe_op op_addD (pv 6) (pe_lst (pa_cons (pe_tupX (pa_cons pe_str (pa_cons (pe_callB (HX.call_isA (X := (cxOf CX0 P w Wr.K mg base ["call", "one", "two", "three", "kin", "e", "words", "word", "there"] "_law_refused" (defScope s_Lrefused) f cdv A outer s H E).nox) (a := a) (pn := pn) hz hf) (by rfl) hb.isinstance b_isinstance (pa_cons (pv 5) (pa_cons (pe_glob (v := .ref (He.ga Wr.K "NoNumber")) (by rfl) (hR.g "NoNumber" (by decide)) (by exact rfl)) pa_nil))) pa_nil))) (pa_cons (pe_tupX (pa_cons pe_str (pa_cons (pe_callB (HX.call_isA (X := (cxOf CX0 P w Wr.K mg base ["call", "one", "two", "three", "kin", "e", "words", "word", "there"] "_law_refused" (defScope s_Lrefused) f cdv A outer s H E).nox) (a := a) (pn := pn) hz hf) (by rfl) hb.isinstance b_isinstance (pa_cons (pv 5) (pa_cons (pe_glob (v := .ref (He.ga Wr.K "NoBox")) (by rfl) (hR.g "NoBox" (by decide)) (by exact rfl)) pa_nil))) pa_nil))) pa_nil)))))
      (pss_cons (ps_set (i := 6) sc_Lrefused.nd rfl (by first | exact .inl rfl | exact .inr rfl) (pe_op op_addD (pv 6) (pe_lst (pa_cons (pe_tupX (pa_cons pe_str (pa_cons (pe_callB (HX.call_isA (X := (cxOf CX0 P w Wr.K mg base ["call", "one", "two", "three", "kin", "e", "words", "word", "there"] "_law_refused" (defScope s_Lrefused) f cdv A outer s H E).nox) (a := a) (pn := pn) hz hf) (by rfl) hb.isinstance b_isinstance (pa_cons (pv 5) (pa_cons (pe_glob (v := .ref (He.ga Wr.K "NoKey")) (by rfl) (hR.g "NoKey" (by decide)) (by exact rfl)) pa_nil))) pa_nil))) (pa_cons (pe_tupX (pa_cons pe_str (pa_cons (pe_callB (HX.call_isA (X := (cxOf CX0 P w Wr.K mg base ["call", "one", "two", "three", "kin", "e", "words", "word", "there"] "_law_refused" (defScope s_Lrefused) f cdv A outer s H E).nox) (a := a) (pn := pn) hz hf) (by rfl) hb.isinstance b_isinstance (pa_cons (pv 5) (pa_cons (pe_glob (v := .ref (He.ga Wr.K "Locks")) (by rfl) (hR.g "Locks" (by decide)) (by exact rfl)) pa_nil))) pa_nil))) pa_nil)))))
      (pss_cons (ps_set (i := 6) sc_Lrefused.nd rfl (by first | exact .inl rfl | exact .inr rfl) (pe_op op_addD (pv 6) (pe_lst (pa_cons (pe_tupX (pa_cons pe_str (pa_cons (pe_callB (HX.call_isA (X := (cxOf CX0 P w Wr.K mg base ["call", "one", "two", "three", "kin", "e", "words", "word", "there"] "_law_refused" (defScope s_Lrefused) f cdv A outer s H E).nox) (a := a) (pn := pn) hz hf) (by rfl) hb.isinstance b_isinstance (pa_cons (pv 5) (pa_cons (pe_glob (v := .ref (He.ga Wr.K "Unlike")) (by rfl) (hR.g "Unlike" (by decide)) (by exact rfl)) pa_nil))) pa_nil))) pa_nil))))
      (pss_cons (ps_set (i := 6) sc_Lrefused.nd rfl (by first | exact .inl rfl | exact .inr rfl) (pe_op op_addD (pv 6) (pe_lst (pa_cons (pe_tupX (pa_cons pe_str (pa_cons (pe_callB (HX.call_isA (X := (cxOf CX0 P w Wr.K mg base ["call", "one", "two", "three", "kin", "e", "words", "word", "there"] "_law_refused" (defScope s_Lrefused) f cdv A outer s H E).nox) (a := a) (pn := pn) hz hf) (by rfl) hb.isinstance b_isinstance (pa_cons (pv 5) (pa_cons (pe_glob (v := .ref (He.ga Wr.K "Open")) (by rfl) (hR.g "Open" (by decide)) (by exact rfl)) pa_nil))) pa_nil))) (pa_cons (pe_tupX (pa_cons pe_str (pa_cons (pe_callB (HX.call_isA (X := (cxOf CX0 P w Wr.K mg base ["call", "one", "two", "three", "kin", "e", "words", "word", "there"] "_law_refused" (defScope s_Lrefused) f cdv A outer s H E).nox) (a := a) (pn := pn) hz hf) (by rfl) hb.isinstance b_isinstance (pa_cons (pv 5) (pa_cons (pe_glob (v := .ref (He.ga Wr.K "Shut")) (by rfl) (hR.g "Shut" (by decide)) (by exact rfl)) pa_nil))) pa_nil))) pa_nil)))))
      (pss_cons (ps_set (i := 6) sc_Lrefused.nd rfl (by first | exact .inl rfl | exact .inr rfl) (pe_op op_addD (pv 6) (pe_lst (pa_cons (pe_tupX (pa_cons pe_str (pa_cons (pe_callB (HX.call_isA (X := (cxOf CX0 P w Wr.K mg base ["call", "one", "two", "three", "kin", "e", "words", "word", "there"] "_law_refused" (defScope s_Lrefused) f cdv A outer s H E).nox) (a := a) (pn := pn) hz hf) (by rfl) hb.isinstance b_isinstance (pa_cons (pv 5) (pa_cons (pe_glob (v := .ref (He.ga Wr.K "Full")) (by rfl) (hR.g "Full" (by decide)) (by exact rfl)) pa_nil))) pa_nil))) pa_nil))))
      (pss_cons (ps_expr (pe_bm PySem.F.plainAttrs_list PySem.F.slot_list_append PySem.F.type_list_append mt_append (pv 6) (pa_cons (pe_tupX (pa_cons pe_str (pa_cons (pe_callB (HX.call_isA (X := (cxOf CX0 P w Wr.K mg base ["call", "one", "two", "three", "kin", "e", "words", "word", "there"] "_law_refused" (defScope s_Lrefused) f cdv A outer s H E).nox) (a := a) (pn := pn) hz hf) (by rfl) hb.isinstance b_isinstance (pa_cons (pv 5) (pa_cons (pe_glob (v := .ref (He.ga Wr.K "NothingLeft")) (by rfl) (hR.g "NothingLeft" (by decide)) (by exact rfl)) pa_nil))) pa_nil))) pa_nil)))
      (pss_one (ps_set (i := 4) sc_Lrefused.nd rfl (by first | exact .inl rfl | exact .inr rfl) (pe_op op_addD (by
                  apply HX.pe_lcH (own := [("word", 7), ("there", 8)]) (HX.hot_suite (X := (cxOf CX0 P w Wr.K mg base ["call", "one", "two", "three", "kin", "e", "words", "word", "there"] "_law_refused" (defScope s_Lrefused) f cdv A outer s H E).nox) (a := a) (pn := pn) hz hf) sc_Lrefused.nd
                  case hi => exact HX.pi_lstH (pv 6)
                  case ok => exact blkOk_by (own := [("word", 7), ("there", 8)]) (by kernel_rfl)
                  case hg => exact fun _ _ _ _ _ _ h1 => HX.pg_tupH (HX.hot_blk h1) (pgs_cons (pg_name (i := 7) sc_Lrefused.nd rfl (by first | exact .inl rfl | exact .inr rfl)) (pgs_cons (pg_name (i := 8) sc_Lrefused.nd rfl (by first | exact .inl rfl | exact .inr rfl)) pgs_nil))
                  case ht => exact fun _ _ _ _ _ _ _ => pts_one (pt_val (pv 8))
                  case he => exact fun _ _ _ _ _ _ _ => pv 7) (pe_lst (pa_cons (pe_callB (HX.call_isA (X := (cxOf CX0 P w Wr.K mg base ["call", "one", "two", "three", "kin", "e", "words", "word", "there"] "_law_refused" (defScope s_Lrefused) f cdv A outer s H E).nox) (a := a) (pn := pn) hz hf) (by rfl) hb.isinstance b_isinstance (pa_cons (pv 5) (pa_cons (pe_bltn (v := .ty "ValueError") (by rfl) hR.v b_ValueError rfl) pa_nil))) pa_nil))))))))))))))
              case r => exact HX.NmOk.nil)
      (pss_one (ps_ret (pv 4))))),
    rs_seq (rs_asg 4 (re_lst ra_nil)) (rs_seq (rs_ref (t3 := tBx) (g3 := fun c => g3w fun d => decide (c = d)) (fun c hc => (refB_one hR.b hc).2.2.1) (fun c hc => (refB_one hR.b hc).2.2.2.1) (fun c hc => (refB_one hR.b hc).2.2.2.2.1) (fun c hc a => by
        have C := (refB_one hR.b hc).1
        have kv := (refB_one hR.b hc).2.1
        have kk := (refB_one hR.b hc).2.2.2.2.2
        exact (rs_seq (rs_asg 6 (re_lst (ra_cons ((re_tup (ra_cons (re_str _).sh (ra_cons ((re_isE (v := .ref (He.ga Wr.K "NoHouse")) (cv := .ref (He.ga Wr.K "NoHouse")) 5 C (fun u h => h) (kk "NoHouse" (by decide)))).sh ra_nil)))).sh (ra_cons ((re_tup (ra_cons (re_str _).sh (ra_cons ((re_isE (v := .ref (He.ga Wr.K "NoColour")) (cv := .ref (He.ga Wr.K "NoColour")) 5 C (fun u h => h) (kk "NoColour" (by decide)))).sh ra_nil)))).sh ra_nil))))
      (rs_seq (rs_asg 6 (re_op g_add (re_var 6).sh ((re_lst (ra_cons ((re_tup (ra_cons (re_str _).sh (ra_cons ((re_isE (v := .ref (He.ga Wr.K "NoRow")) (cv := .ref (He.ga Wr.K "NoRow")) 5 C (fun u h => h) (kk "NoRow" (by decide)))).sh ra_nil)))).sh ra_nil))).sh))
      (rs_seq (rs_asg 6 (re_op g_add (re_var 6).sh ((re_lst (ra_cons ((re_tup (ra_cons (re_str _).sh (ra_cons ((re_isE (v := .ref (He.ga Wr.K "NoBoxes")) (cv := .ref (He.ga Wr.K "NoBoxes")) 5 C (fun u h => h) (kk "NoBoxes" (by decide)))).sh ra_nil)))).sh (ra_cons ((re_tup (ra_cons (re_str _).sh (ra_cons ((re_isE (v := .ref (He.ga Wr.K "NoLaying")) (cv := .ref (He.ga Wr.K "NoLaying")) 5 C (fun u h => h) (kk "NoLaying" (by decide)))).sh ra_nil)))).sh ra_nil)))).sh))
      (rs_seq (rs_asg 6 (re_op g_add (re_var 6).sh ((re_lst (ra_cons ((re_tup (ra_cons (re_str _).sh (ra_cons ((re_isE (v := .ref (He.ga Wr.K "NoNumber")) (cv := .ref (He.ga Wr.K "NoNumber")) 5 C (fun u h => h) (kk "NoNumber" (by decide)))).sh ra_nil)))).sh (ra_cons ((re_tup (ra_cons (re_str _).sh (ra_cons ((re_isE (v := .ref (He.ga Wr.K "NoBox")) (cv := .ref (He.ga Wr.K "NoBox")) 5 C (fun u h => h) (kk "NoBox" (by decide)))).sh ra_nil)))).sh ra_nil)))).sh))
      (rs_seq (rs_asg 6 (re_op g_add (re_var 6).sh ((re_lst (ra_cons ((re_tup (ra_cons (re_str _).sh (ra_cons ((re_isE (v := .ref (He.ga Wr.K "NoKey")) (cv := .ref (He.ga Wr.K "NoKey")) 5 C (fun u h => h) (kk "NoKey" (by decide)))).sh ra_nil)))).sh (ra_cons ((re_tup (ra_cons (re_str _).sh (ra_cons ((re_isE (v := .ref (He.ga Wr.K "Locks")) (cv := .ref (He.ga Wr.K "Locks")) 5 C (fun u h => h) (kk "Locks" (by decide)))).sh ra_nil)))).sh ra_nil)))).sh))
      (rs_seq (rs_asg 6 (re_op g_add (re_var 6).sh ((re_lst (ra_cons ((re_tup (ra_cons (re_str _).sh (ra_cons ((re_isE (v := .ref (He.ga Wr.K "Unlike")) (cv := .ref (He.ga Wr.K "Unlike")) 5 C (fun u h => h) (kk "Unlike" (by decide)))).sh ra_nil)))).sh ra_nil))).sh))
      (rs_seq (rs_asg 6 (re_op g_add (re_var 6).sh ((re_lst (ra_cons ((re_tup (ra_cons (re_str _).sh (ra_cons ((re_isE (v := .ref (He.ga Wr.K "Open")) (cv := .ref (He.ga Wr.K "Open")) 5 C (fun u h => h) (kk "Open" (by decide)))).sh ra_nil)))).sh (ra_cons ((re_tup (ra_cons (re_str _).sh (ra_cons ((re_isE (v := .ref (He.ga Wr.K "Shut")) (cv := .ref (He.ga Wr.K "Shut")) 5 C (fun u h => h) (kk "Shut" (by decide)))).sh ra_nil)))).sh ra_nil)))).sh))
      (rs_seq (rs_asg 6 (re_op g_add (re_var 6).sh ((re_lst (ra_cons ((re_tup (ra_cons (re_str _).sh (ra_cons ((re_isE (v := .ref (He.ga Wr.K "Full")) (cv := .ref (He.ga Wr.K "Full")) 5 C (fun u h => h) (kk "Full" (by decide)))).sh ra_nil)))).sh ra_nil))).sh))
      (rs_seq (rs_app 6 ((re_tup (ra_cons (re_str _).sh (ra_cons ((re_isE (v := .ref (He.ga Wr.K "NothingLeft")) (cv := .ref (He.ga Wr.K "NothingLeft")) 5 C (fun u h => h) (kk "NothingLeft" (by decide)))).sh ra_nil)))).sh)
      (rs_asg 4 (re_op g_add ((re_lc (ri_lst (re_var 6).sh) (rg_tup (rgs_cons (rg_name 7) (rgs_cons (rg_name 8) rgs_nil))) (by decide) (rt_B (re_var 8).sh) (re_var 7).sh)).sh (re_lst (ra_cons (re_isE (v := .ty "ValueError") (cv := .type "ValueError") 5 C (fun u h => h) kv).sh ra_nil)).sh)))))))))))) g3w_ok) (rs_ret (re_move 4)))⟩
/-! ### _law_pairs -/
theorem sc_Lpairs : FnScope ["many", "found", "one", "other"] ["many"] (defScope s_Lpairs) := ⟨rfl, rfl, rfl, by decide +kernel, rfl, by decide +kernel, by decide +kernel⟩
def b_Lpairs_1 : Fs := (sWp [2] (sAsg 1 (dS (dOp dAdd (dSh (dVar 1)) (dSh (dLc (dRng2 (dCons (dSh (dOp dAdd (dSh (dVar 2)) (dSh (dC (.int 1))))) (dCons (dSh (dVar 0)) dNil))) (gN 3) (fun ρ => .ok (true, ρ)) (dSh (dTup (dCons (dSh (dVar 2)) (dCons (dSh (dVar 3)) dNil)))) [3]))))))
def f_Lpairs : Fs := (sSeq (sAsg 1 (dS (dLst dNil)))
  (sSeq (sWp [0, 2] (sFor (dRng1 (dCons (dSh (dVar 0)) dNil)) (gN 2) b_Lpairs_1))
  (sRet (dVar 1))))
def F_Lpairs : List D → Res Rv := runP 4 f_Lpairs
theorem ok_Lpairs {f : Addr} {fd : FuncData} (F : FnP Wr.K "_law_pairs" s_Lpairs f fd) (hb : Bn mg) : FnOk P w Wr.K mg base CX0 1 f fd ["many"] (spP 1 EW0 F_Lpairs) :=
  fnP (EW := EW0) (n := 1) (m := 4) (fs := f_Lpairs) F sc_Lpairs rfl rfl fun cdv A outer s H E hr => ⟨_, PSs.nox (pss_cons (ps_set (i := 1) sc_Lpairs.nd rfl (by first | exact .inl rfl | exact .inr rfl) (pe_lst pa_nil))
      (pss_cons (ps_for PassesOwn.never rfl (pi_range1 (by rfl) hb.range (pa_cons (pv 0) pa_nil)) (pg_name (i := 2) sc_Lpairs.nd rfl (by first | exact .inl rfl | exact .inr rfl)) (pss_one (ps_set (i := 1) sc_Lpairs.nd rfl (by first | exact .inl rfl | exact .inr rfl) (pe_op op_addD (pv 1) (pe_lc (own := [("other", 3)]) (by rfl) sc_Lpairs.nd (pi_range2 (by rfl) hb.range (pa_cons (pe_op op_addD (pv 2) pe_int) (pa_cons (pv 0) pa_nil))) (blkOk_by (own := [("other", 3)]) (by kernel_rfl)) (fun _ _ _ _ _ => (pg_name (i := 3) sc_Lpairs.nd rfl (by first | exact .inl rfl | exact .inr rfl))) (fun _ _ _ _ _ => pts_nil) (fun _ _ _ _ _ => (pe_tupX (pa_cons (pv 2) (pa_cons (pv 3) pa_nil)))))))))
      (pss_one (ps_ret (pv 1))))),
    (rs_seq (rs_asg 1 (re_S (re_lst ra_nil)))
      (rs_seq (rs_wp [0, 2] (rs_for (ri_rng1 (ra_cons ((re_var 0)).sh ra_nil)) (rg_name 2) (rs_wp [2] (rs_asg 1 (re_S (re_op g_add ((re_var 1)).sh ((re_lc (ri_rng2 (ra_cons ((re_op g_add ((re_var 2)).sh ((re_int 1)).sh)).sh (ra_cons ((re_var 0)).sh ra_nil))) (rg_name 3) (by decide) rt_yes ((re_tup (ra_cons ((re_var 2)).sh (ra_cons ((re_var 3)).sh ra_nil)))).sh)).sh))))))
      (rs_ret (re_var 1))))⟩
/-! ### _law_steps -/
theorem sc_Lsteps : FnScope ["laying", "found", "layer", "steps", "later", "here", "pair", "there"] ["laying"] (defScope s_Lsteps) := ⟨rfl, rfl, rfl, by decide +kernel, rfl, by decide +kernel, by decide +kernel⟩
def b_Lsteps_3 : Fs := (sSeq (sWp [6] (sAsg 7 (dS (dCall0 2 F_Lswapped (dCons (dSh (dVar 5)) (dCons (dSh (dVar 6)) dNil))))))
  (sWp [7] (sIf (dB (dSh (dNotInT (dSh (dVar 7)) 1))) (sSeq (sPutT 1 (dSh (dVar 3)) (dSh (dVar 7)))
  (sWp [7] (sApp 4 (dSh (dVar 7))))) sPass)))
def b_Lsteps_2 : Fs := (sWp [5, 6, 7] (sFor (dSeq (dSh (dCall0 1 F_Lpairs (dCons (dSh (dCall dLen (dCons (dSh (dVar 0)) dNil))) dNil)))) (gN 6) b_Lsteps_3))
def b_Lsteps_1 : Fs := (sSeq (sPar [4, 3] (vCons (dLst dNil) (vCons (dS (dOp dAdd (dSh (dVar 3)) (dSh (dC (.int 1))))) vNil)))
  (sSeq (sWp [2, 5, 6, 7] (sFor (dSeq (dSh (dVar 2))) (gN 5) b_Lsteps_2))
  (sWp [4] (sAsg 2 (dS (dMove 4))))))
def f_Lsteps : Fs := (sSeq (sSt1 1 2 3 0)
  (sSeq (sWp [0, 2, 3, 4, 5, 6, 7] (sWhile (dB (dSh (dOp dNe (dSh (dVar 2)) (dSh (dLst dNil))))) b_Lsteps_1 100000))
  (sRet (dMoveK 1))))
def F_Lsteps : List D → Res Rv := runP 8 f_Lsteps
theorem ok_Lsteps {f : Addr} {fd : FuncData} (F : FnP Wr.K "_law_steps" s_Lsteps f fd) (hb : Bn mg) (c_Lpairs : Cal0 P w Wr.K mg base 1 "_law_pairs" (spP 1 EW0 F_Lpairs)) (c_Lswapped : Cal0 P w Wr.K mg base 1 "_law_swapped" (spP 2 EW0 F_Lswapped)) : FnOk P w Wr.K mg base CX0 2 f fd ["laying"] (spP 1 EW0 F_Lsteps) :=
  fnP (EW := EW0) (n := 1) (m := 8) (fs := f_Lsteps) F sc_Lsteps rfl rfl fun cdv A outer s H E hr => ⟨_, PSs.nox (pss_cons (ps_par3 (i := 1) (j := 2) (l := 3) rfl sc_Lsteps.nd rfl rfl rfl (by decide) (by decide) (by decide) rfl rfl rfl (pa_cons (HX.pe_disp1 (hu_of hr) (pv 0) pe_int) (pa_cons (pe_lst (pa_cons (pv 0) pa_nil)) (pa_cons pe_int pa_nil))) (by rfl))
      (pss_cons (ps_while PassesOwn.never (pt_cmpR (op_neD hr.units) (pv 2) (pe_lst pa_nil) (nomark _)) (pss_cons (ps_par (i := 4) (j := 3) rfl sc_Lsteps.nd rfl rfl (by decide) rfl rfl (pa_cons (pe_lst pa_nil) (pa_cons (pe_op op_addD (pv 3) pe_int) pa_nil)) (by rfl))
      (pss_cons (ps_for PassesOwn.never rfl (pi_seq (pv 2)) (pg_name (i := 5) sc_Lsteps.nd rfl (by first | exact .inl rfl | exact .inr rfl)) (pss_one (ps_for PassesOwn.never rfl (pi_seq (pe_c0 c_Lpairs hr (by decide) (by rfl) (pa_cons (pe_callB c_len (by rfl) hb.len b_len (pa_cons (pv 0) pa_nil)) pa_nil))) (pg_name (i := 6) sc_Lsteps.nd rfl (by first | exact .inl rfl | exact .inr rfl)) (pss_cons (ps_set (i := 7) sc_Lsteps.nd rfl (by first | exact .inl rfl | exact .inr rfl) (pe_c0 c_Lswapped hr (by decide) (by rfl) (pa_cons (pv 5) (pa_cons (pv 6) pa_nil))))
      (pss_one (ps_if (pt_cmp (HX.pc_tnotin (hu_of hr) (pv 7) (pv 1))) (pss_cons (HX.ps_tput (hu_of hr) (pv 1) (pv 7) (pv 3) rfl)
      (pss_one (ps_expr (pe_bm PySem.F.plainAttrs_list PySem.F.slot_list_append PySem.F.type_list_append mt_append (pv 4) (pa_cons (pv 7) pa_nil))))) pss_nil))))))
      (pss_one (ps_set (i := 2) sc_Lsteps.nd rfl (by first | exact .inl rfl | exact .inr rfl) (pv 4))))))
      (pss_one (ps_ret (HX.pe_varK (pv 1)))))),
    (rs_seq rs_st1
      (rs_seq (rs_wp [0, 2, 3, 4, 5, 6, 7] (rs_while 100000 (rt_test ((re_op k_ne.g ((re_var 2)).sh ((re_lst ra_nil)).sh)).sh) (rs_seq (rs_par (rv_cons (re_lst ra_nil) (rv_cons (re_S (re_op g_add ((re_var 3)).sh ((re_int 1)).sh)) rv_nil)))
      (rs_seq (rs_wp [2, 5, 6, 7] (rs_for (ri_seq ((re_var 2)).sh) (rg_name 5) (rs_wp [5, 6, 7] (rs_for (ri_seq ((re_call0 (ra_cons ((re_call g_len (ra_cons ((re_var 0)).sh ra_nil))).sh ra_nil))).sh) (rg_name 6) (rs_seq (rs_wp [6] (rs_asg 7 (re_S (re_call0 (ra_cons ((re_var 5)).sh (ra_cons ((re_var 6)).sh ra_nil))))))
      (rs_wp [7] (rs_if (rt_test ((re_notInT 1 ((re_var 7)).sh)).sh) (rs_seq (rs_putT 1 ((re_var 3)).sh ((re_var 7)).sh)
      (rs_wp [7] (rs_app 4 ((re_var 7)).sh))) rs_pass)))))))
      (rs_wp [4] (rs_asg 2 (re_S (re_move 4))))))))
      (rs_ret (re_moveK 1))))⟩
/-! ### _law_led -/
theorem sc_Lled : FnScope ["laying", "row", "pair"] ["laying", "row"] (defScope s_Lled) := ⟨rfl, rfl, rfl, by decide +kernel, rfl, by decide +kernel, by decide +kernel⟩
def b_Lled_1 : Fs := (sWp [2] (sAsg 0 (dS (dCall0 2 F_Lswapped (dCons (dSh (dVar 0)) (dCons (dSh (dVar 2)) dNil))))))
def f_Lled : Fs := (sSeq (sWp [1, 2] (sFor (dSeq (dSh (dVar 1))) (gN 2) b_Lled_1))
  (sRet (dVar 0)))
def F_Lled : List D → Res Rv := runP 3 f_Lled
theorem ok_Lled {f : Addr} {fd : FuncData} (F : FnP Wr.K "_law_led" s_Lled f fd) (hb : Bn mg) (c_Lswapped : Cal0 P w Wr.K mg base 1 "_law_swapped" (spP 2 EW0 F_Lswapped)) : FnOk P w Wr.K mg base CX0 2 f fd ["laying", "row"] (spP 2 EW0 F_Lled) :=
  fnP (EW := EW0) (n := 2) (m := 3) (fs := f_Lled) F sc_Lled rfl rfl fun cdv A outer s H E hr => ⟨_, PSs.nox (pss_cons (ps_for PassesOwn.never rfl (pi_seq (pv 1)) (pg_name (i := 2) sc_Lled.nd rfl (by first | exact .inl rfl | exact .inr rfl)) (pss_one (ps_set (i := 0) sc_Lled.nd rfl (by first | exact .inl rfl | exact .inr rfl) (pe_c0 c_Lswapped hr (by decide) (by rfl) (pa_cons (pv 0) (pa_cons (pv 2) pa_nil))))))
      (pss_one (ps_ret (pv 0)))),
    (rs_seq (rs_wp [1, 2] (rs_for (ri_seq ((re_var 1)).sh) (rg_name 2) (rs_wp [2] (rs_asg 0 (re_S (re_call0 (ra_cons ((re_var 0)).sh (ra_cons ((re_var 2)).sh ra_nil))))))))
      (rs_ret (re_var 0)))⟩
/-! ### law -/
theorem sc_law : FnScope ["script", "bag", "laying", "steps", "other", "row", "many", "least", "wide", "turn", "one", "handed", "bads", "bad"] ["script"] (defScope s_law) := ⟨rfl, rfl, rfl, by decide +kernel, rfl, by decide +kernel, by decide +kernel⟩
def b_law_2 : Fs := (sSeq (sAsg 5 (dCall0 2 F_row_to (dCons (dSh (dVar 2)) (dCons (dSh (dVar 4)) dNil))))
  (sWp [4, 5] (sIf (dOr (dB (dSh (dOp dNe (dSh (dLenO 5)) (dSh (dGetT (dSh (dVar 3)) (dSh (dVar 4))))))) (dOr (dB (dSh (dOp dNe (dSh (dCall0 2 F_Lled (dCons (dSh (dVar 2)) (dCons (dSh (dVar 5)) dNil)))) (dSh (dVar 4))))) (dB (dSh (dOp dNe (dSh (dCall0 2 F_behind (dCons (dSh (dVar 2)) (dCons (dSh (dVar 5)) dNil)))) (dSh (dVar 4))))))) (sRet (dC (.bool false))) sPass)))
def b_law_3 : Fs := (sSeq (sAsg 7 (dS (dCall dMinL (dCons (dSh (dLc (dKeysT (dSh (dVar 3))) (gN 4) (dB (dSh (dOp dEq (dSh (dCall dLen (dCons (dSh (dCall0 1 F_Lcycles (dCons (dSh (dVar 4)) dNil))) dNil))) (dSh (dVar 6))))) (dSh (dGetT (dSh (dVar 3)) (dSh (dVar 4)))) [4])) dNil))))
  (sSeq (sAsg 5 (dCall0 2 F_row_to_rounds (dCons (dSh (dVar 2)) (dCons (dSh (dVar 6)) dNil))))
  (sWp [5, 6, 7] (sIf (dOr (dB (dSh (dOp dNe (dSh (dLenO 5)) (dSh (dVar 7))))) (dB (dSh (dOp dNe (dSh (dCall dLen (dCons (dSh (dCall0 1 F_Lcycles (dCons (dSh (dCall0 2 F_Lled (dCons (dSh (dVar 2)) (dCons (dSh (dVar 5)) dNil)))) dNil))) dNil))) (dSh (dVar 6)))))) (sRet (dC (.bool false))) sPass))))
def b_law_4 : Fs := (sWp [9] (sSeq (sAsg 10 (dS (dCallB0 2 F_Ltake 1 (dCons (dSh (dC (.int 29))) dNil))))
  (sWp [10] (sApp 5 (dSh (dTup (dCons (dSh (dVar 10)) (dCons (dSh (dOp dAdd (dSh (dOp dAdd (dSh (dVar 10)) (dSh (dC (.int 1))))) (dSh (dCallB0 2 F_Ltake 1 (dCons (dSh (dOp dSub (dSh (dC (.int 29))) (dSh (dVar 10)))) dNil))))) dNil))))))))
def b_law_5 : Fs := (sWp [13] (sIf (dB (dSh (dOp dNe (dSh (dCall0 4 F_Lrefused (dCons (dSh (dLam 0)) (dCons (dSh (dVar 8)) (dCons (dSh (dVar 13)) (dCons (dSh (dC (.int 0))) dNil)))))) (dSh (dLst (dCons (dSh (dC (.str (Str.ofString "NoRow")))) (dCons (dSh (dC (.bool true))) dNil))))))) (sRet (dC (.bool false))) sPass))
def b_law_1 : Fs := (sSeq (sAsg 2 (dS (dCallB0 2 F_Llaid 1 (dCons (dSh (dOp dAdd (dSh (dC (.int 2))) (dSh (dCallB0 2 F_Ltake 1 (dCons (dSh (dC (.int 4))) dNil))))) dNil))))
  (sSeq (sAsg 3 (dS (dCall0 1 F_Lsteps (dCons (dSh (dVar 2)) dNil))))
  (sSeq (sWp [4, 5] (sFor (dKeysT (dSh (dVar 3))) (gN 4) b_law_2))
  (sSeq (sWp [3, 5, 6, 7] (sFor (dRng2 (dCons (dSh (dC (.int 1))) (dCons (dSh (dOp dAdd (dSh (dCall dLen (dCons (dSh (dVar 2)) dNil))) (dSh (dC (.int 1))))) dNil))) (gN 6) b_law_3))
  (sSeq (sAsg 8 (dS (dCallB0 2 F_Llaid 1 (dCons (dSh (dC (.int 30))) dNil))))
  (sSeq (sAsg 5 (dLst dNil))
  (sSeq (sWp [1, 9, 10] (sFor (dRng1 (dCons (dSh (dCallB0 2 F_Ltake 1 (dCons (dSh (dC (.int 61))) dNil))) dNil)) (gN 9) b_law_4))
  (sSeq (sAsg 11 (dS (dCall dListF (dCons (dSh (dVar 5)) dNil))))
  (sSeq (sWp [5, 11] (sIf (dOr (dB (dSh (dOp dNe (dSh (dCall0 2 F_behind (dCons (dSh (dVar 8)) (dCons (dSh (dVar 5)) dNil)))) (dSh (dCall0 2 F_Lled (dCons (dSh (dVar 8)) (dCons (dSh (dVar 5)) dNil))))))) (dOr (dB (dSh (dOpO dNe 5 (dSh (dVar 11))))) (dB (dSh (dOp dNe (dSh (dCall0 2 F_behind (dCons (dSh (dVar 8)) (dCons (dSh (dLst dNil)) dNil)))) (dSh (dVar 8))))))) (sRet (dC (.bool false))) sPass))
  (sSeq (sAsg 12 (dS (dLst (dCons (dSh (dC .none)) (dCons (dSh (dTup dNil)) (dCons (dSh (dLst (dCons (dSh (dTup (dCons (dSh (dC (.int 0))) (dCons (dSh (dC (.int 0))) dNil)))) dNil))) (dCons (dSh (dLst (dCons (dSh (dTup (dCons (dSh (dC (.int 1))) (dCons (dSh (dC (.int 0))) dNil)))) dNil))) (dCons (dSh (dLst (dCons (dSh (dTup (dCons (dSh (dC (.int 0))) (dCons (dSh (dC (.int 30))) dNil)))) dNil))) (dCons (dSh (dLst (dCons (dSh (dTup (dCons (dSh (dNegF (dSh (dC (.int 1))))) (dCons (dSh (dC (.int 1))) dNil)))) dNil))) (dCons (dSh (dLst (dCons (dSh (dTup (dCons (dSh (dC (.bool false))) (dCons (dSh (dC (.int 1))) dNil)))) dNil))) (dCons (dSh (dLst (dCons (dSh (dTup (dCons (dSh (dC (.int 0))) dNil))) dNil))) (dCons (dSh (dLst (dCons (dSh (dLst (dCons (dSh (dC (.int 0))) (dCons (dSh (dC (.int 1))) dNil)))) dNil))) (dCons (dSh (dLst (dCons (dSh (dC .none)) dNil))) dNil)))))))))))))
  (sSeq (sWp [12, 13] (sFor (dSeq (dSh (dOp dAdd (dSh (dVar 12)) (dSh (dLst (dCons (dSh (dOp dMul (dSh (dLst (dCons (dSh (dTup (dCons (dSh (dC (.int 0))) (dCons (dSh (dC (.int 1))) dNil)))) dNil))) (dSh (dC (.int 61))))) dNil)))))) (gN 13) b_law_5))
  (sWp [2, 8] (sIf (dB (dSh (dOp dNe (dSh (dCall0 4 F_Lrefused (dCons (dSh (dLam 1)) (dCons (dSh (dVar 8)) (dCons (dSh (dVar 2)) (dCons (dSh (dC (.int 0))) dNil)))))) (dSh (dLst (dCons (dSh (dC (.str (Str.ofString "Unlike")))) (dCons (dSh (dC (.bool true))) dNil))))))) (sRet (dC (.bool false))) sPass)))))))))))))
def f_law : Fs := (sSeq (sWp [0, 1, 2, 3, 4, 5, 6, 7, 8, 9, 10, 11, 12, 13] (sForB 2 F_Lbags (dCons (dSh (dVar 0)) (dCons (dSh (dC (.int 4))) dNil)) 1 b_law_1))
  (sRet (dC (.bool true))))
def F_law : List D → Res Rv := runP 14 f_law
theorem ok_law {f : Addr} {fd : FuncData} (F : FnP Wr.K "law" s_law (He.fAd Wr.K ("law", none)) fd) (hb : Bn mg) (c_Lbags : Cal0 P w Wr.K mg base 3 "_law_bags" (spLL 2 EW0 F_Lbags)) (c_Llaid : Cal0 P w Wr.K mg base 3 "_law_laid" (spB 2 EW0 F_Llaid)) (c_Ltake : Cal0 P w Wr.K mg base 1 "_law_take" (spB 2 EW0 F_Ltake)) (c_Lsteps : Cal0 P w Wr.K mg base 2 "_law_steps" (spP 1 EW0 F_Lsteps)) (c_row_to : Cal1 P w Wr.K mg base 4 "row_to" (spP 2 EWx F_row_to)) (c_behind : Cal1 P w Wr.K mg base 4 "behind" (spP 2 EWx F_behind)) (c_Lled : Cal0 P w Wr.K mg base 2 "_law_led" (spP 2 EW0 F_Lled)) (c_Lcycles : Cal0 P w Wr.K mg base 1 "_law_cycles" (spP 1 EW0 F_Lcycles)) (c_row_to_rounds : Cal1 P w Wr.K mg base 4 "row_to_rounds" (spP 2 EWx F_row_to_rounds)) (c_Lrefused : Cal0 P w Wr.K mg base 6 "_law_refused" (spP 4 EW0 F_Lrefused)) (tb_law : LamX.TabB base mg (He.codeOf Wr.K ("law", none)) (He.tabOf Wr.K (He.codeOf Wr.K ("law", none)))) (hT_law : (He.tabOf Wr.K (He.codeOf Wr.K ("law", none)), q_law) ∈ Wr.T) (hu_law : ∀ p ∈ Wr.T, p.1 = He.tabOf Wr.K (He.codeOf Wr.K ("law", none)) → p.2 = q_law) (hl_0 : Wr.lm 0 = lamOf q_law l_0) (hl_1 : Wr.lm 1 = lamOf q_law l_1) : FnOk P w Wr.K mg base CX0 7 (He.fAd Wr.K ("law", none)) fd ["script"] (spP 1 EW0 F_law) :=
  fnPC (EW := EW0) (n := 1) (m := 14) (fs := f_law) F sc_law rfl rfl fun A outer s H E hr => ⟨_, PSs.nox (pss_cons (ps_for PassesOwn.never rfl (pi_seq (pe_c0 c_Lbags hr (by decide) (by rfl) (pa_cons (pv 0) (pa_cons pe_int pa_nil)))) (pg_name (i := 1) sc_law.nd rfl (by first | exact .inl rfl | exact .inr rfl)) (pss_cons (ps_set (i := 2) sc_law.nd rfl (by first | exact .inl rfl | exact .inr rfl) (pe_c0 c_Llaid hr (by decide) (by rfl) (pa_cons (pv 1) (pa_cons (pe_op op_addD pe_int (pe_c0 c_Ltake hr (by decide) (by rfl) (pa_cons (pv 1) (pa_cons pe_int pa_nil)))) pa_nil))))
      (pss_cons (ps_set (i := 3) sc_law.nd rfl (by first | exact .inl rfl | exact .inr rfl) (pe_c0 c_Lsteps hr (by decide) (by rfl) (pa_cons (pv 2) pa_nil)))
      (pss_cons (ps_for PassesOwn.never rfl (HX.pi_kt (pv 3)) (pg_name (i := 4) sc_law.nd rfl (by first | exact .inl rfl | exact .inr rfl)) (pss_cons (ps_set (i := 5) sc_law.nd rfl (by first | exact .inl rfl | exact .inr rfl) (pe_c1 c_row_to hr (by decide) (by rfl) HX.passF (pa_cons (pv 2) (pa_cons (pv 4) pa_nil))))
      (pss_one (ps_if (PW.pt (pw_or (pt_cmpR (op_neD hr.units) (pe_callB c_len (by rfl) hb.len b_len (pa_cons (pv 5) pa_nil)) (HX.pe_tget (hu_of hr) (pv 3) (pv 4) (fun _ _ => rfl)) (nomark _)) (pw_or (pt_cmpR (op_neD hr.units) (pe_c0 c_Lled hr (by decide) (by rfl) (pa_cons (pv 2) (pa_cons (pv 5) pa_nil))) (pv 4) (nomark _)) (pw_or1 (pt_cmpR (op_neD hr.units) (pe_c1 c_behind hr (by decide) (by rfl) HX.passF (pa_cons (pv 2) (pa_cons (pv 5) pa_nil))) (pv 4) (nomark _)))))) (pss_one (ps_ret pe_bl)) pss_nil))))
      (pss_cons (ps_for PassesOwn.never rfl (pi_range2 (by rfl) hb.range (pa_cons pe_int (pa_cons (pe_op op_addD (pe_callB c_len (by rfl) hb.len b_len (pa_cons (pv 2) pa_nil)) pe_int) pa_nil))) (pg_name (i := 6) sc_law.nd rfl (by first | exact .inl rfl | exact .inr rfl)) (pss_cons (ps_set (i := 7) sc_law.nd rfl (by first | exact .inl rfl | exact .inr rfl) (pe_callB (cr_min rfl) (by rfl) hb.min b_min (pa_cons (pe_lc (own := [("other", 4)]) (by rfl) sc_law.nd (HX.pi_kt (pv 3)) (blkOk_by (own := [("other", 4)]) (by kernel_rfl)) (fun _ _ _ _ _ => (pg_name (i := 4) sc_law.nd rfl (by first | exact .inl rfl | exact .inr rfl))) (fun _ _ _ _ _ => (pts_one (pt_cmpR (op_eqD hr.units) (pe_callB c_len (by rfl) hb.len b_len (pa_cons (pe_c0 c_Lcycles hr (by decide) (by rfl) (pa_cons (pv 4) pa_nil)) pa_nil)) (pv 6) (nomark _)))) (fun _ _ _ _ _ => (HX.pe_tget (hu_of hr) (pv 3) (pv 4) (fun _ _ => rfl)))) pa_nil)))
      (pss_cons (ps_set (i := 5) sc_law.nd rfl (by first | exact .inl rfl | exact .inr rfl) (pe_c1 c_row_to_rounds hr (by decide) (by rfl) HX.passF (pa_cons (pv 2) (pa_cons (pv 6) pa_nil))))
      (pss_one (ps_if (PW.pt (pw_or (pt_cmpR (op_neD hr.units) (pe_callB c_len (by rfl) hb.len b_len (pa_cons (pv 5) pa_nil)) (pv 7) (nomark _)) (pw_or1 (pt_cmpR (op_neD hr.units) (pe_callB c_len (by rfl) hb.len b_len (pa_cons (pe_c0 c_Lcycles hr (by decide) (by rfl) (pa_cons (pe_c0 c_Lled hr (by decide) (by rfl) (pa_cons (pv 2) (pa_cons (pv 5) pa_nil))) pa_nil)) pa_nil)) (pv 6) (nomark _))))) (pss_one (ps_ret pe_bl)) pss_nil)))))
      (pss_cons (ps_set (i := 8) sc_law.nd rfl (by first | exact .inl rfl | exact .inr rfl) (pe_c0 c_Llaid hr (by decide) (by rfl) (pa_cons (pv 1) (pa_cons pe_int pa_nil))))
      (pss_cons (ps_set (i := 5) sc_law.nd rfl (by first | exact .inl rfl | exact .inr rfl) (pe_lst pa_nil))
      (pss_cons (ps_for PassesOwn.never rfl (pi_range1 (by rfl) hb.range (pa_cons (pe_c0 c_Ltake hr (by decide) (by rfl) (pa_cons (pv 1) (pa_cons pe_int pa_nil))) pa_nil)) (pg_name (i := 9) sc_law.nd rfl (by first | exact .inl rfl | exact .inr rfl)) (pss_cons (ps_set (i := 10) sc_law.nd rfl (by first | exact .inl rfl | exact .inr rfl) (pe_c0 c_Ltake hr (by decide) (by rfl) (pa_cons (pv 1) (pa_cons pe_int pa_nil))))
      (pss_one (ps_expr (pe_bm PySem.F.plainAttrs_list PySem.F.slot_list_append PySem.F.type_list_append mt_append (pv 5) (pa_cons (pe_tupX (pa_cons (pv 10) (pa_cons (pe_op op_addD (pe_op op_addD (pv 10) pe_int) (pe_c0 c_Ltake hr (by decide) (by rfl) (pa_cons (pv 1) (pa_cons (pe_op op_sub pe_int (pv 10)) pa_nil)))) pa_nil))) pa_nil))))))
      (pss_cons (ps_set (i := 11) sc_law.nd rfl (by first | exact .inl rfl | exact .inr rfl) (pe_callTy c_list (by rfl) hb.list b_list (pa_cons (pv 5) pa_nil)))
      (pss_cons (ps_if (PW.pt (pw_or (pt_cmpR (op_neD hr.units) (pe_c1 c_behind hr (by decide) (by rfl) HX.passF (pa_cons (pv 8) (pa_cons (pv 5) pa_nil))) (pe_c0 c_Lled hr (by decide) (by rfl) (pa_cons (pv 8) (pa_cons (pv 5) pa_nil))) (nomark _)) (pw_or (pt_cmpR (op_neD hr.units) (pv 5) (pv 11) (nomark _)) (pw_or1 (pt_cmpR (op_neD hr.units) (pe_c1 c_behind hr (by decide) (by rfl) HX.passF (pa_cons (pv 8) (pa_cons (pe_lst pa_nil) pa_nil))) (pv 8) (nomark _)))))) (pss_one (ps_ret pe_bl)) pss_nil)
      (pss_cons (ps_set (i := 12) sc_law.nd rfl (by first | exact .inl rfl | exact .inr rfl) (pe_lst (pa_cons pe_non (pa_cons (pe_tupX pa_nil) (pa_cons (pe_lst (pa_cons (pe_tupX (pa_cons pe_int (pa_cons pe_int pa_nil))) pa_nil)) (pa_cons (pe_lst (pa_cons (pe_tupX (pa_cons pe_int (pa_cons pe_int pa_nil))) pa_nil)) (pa_cons (pe_lst (pa_cons (pe_tupX (pa_cons pe_int (pa_cons pe_int pa_nil))) pa_nil)) (pa_cons (pe_lst (pa_cons (pe_tupX (pa_cons (pe_un un_neg pe_int) (pa_cons pe_int pa_nil))) pa_nil)) (pa_cons (pe_lst (pa_cons (pe_tupX (pa_cons pe_bl (pa_cons pe_int pa_nil))) pa_nil)) (pa_cons (pe_lst (pa_cons (pe_tupX (pa_cons pe_int pa_nil)) pa_nil)) (pa_cons (pe_lst (pa_cons (pe_lst (pa_cons pe_int (pa_cons pe_int pa_nil))) pa_nil)) (pa_cons (pe_lst (pa_cons pe_non pa_nil)) pa_nil))))))))))))
      (pss_cons (ps_for PassesOwn.never rfl (pi_seq (pe_op op_addD (pv 12) (pe_lst (pa_cons (pe_op op_mulD (pe_lst (pa_cons (pe_tupX (pa_cons pe_int (pa_cons pe_int pa_nil))) pa_nil)) pe_int) pa_nil)))) (pg_name (i := 13) sc_law.nd rfl (by first | exact .inl rfl | exact .inr rfl)) (pss_one (ps_if (pt_cmpR (op_neD hr.units) (pe_c0 c_Lrefused hr (by decide) (by rfl) (pa_cons (pe_lamI 0 tb_law rfl (hl_0.trans (by rfl)) rfl (by decide +kernel)) (pa_cons (pv 8) (pa_cons (pv 13) (pa_cons pe_int pa_nil))))) (pe_lst (pa_cons pe_str (pa_cons pe_bl pa_nil))) (nomark _)) (pss_one (ps_ret pe_bl)) pss_nil)))
      (pss_one (ps_if (pt_cmpR (op_neD hr.units) (pe_c0 c_Lrefused hr (by decide) (by rfl) (pa_cons (pe_lamI 1 tb_law rfl (hl_1.trans (by rfl)) rfl (by decide +kernel)) (pa_cons (pv 8) (pa_cons (pv 2) (pa_cons pe_int pa_nil))))) (pe_lst (pa_cons pe_str (pa_cons pe_bl pa_nil))) (nomark _)) (pss_one (ps_ret pe_bl)) pss_nil))))))))))))))
      (pss_one (ps_ret pe_bl))),
    (rs_seq (rs_wp [0, 1, 2, 3, 4, 5, 6, 7, 8, 9, 10, 11, 12, 13] (rs_forB (ra_cons ((re_var 0)).sh (ra_cons ((re_int 4)).sh ra_nil)) (rs_seq (rs_asg 2 (re_S (re_callB0 1 (ra_cons ((re_op g_add ((re_int 2)).sh ((re_callB0 1 (ra_cons ((re_int 4)).sh ra_nil))).sh)).sh ra_nil))))
      (rs_seq (rs_asg 3 (re_S (re_call0 (ra_cons ((re_var 2)).sh ra_nil))))
      (rs_seq (rs_wp [4, 5] (rs_for (ri_kt ((re_var 3)).sh) (rg_name 4) (rs_seq (rs_asg 5 (re_call0 (ra_cons ((re_var 2)).sh (ra_cons ((re_var 4)).sh ra_nil))))
      (rs_wp [4, 5] (rs_if (rt_or (rt_test ((re_op k_ne.g ((re_lenO 5)).sh ((re_getT ((re_var 3)).sh ((re_var 4)).sh)).sh)).sh) (rt_or (rt_test ((re_op k_ne.g ((re_call0 (ra_cons ((re_var 2)).sh (ra_cons ((re_var 5)).sh ra_nil)))).sh ((re_var 4)).sh)).sh) (rt_test ((re_op k_ne.g ((re_call0 (ra_cons ((re_var 2)).sh (ra_cons ((re_var 5)).sh ra_nil)))).sh ((re_var 4)).sh)).sh))) (rs_ret (re_bl false)) rs_pass)))))
      (rs_seq (rs_wp [3, 5, 6, 7] (rs_for (ri_rng2 (ra_cons ((re_int 1)).sh (ra_cons ((re_op g_add ((re_call g_len (ra_cons ((re_var 2)).sh ra_nil))).sh ((re_int 1)).sh)).sh ra_nil))) (rg_name 6) (rs_seq (rs_asg 7 (re_S (re_call g_minL (ra_cons ((re_lc (ri_kt ((re_var 3)).sh) (rg_name 4) (by decide) (rt_test ((re_op k_eq.g ((re_call g_len (ra_cons ((re_call0 (ra_cons ((re_var 4)).sh ra_nil))).sh ra_nil))).sh ((re_var 6)).sh)).sh) ((re_getT ((re_var 3)).sh ((re_var 4)).sh)).sh)).sh ra_nil))))
      (rs_seq (rs_asg 5 (re_call0 (ra_cons ((re_var 2)).sh (ra_cons ((re_var 6)).sh ra_nil))))
      (rs_wp [5, 6, 7] (rs_if (rt_or (rt_test ((re_op k_ne.g ((re_lenO 5)).sh ((re_var 7)).sh)).sh) (rt_test ((re_op k_ne.g ((re_call g_len (ra_cons ((re_call0 (ra_cons ((re_call0 (ra_cons ((re_var 2)).sh (ra_cons ((re_var 5)).sh ra_nil)))).sh ra_nil))).sh ra_nil))).sh ((re_var 6)).sh)).sh)) (rs_ret (re_bl false)) rs_pass))))))
      (rs_seq (rs_asg 8 (re_S (re_callB0 1 (ra_cons ((re_int 30)).sh ra_nil))))
      (rs_seq (rs_asg 5 (re_lst ra_nil))
      (rs_seq (rs_wp [1, 9, 10] (rs_for (ri_rng1 (ra_cons ((re_callB0 1 (ra_cons ((re_int 61)).sh ra_nil))).sh ra_nil)) (rg_name 9) (rs_wp [9] (rs_seq (rs_asg 10 (re_S (re_callB0 1 (ra_cons ((re_int 29)).sh ra_nil))))
      (rs_wp [10] (rs_app 5 ((re_tup (ra_cons ((re_var 10)).sh (ra_cons ((re_op g_add ((re_op g_add ((re_var 10)).sh ((re_int 1)).sh)).sh ((re_callB0 1 (ra_cons ((re_op g_sub ((re_int 29)).sh ((re_var 10)).sh)).sh ra_nil))).sh)).sh ra_nil)))).sh))))))
      (rs_seq (rs_asg 11 (re_S (re_call g_list (ra_cons ((re_var 5)).sh ra_nil))))
      (rs_seq (rs_wp [5, 11] (rs_if (rt_or (rt_test ((re_op k_ne.g ((re_call0 (ra_cons ((re_var 8)).sh (ra_cons ((re_var 5)).sh ra_nil)))).sh ((re_call0 (ra_cons ((re_var 8)).sh (ra_cons ((re_var 5)).sh ra_nil)))).sh)).sh) (rt_or (rt_test ((re_opO k_ne 5 ((re_var 11)).sh)).sh) (rt_test ((re_op k_ne.g ((re_call0 (ra_cons ((re_var 8)).sh (ra_cons ((re_lst ra_nil)).sh ra_nil)))).sh ((re_var 8)).sh)).sh))) (rs_ret (re_bl false)) rs_pass))
      (rs_seq (rs_asg 12 (re_S (re_lst (ra_cons (re_non).sh (ra_cons ((re_tup ra_nil)).sh (ra_cons ((re_lst (ra_cons ((re_tup (ra_cons ((re_int 0)).sh (ra_cons ((re_int 0)).sh ra_nil)))).sh ra_nil))).sh (ra_cons ((re_lst (ra_cons ((re_tup (ra_cons ((re_int 1)).sh (ra_cons ((re_int 0)).sh ra_nil)))).sh ra_nil))).sh (ra_cons ((re_lst (ra_cons ((re_tup (ra_cons ((re_int 0)).sh (ra_cons ((re_int 30)).sh ra_nil)))).sh ra_nil))).sh (ra_cons ((re_lst (ra_cons ((re_tup (ra_cons ((re_neg ((re_int 1)).sh)).sh (ra_cons ((re_int 1)).sh ra_nil)))).sh ra_nil))).sh (ra_cons ((re_lst (ra_cons ((re_tup (ra_cons ((re_bl false)).sh (ra_cons ((re_int 1)).sh ra_nil)))).sh ra_nil))).sh (ra_cons ((re_lst (ra_cons ((re_tup (ra_cons ((re_int 0)).sh ra_nil))).sh ra_nil))).sh (ra_cons ((re_lst (ra_cons ((re_lst (ra_cons ((re_int 0)).sh (ra_cons ((re_int 1)).sh ra_nil)))).sh ra_nil))).sh (ra_cons ((re_lst (ra_cons (re_non).sh ra_nil))).sh ra_nil)))))))))))))
      (rs_seq (rs_wp [12, 13] (rs_for (ri_seq ((re_op g_add ((re_var 12)).sh ((re_lst (ra_cons ((re_op g_mul ((re_lst (ra_cons ((re_tup (ra_cons ((re_int 0)).sh (ra_cons ((re_int 1)).sh ra_nil)))).sh ra_nil))).sh ((re_int 61)).sh)).sh ra_nil))).sh)).sh) (rg_name 13) (rs_wp [13] (rs_if (rt_test ((re_op k_ne.g ((re_call0 (ra_cons ((re_lam 0 hT_law hu_law (by rw [hl_0]; exact fun c => ⟨rfl, rfl⟩))).sh (ra_cons ((re_var 8)).sh (ra_cons ((re_var 13)).sh (ra_cons ((re_int 0)).sh ra_nil)))))).sh ((re_lst (ra_cons ((re_str _)).sh (ra_cons ((re_bl true)).sh ra_nil)))).sh)).sh) (rs_ret (re_bl false)) rs_pass))))
      (rs_wp [2, 8] (rs_if (rt_test ((re_op k_ne.g ((re_call0 (ra_cons ((re_lam 1 hT_law hu_law (by rw [hl_1]; exact fun c => ⟨rfl, rfl⟩))).sh (ra_cons ((re_var 8)).sh (ra_cons ((re_var 2)).sh (ra_cons ((re_int 0)).sh ra_nil)))))).sh ((re_lst (ra_cons ((re_str _)).sh (ra_cons ((re_bl true)).sh ra_nil)))).sh)).sh) (rs_ret (re_bl false)) rs_pass)))))))))))))))
      (rs_ret (re_bl true)))⟩
end
end DL

set_option Elab.async false
set_option linter.all false
set_option maxRecDepth 100000
set_option maxHeartbeats 4000000
/-! drawing -/
namespace DL
open PySem PySem.Spec PyProof.Rows L2
variable [Wr]
theorem e_cell (ns : List Int) (k : Nat) : F_Lcell_at [frzD ns, .int k] = .ok (.sh (.int (ns.getD k 0))) := by
  simp [F_Lcell_at, f_Lcell_at, runP, startE]
  by_cases h : k < ns.length <;> simp [h]
/-- what is drawn: numbers of 0 … 999, 400 of them -/
def Drw (dr : List Int) : Prop := dr.length = 400 ∧ ∀ x ∈ dr, 0 ≤ x ∧ x < 1000
theorem range'_cons {j n x : Nat} {xs : List Nat} (e : x :: xs = List.range' j n) : ∃ m, n = m + 1 ∧ x = j ∧ xs = List.range' (j + 1) m := by
  cases n with
  | zero => cases e
  | succ m => rw [List.range'_succ] at e; cases e; exact ⟨m, rfl, rfl, rfl⟩
theorem range'_nil {j n : Nat} (e : [] = List.range' j n) : n = 0 := by
  cases n with
  | zero => rfl
  | succ m => rw [List.range'_succ] at e; cases e
def stDr (a : List Int × Int × Int) : En := [.no, .sh (.int 400), .sh (.int 1000), .ow (a.1.map .int), .sh (.int a.2.1), .sh (.int a.2.2), .no]
theorem draw_step (rest st : Int) (found : List Int) (j : Nat) (h0 : 0 ≤ st) (h1 : st < 2305843009213693951) (hl : found.length ≤ 1000) :
    ∃ found' rest' st', b_Ldraws_1 [.no, .sh (.int 400), .sh (.int 1000), .ow (found.map .int), .sh (.int rest), .sh (.int st), .sh (.int (j : Int))] = .nx (stDr (found', rest', st')) ∧ 0 ≤ st' ∧ st' < 2305843009213693951 ∧ (j ≤ 2 → found' = found) ∧ (2 < j → ∃ x, found' = found ++ [x] ∧ 0 ≤ x ∧ x < 1000) := by
  have hs : smI st = true := Nat.ble_eq_true_of_le (by omega)
  have hd1 : s30 4096 = true := by decide
  have hd2 : s30 1000 = true := by decide
  have hs2 : smI 48271 = true := by decide
  have hz : szOk found.length = true := szOk_of (by omega)
  unfold b_Ldraws_1 stDr
  simp [hs, hs2]
  generalize hst : (st * st + 48271 * st + (j : Int) + 1) % 2305843009213693951 = st'
  have b0 : 0 ≤ st' := by omega
  have b1 : st' < 2305843009213693951 := by omega
  by_cases hj : 2 < j
  · have hj' : (2 : Int) < (j : Int) := by omega
    by_cases hr : 0 < rest
    · simp [hj', hr, isL, updL, hz, hd1, hd2]
      refine ⟨found ++ [rest % 1000], rest / 1000, st', ?_, b0, b1, fun h => by omega, fun _ => ⟨_, rfl, by omega, by omega⟩⟩
      simp
    · simp [hj', hr, isL, updL, hz, hd1, hd2]
      refine ⟨found ++ [st' / 4096 % 1000], rest, st', ?_, b0, b1, fun h => by omega, fun _ => ⟨_, rfl, by omega, by omega⟩⟩
      simp
  · have hj' : ¬ (2 : Int) < (j : Int) := by omega
    simp [hj', hj]
    exact ⟨found, rest, st', by simp, b0, b1, fun _ => rfl⟩
theorem e_draws (c : Int) : ∃ dr, Drw dr ∧ F_Ldraws [.int c, .int 400, .int 1000] = .ok (.fr (dr.map .int)) := by
  have hp : dPow (.int 10) (.int 18) = some (.sh (.int 1000000000000000000)) := by rfl
  have hm : smI (if 1000000000000000000 ≤ c then 1 else 0) = true := by split <;> decide
  unfold F_Ldraws f_Ldraws runP
  simp [startE, hp, szOk_of, hm, s62_of]
  generalize (c * if 1000000000000000000 ≤ c then 1 else 0) = rest
  have h0 : 0 ≤ c % 2305843009213693951 := by omega
  have h1 : c % 2305843009213693951 < 2305843009213693951 := by omega
  generalize c % 2305843009213693951 = st at h0 h1
  have hr : rngD 0 403 = (List.range' 0 403).map fun j : Nat => PyData.int (j : Int) := by simp [rngD, List.range_eq_range']
  rw [hr]
  obtain ⟨⟨found', rest', st'⟩, e1, e2⟩ := sLoop_ex (fg := gN 6) (fb := b_Ldraws_1) (fun j : Nat => PyData.int (j : Int)) stDr (fun xs a => ∃ j n, xs = List.range' j n ∧ j + n = 403 ∧ a.1.length = j - 3 ∧ 0 ≤ a.2.2 ∧ a.2.2 < 2305843009213693951 ∧ ∀ x ∈ a.1, 0 ≤ x ∧ x < 1000)
    (fun x xs a hJ => by
      obtain ⟨j, n, e, hn, hl, h0, h1, hx⟩ := hJ
      obtain ⟨m, rfl, rfl, rfl⟩ := range'_cons e
      obtain ⟨found', rest', st', e1, e2, e3, e4, e5⟩ := draw_step a.2.1 a.2.2 a.1 x h0 h1 (by omega)
      refine ⟨_, (found', rest', st'), rfl, e1, x + 1, m, rfl, by omega, ?_, e2, e3, ?_⟩
      · by_cases hj : 2 < x
        · obtain ⟨y, rfl, _⟩ := e5 hj
          clear e5 e4 e1
          simp; omega
        · rw [e4 (by omega)]; clear e5 e4 e1; simp only; omega
      · by_cases hj : 2 < x
        · obtain ⟨y, rfl, hy⟩ := e5 hj
          intro z hz
          rcases List.mem_append.mp hz with hz | hz
          · exact hx z hz
          · rw [List.mem_singleton.mp hz]; exact hy
        · rw [e4 (by omega)]; exact hx) (List.range' 0 403) ([], rest, st) ⟨0, 403, rfl, rfl, rfl, h0, h1, by simp⟩
  obtain ⟨j, n, e, hn, hl, _, _, hx⟩ := e2
  have := range'_nil e
  refine ⟨found', ⟨by simp only at hl; omega, hx⟩, ?_⟩
  replace e1 : sLoop (gN 6) b_Ldraws_1 (List.map (fun j : Nat => PyData.int (j : Int)) (List.range' 0 403)) [.no, .sh (.int 400), .sh (.int 1000), .ow [], .sh (.int rest), .sh (.int st), .no] = .nx (stDr (found', rest', st')) := e1
  rw [e1]
  simp [stDr]
/-- a bag: what is drawn, and how much of it -/
def Bag (bs : List D) : Prop := ∃ (dr : List Int) (t : Nat), Drw dr ∧ bs = [.list (dr.map .int), .int (t : Int)]
theorem e_bag (ns : List Int) (k : Nat) : ∃ bs, Bag bs ∧ F_Lbag [frzD ns, .int k] = .ok (.fr bs) := by
  obtain ⟨dr, h1, h2⟩ := e_draws (ns.getD k 0)
  refine ⟨_, ⟨dr, 0, h1, rfl⟩, ?_⟩
  unfold F_Lbag f_Lbag runP
  simp only [startE]
  simp [e_cell, -List.getD_eq_getElem?_getD, h2, szOk_of]
theorem llLoop_bags (ns : List Int) (fe : Fe) (s : Sl) (lim : D) (he : ∀ k : Nat, ∃ bs, Bag bs ∧ fe [.sh (frzD ns), .sh lim, .sh (.int k)] = .ok (.fr bs, [.sh (frzD ns), .sh lim, .sh (.int k)])) : ∀ ks : List Nat, ∃ bss, llLoop 2 fe [2] (ks.map fun k : Nat => .int (k : Int)) [.sh (frzD ns), .sh lim, .no] = some bss ∧ bss.length = ks.length ∧ ∀ bs ∈ bss, Bag bs
  | [] => ⟨[], rfl, rfl, by simp⟩
  | k :: ks => by
    obtain ⟨bss, h1, h2, h3⟩ := llLoop_bags ns fe s lim he ks
    obtain ⟨bs, h4, h5⟩ := he k
    refine ⟨bs :: bss, ?_, by simp [h2], ?_⟩
    · show llLoop 2 fe [2] (_ :: ks.map _) _ = _
      unfold llLoop
      simp [h5, wipeE, h1]
    · intro b hb
      rcases List.mem_cons.mp hb with rfl | hb
      · exact h4
      · exact h3 b hb
theorem bags_n (a lim : Nat) (hn : a ≤ 63) (hl : lim ≤ 100) : ∃ n : Nat, n ≤ 100 ∧ (if (if a < lim then (a : Int) else (lim : Int)) > 1 then (if a < lim then (a : Int) else (lim : Int)) else 1) = (n : Int) := by
  by_cases h : a < lim
  · by_cases h1 : (a : Int) > 1
    · exact ⟨a, by omega, by rw [if_pos h, if_pos h1]⟩
    · exact ⟨1, by omega, by rw [if_pos h, if_neg h1]; rfl⟩
  · by_cases h1 : (lim : Int) > 1
    · exact ⟨lim, by omega, by rw [if_neg h, if_pos h1]⟩
    · exact ⟨1, by omega, by rw [if_neg h, if_neg h1]; rfl⟩
theorem bags_rng (ns : List Int) (hn : ns.length ≤ 63) (lim : Nat) (hl : lim ≤ 100) : ∃ n : Nat, n ≤ 100 ∧ (dRng1 (dCons (dSh (dCall dMax2 (dCons (dSh (dC (.int 1))) (dCons (dSh (dCall dMin2 (dCons (dSh (dVar 1)) (dCons (dSh (dCall dLen (dCons (dSh (dVar 0)) dNil))) dNil)))) dNil)))) dNil)) [.sh (frzD ns), .sh (.int lim), .no] = .ok ((List.range n).map fun k : Nat => .int (k : Int), [.sh (frzD ns), .sh (.int lim), .no]) := by
  obtain ⟨n, h2, e⟩ := bags_n ns.length lim hn hl
  refine ⟨n, h2, ?_⟩
  have e2 := s62_of (i := (n : Int)) (by omega) (by omega)
  have ha : (dCons (dSh (dCall dMax2 (dCons (dSh (dC (.int 1))) (dCons (dSh (dCall dMin2 (dCons (dSh (dVar 1)) (dCons (dSh (dCall dLen (dCons (dSh (dVar 0)) dNil))) dNil)))) dNil)))) dNil) [.sh (frzD ns), .sh (.int lim), .no] = .ok ([.int n], [.sh (frzD ns), .sh (.int lim), .no]) := by
    simp [-gt_iff_lt, e]
  rw [dRng1_ap, ha, Res.bind_ok, rng1_int, if_pos e2, rngD_nat]
  rfl
theorem e_bags (ns : List Int) (hn : ns.length ≤ 63) (lim : Nat) (hl : lim ≤ 100) : ∃ bss, (∀ bs ∈ bss, Bag bs) ∧ F_Lbags [frzD ns, .int lim] = some bss := by
  obtain ⟨n, hm1, hm2⟩ := bags_rng ns hn lim hl
  obtain ⟨bss, h1, h2, h3⟩ := llLoop_bags ns (dCall0 2 F_Lbag (dCons (dSh (dVar 0)) (dCons (dSh (dVar 2)) dNil))) .no (.int lim) (fun k => by
    obtain ⟨bs, h1, h2⟩ := e_bag ns k
    refine ⟨bs, h1, ?_⟩
    simp [h2]) (List.range n)
  refine ⟨bss, h3, ?_⟩
  have hl : bss.length ≤ 1000 := by simp at h2; omega
  have e : dLL (dRng1 (dCons (dSh (dCall dMax2 (dCons (dSh (dC (.int 1))) (dCons (dSh (dCall dMin2 (dCons (dSh (dVar 1)) (dCons (dSh (dCall dLen (dCons (dSh (dVar 0)) dNil))) dNil)))) dNil)))) dNil)) 2 (dCall0 2 F_Lbag (dCons (dSh (dVar 0)) (dCons (dSh (dVar 2)) dNil))) [2] [.sh (frzD ns), .sh (.int lim), .no] = some bss := by
    unfold dLL
    rw [hm2]
    exact h1
  unfold F_Lbags runLL
  rw [show startE 3 [frzD ns, .int lim] = [.sh (frzD ns), .sh (.int lim), .no] from rfl, e]
  exact if_pos hl
theorem e_take {bs : List D} (h : Bag bs) {m : Int} (hm : 0 < m) : ∃ r bs', F_Ltake bs [.int m] = .ok (.sh (.int r), bs') ∧ 0 ≤ r ∧ r < m ∧ Bag bs' := by
  obtain ⟨dr, t, hd, rfl⟩ := h
  have hlen : 0 < dr.length := by rw [hd.1]; decide
  obtain ⟨x, hx, hx2⟩ : ∃ x, dr[(t + 1) % dr.length]? = some x ∧ 0 ≤ x := by
    have : (t + 1) % dr.length < dr.length := Nat.mod_lt _ (by omega)
    exact ⟨dr[(t + 1) % dr.length], by simp [this], (hd.2 _ (List.getElem_mem this)).1⟩
  have e1 : atI (dr.map PyData.int) (((t : Int) + 1) % (dr.length : Int)) = some (.int x) := by
    have : (((t : Int) + 1) % (dr.length : Int)) = (((t + 1) % dr.length : Nat) : Int) := by simp
    rw [this, atI_cast, List.getElem?_map, hx]
    rfl
  refine ⟨x % m, [.list (dr.map .int), .int ((t + 1 : Nat) : Int)], ?_, Int.emod_nonneg _ (by omega), Int.emod_lt_of_pos _ hm, dr, t + 1, hd, rfl⟩
  have e2 : ixN 2 1 = some 1 := by decide
  unfold F_Ltake f_Ltake runB
  simp only [startB]
  simp [isL, updL, e2, hlen, hm, e1]
end DL

set_option Elab.async false
set_option linter.all false
set_option maxRecDepth 100000
set_option maxHeartbeats 4000000
/-! within -/
namespace DL
open PySem PySem.Spec PyProof.Rows L2
variable [Wr]
def isWithD (d : D) (lo hi : Int) : Bool := match d with
  | .int i => decide (lo ≤ i) && decide (i ≤ hi)
  | _ => false
theorem e_withinD (d : D) (h : smD d = true) (lo hi : Int) : F_is_within [d, .int lo, .int hi] = .ok (.sh (.bool (isWithD d lo hi))) := by
  unfold F_is_within f_is_within runP
  cases d with
  | int i => by_cases h : lo ≤ i <;> simp [startE, isWithD, h]
  | dict kvs => cases h
  | _ => simp [startE, isWithD]
end DL

set_option Elab.async false
set_option linter.all false
set_option maxRecDepth 100000
set_option maxHeartbeats 4000000
/-! layings: what is one -/
namespace DL
open PySem PySem.Spec PyProof.Rows L2
variable [Wr]
def apartB (ds : List D) : Bool := match intsOf ds with
  | some xs => decide ((nub xs).length = xs.length)
  | none => false
def isLayD : D → Bool
  | .tuple ds => decide (1 ≤ ds.length) && decide (ds.length ≤ 30) && (ds.all fun d => isWithD d 0 ((ds.length : Int) - 1)) && apartB ds
  | _ => false
theorem within_ints {lo hi : Int} : ∀ {ds : List D}, (ds.all fun d => isWithD d lo hi) = true → ∃ ns : List Int, ds = ns.map .int ∧ ∀ x ∈ ns, lo ≤ x ∧ x ≤ hi
  | [], _ => ⟨[], rfl, by simp⟩
  | d :: ds, h => by
    rw [List.all_cons, Bool.and_eq_true] at h
    obtain ⟨ns, rfl, h2⟩ := within_ints h.2
    cases d with
    | int i =>
      have := h.1
      simp only [isWithD, Bool.and_eq_true, decide_eq_true_eq] at this
      exact ⟨i :: ns, rfl, fun x hx => by
        rcases List.mem_cons.mp hx with rfl | hx
        · exact this
        · exact h2 x hx⟩
    | _ => cases h.1
theorem apart_ints (ns : List Int) : apartB (ns.map .int) = decide ((nub ns).length = ns.length) := by
  unfold apartB
  rw [intsOf_map]
theorem e_is_laying (d : D) (h : smD d = true) : F_is_laying [d] = .ok (.sh (.bool (isLayD d))) := by
  unfold F_is_laying f_is_laying runP
  cases d with
  | tuple ds =>
    obtain ⟨hl, hs⟩ := smD_tup.mp h
    have z := szOk_of hl
    by_cases h1 : 1 ≤ ds.length ∧ ds.length ≤ 30
    · have h1' : (1 : Int) ≤ (ds.length : Int) := by omega
      have h2' : (ds.length : Int) ≤ 30 := by omega
      simp [startE, -dLc_ap, h1', h2', z]
      rw [lc_m (fun d : D => d) (fun d => .bool (isWithD d 0 ((ds.length : Int) - 1))) ds ?q1 hl ?q3]
      case q1 => simp
      case q3 => exact fun d hd => ⟨_, rfl, by simp [e_withinD d (hs d hd), z], rfl⟩
      by_cases h2 : (ds.all fun d => isWithD d 0 ((ds.length : Int) - 1)) = true
      · obtain ⟨ns, rfl, hx⟩ := within_ints h2
        have hn : ns.length < 64 := by simp at h1; omega
        simp only [List.length_map] at h1 h2 z h1' h2'
        simp [-List.map_map, allF_map, h2, -List.all_map, z, lenSetD, intsOf_map, hn]
        simp [isLayD, h1, h2, apart_ints, -List.all_map]
        try omega
      · simp [-List.map_map, allF_map, h2, isLayD]
    · by_cases h3 : 1 ≤ ds.length
      · have h1' : (1 : Int) ≤ (ds.length : Int) := by omega
        have h2' : ¬ (ds.length : Int) ≤ 30 := by omega
        have h4 : ¬ ds.length ≤ 30 := by omega
        simp [startE, -dLc_ap, h1', h2', z, isLayD, h4]
      · have h1' : ¬ (1 : Int) ≤ (ds.length : Int) := by omega
        have h4 : ¬ 1 ≤ ds.length := by omega
        simp [startE, -dLc_ap, h1', z, isLayD, h4]
  | dict kvs => cases h
  | _ => simp [startE, -dLc_ap, isLayD]
end DL

set_option Elab.async false
set_option linter.all false
set_option maxRecDepth 100000
set_option maxHeartbeats 4000000
/-! layings: their rounds -/
namespace DL
open PySem PySem.Spec PyProof.Rows L2
variable [Wr]
theorem few_below {n : Nat} {l : List Nat} (h1 : l.Nodup) (h2 : ∀ x ∈ l, x < n) : l.length ≤ n := by
  have : l.Perm ((List.range n).filter fun i => decide (i ∈ l)) := (List.perm_ext_iff_of_nodup h1 (List.nodup_range.filter _)).mpr fun i => by
    simp
    exact fun hi => h2 i hi
  rw [this.length_eq]
  exact Nat.le_trans (List.length_filter_le _ _) (by simp)
def walkC (l : List Nat) : Nat → List Nat → Nat → List Nat → List Nat × List Nat
  | 0, seen, _, row => (seen, row)
  | f + 1, seen, here, row => if here ∈ seen then (seen, row) else walkC l f (seen ++ [here]) (l.getD here 0) (row ++ [here])
def stepC (l : List Nat) (a : List (List Nat) × List Nat) (box : Nat) : List (List Nat) × List Nat :=
  ((if (walkC l (l.length + 1 - a.2.length) a.2 box []).2 = [] then a.1 else a.1 ++ [(walkC l (l.length + 1 - a.2.length) a.2 box []).2]), (walkC l (l.length + 1 - a.2.length) a.2 box []).1)
def cycs (l : List Nat) : List (List Nat) := ((List.range l.length).foldl (stepC l) ([], [])).1
/-- numbers below the length -/
def Low (l : List Nat) : Prop := l.length ≤ 30 ∧ ∀ x ∈ l, x < l.length
def SeenOk (l : List Nat) (seen : List Nat) : Prop := seen.Nodup ∧ ∀ x ∈ seen, x < l.length
theorem Low.at_ {l : List Nat} (h : Low l) {i : Nat} (hi : i < l.length) : l.getD i 0 < l.length := by
  rw [List.getD_eq_getElem?_getD, List.getElem?_eq_getElem hi]
  exact h.2 _ (List.getElem_mem hi)
theorem ix_eT (l : List Nat) {i : Nat} (hi : i < l.length) : dIx (eT l) (eN i) = some (.sh (eN (l.getD i 0))) := by
  simp [eT, eN, hi]
/-- the state of a walk: seen, here, row -/
structure WkI (l : List Nat) (a0 a : List Nat × Nat × List Nat) : Prop where
  ok : SeenOk l a.1
  here : a.2.1 < l.length
  row : a.2.2.length ≤ a.1.length
  same : walkC l (l.length + 1 - a.1.length) a.1 a.2.1 a.2.2 = walkC l (l.length + 1 - a0.1.length) a0.1 a0.2.1 a0.2.2
theorem WkI.step {l : List Nat} (hl : Low l) {a0 a : List Nat × Nat × List Nat} (h : WkI l a0 a) (hn : a.2.1 ∉ a.1) : WkI l a0 (a.1 ++ [a.2.1], l.getD a.2.1 0, a.2.2 ++ [a.2.1]) ∧ a.1.length < l.length := by
  have ok' : SeenOk l (a.1 ++ [a.2.1]) := ⟨List.nodup_append.mpr ⟨h.ok.1, by simp, fun x hx y hy => by
    rw [List.mem_singleton.mp hy]
    exact fun z => hn (z ▸ hx)⟩, fun x hx => by
    rcases List.mem_append.mp hx with hx | hx
    · exact h.ok.2 x hx
    · rw [List.mem_singleton.mp hx]; exact h.here⟩
  have le := few_below ok'.1 ok'.2
  simp only [List.length_append, List.length_cons, List.length_nil] at le
  refine ⟨⟨ok', hl.at_ h.here, by simp; exact h.row, ?_⟩, by omega⟩
  rw [← h.same]
  obtain ⟨k, hk⟩ : ∃ k, l.length + 1 - a.1.length = k + 1 := ⟨l.length - a.1.length, by omega⟩
  have hk' : l.length + 1 - (a.1 ++ [a.2.1]).length = k := by simp; omega
  simp only [hk']
  rw [hk]
  conv => rhs; unfold walkC
  rw [if_neg hn]
theorem WkI.done {l : List Nat} {a0 a : List Nat × Nat × List Nat} (h : WkI l a0 a) (hn : a.2.1 ∈ a.1) : (a.1, a.2.2) = walkC l (l.length + 1 - a0.1.length) a0.1 a0.2.1 a0.2.2 := by
  have le := few_below h.ok.1 h.ok.2
  rw [← h.same]
  obtain ⟨k, hk⟩ : ∃ k, l.length + 1 - a.1.length = k + 1 := ⟨l.length - a.1.length, by omega⟩
  rw [hk]
  unfold walkC
  rw [if_pos hn]
def kvN (seen : List Nat) : KD := seen.map fun i => (Sum.inl ((i : Nat) : Int), .bool true)
theorem getK_kvN : ∀ (seen : List Nat) (i : Nat), (getK (kvN seen) (.inl (i : Int))).isSome = decide (i ∈ seen)
  | [], i => by simp [getK, kvN]
  | x :: seen, i => by
    have ih := getK_kvN seen i
    unfold getK kvN at ih ⊢
    rw [List.map_cons, List.find?_cons]
    by_cases e : x = i
    · subst e; simp
    · have e1 : ¬ i = x := fun z => e z.symm
      have e2 : (decide ((Sum.inl ((x : Nat) : Int) : Key) = Sum.inl ((i : Nat) : Int))) = false := by
        rw [decide_eq_false_iff_not]
        intro z
        injection z with z
        omega
      simp only [e2, ih]
      simp [e1]
theorem putD_kvN (seen : List Nat) (i : Nat) (h : i ∉ seen) : putD (kvN seen) (.inl (i : Int)) (.bool true) = kvN (seen ++ [i]) := by
  unfold putD
  rw [if_neg]
  · simp [kvN]
  · simp only [kvN, List.any_map, List.any_eq_true, not_exists, not_and]
    intro x hx
    simp
    intro z
    have : x = i := by omega
    exact h (this ▸ hx)
end DL

set_option Elab.async false
set_option linter.all false
set_option maxRecDepth 100000
set_option maxHeartbeats 4000000
/-! layings: the program's rounds -/
namespace DL
open PySem PySem.Spec PyProof.Rows L2
variable [Wr]
def stLw (l : List Nat) (found : List (List Nat)) (a : List Nat × Nat × List Nat) : En := [.sh (eT l), .ow (found.map eT), .od (kvN a.1), .no, .ow (a.2.2.map eN), .sh (eN a.2.1)]
theorem ar_while {l : List Nat} (hl : Low l) (found : List (List Nat)) (seen : List Nat) (box : Nat) (hs : SeenOk l seen) (hb : box < l.length) :
    ∃ here, sWhile (dB (dSh (dInD false (dSh (dVar 5)) 2))) b_all_rounds_of_2 100000 (stLw l found (seen, box, [])) = .nx (stLw l found ((walkC l (l.length + 1 - seen.length) seen box []).1, here, (walkC l (l.length + 1 - seen.length) seen box []).2)) ∧ SeenOk l (walkC l (l.length + 1 - seen.length) seen box []).1 := by
  obtain ⟨a', e1, h1, h2⟩ := sWhile_ex (ft := dB (dSh (dInD false (dSh (dVar 5)) 2))) (fb := b_all_rounds_of_2) (stLw l found) (WkI l (seen, box, [])) (fun a => l.length - a.1.length) (fun a => a.2.1 ∈ a.1) (fun a i => by
    have ft : dB (dSh (dInD false (dSh (dVar 5)) 2)) (stLw l found a) = .ok (!decide (a.2.1 ∈ a.1), stLw l found a) := by
      simp [stLw, dInD, keyOf, eN]
      rw [← Option.not_isSome, getK_kvN]
    by_cases h : a.2.1 ∈ a.1
    · exact .inl ⟨by rw [ft]; simp [h], h⟩
    · obtain ⟨i', lt⟩ := i.step hl h
      refine .inr ⟨_, by rw [ft]; simp [h], ?_, i', by simp; omega⟩
      have le := few_below i.ok.1 i.ok.2
      have lr := i.row
      have l30 := hl.1
      have z1 : szOk (kvN a.1).length = true := szOk_of (by simp [kvN]; omega)
      have z2 : szOk a.2.2.length = true := szOk_of (by omega)
      have ix := ix_eT l i.here
      unfold b_all_rounds_of_2 stLw
      simp [keyOf, eN, isDc, dctOf, z1, putD_kvN _ _ h, isL, updL, z2]
      simp only [eN] at ix
      simp [ix, eN]) 100000 (seen, box, []) ⟨hs, hb, by simp, rfl⟩ (by have := hl.1; simp only; omega)
  have d := h1.done h2
  refine ⟨a'.2.1, ?_, ?_⟩
  · rw [e1, ← d]
  · rw [← d]; exact h1.ok
theorem dNe_nil (row : List Nat) : dNe (.list (row.map eN)) (.list []) = some (.sh (.bool (!decide (row = [])))) := dNe_nats row []
theorem walkC_row {l : List Nat} : ∀ (f : Nat) (seen : List Nat) (here : Nat) (row : List Nat), (walkC l f seen here row).2.length + seen.length = (walkC l f seen here row).1.length + row.length
  | 0, seen, here, row => by simp [walkC]; omega
  | f + 1, seen, here, row => by
    unfold walkC
    split
    · simp; omega
    · have := walkC_row (l := l) f (seen ++ [here]) (l.getD here 0) (row ++ [here])
      simp at this ⊢
      omega
def stLr (l : List Nat) (a : List (List Nat) × List Nat) : En := [.sh (eT l), .ow (a.1.map eT), .od (kvN a.2), .no, .no, .no]
theorem ar_box {l : List Nat} (hl : Low l) (a : List (List Nat) × List Nat) (box : Nat) (hs : SeenOk l a.2) (hb : box < l.length) (hf : a.1.length ≤ 1000) :
    b_all_rounds_of_1 ((stLr l a).set 3 (.sh (eN box))) = .nx (stLr l (stepC l a box)) ∧ SeenOk l (stepC l a box).2 := by
  obtain ⟨here, e1, h1⟩ := ar_while hl a.1 a.2 box hs hb
  refine ⟨?_, h1⟩
  have z1 : szOk a.1.length = true := szOk_of (by omega)
  unfold b_all_rounds_of_1 stLr
  rw [sSeq_of (ρ' := stLw l a.1 (a.2, box, [])) (by simp [stLw, sPar, vCons, vNil, szOk_of, setAll])]
  generalize hw : walkC l (l.length + 1 - a.2.length) a.2 box [] = w at *
  rw [sSeq_of (ρ' := [.sh (eT l), .ow (a.1.map eT), .od (kvN w.1), .no, .ow (w.2.map eN), .no]) (by rw [sWp_ap, e1]; simp [stLw])]
  unfold stepC
  rw [hw]
  have z0 : szOk 0 = true := szOk_of (by omega)
  by_cases q : w.2 = []
  · have := dNe_nil []
    simp at this
    simp [q, slD, z0, this]
  · simp [q, slD, z0, dNe_nil, isL, updL, z1]
    simp [eT]
theorem e_all_rounds_of {l : List Nat} (hl : Low l) : F_all_rounds_of [eT l] = .ok (.fr ((cycs l).map eT)) := by
  unfold F_all_rounds_of f_all_rounds_of runP
  have l30 := hl.1
  have z : szOk l.length = true := szOk_of (by omega)
  rw [sSeq_of (ρ' := stLr l ([], [])) (by simp [startE, stLr, kvN, sPar, vCons, vNil, szOk_of, setAll])]
  have lp := sLoop_fold (fg := gN 3) (fb := b_all_rounds_of_1) eN (stLr l) (stepC l) (fun xs a => SeenOk l a.2 ∧ a.1.length + xs.length ≤ 100 ∧ ∀ x ∈ xs, x < l.length)
    (fun x xs a j => by
      obtain ⟨e, s⟩ := ar_box hl a x j.1 (j.2.2 x (by simp)) (by omega)
      refine ⟨_, rfl, e, s, ?_, fun y hy => j.2.2 y (by simp [hy])⟩
      have := j.2.1
      unfold stepC
      simp only [List.length_cons] at this
      split <;> simp <;> omega) (List.range l.length) ([], []) ⟨⟨by simp, by simp⟩, by simp; omega, fun x hx => List.mem_range.mp hx⟩
  have hr : rngD 0 (l.length : Int) = (List.range l.length).map eN := by simp [rngD, eN]
  rw [sSeq_of (ρ' := [.no, .ow ((cycs l).map eT), .no, .no, .no, .no]) (by
    rw [sWp_ap, sFor_ap]
    have : dRng1 (dCons (dSh (dCall dLen (dCons (dSh (dVar 0)) dNil))) dNil) (stLr l ([], [])) = .ok ((List.range l.length).map eN, stLr l ([], [])) := by
      simp [stLr, eT, z, hr, s62_of (i := (l.length : Int)) (by omega) (by omega)]
    rw [this, onR_ok, lp.1]
    simp [stLr, cycs])]
  simp
end DL

set_option Elab.async false
set_option linter.all false
set_option maxRecDepth 100000
set_option maxHeartbeats 4000000
/-! layings drawn -/
namespace DL
open PySem PySem.Spec PyProof.Rows L2
variable [Wr]
def stMx (many : Nat) (a : List D × List Nat) : En := [.io a.1, .sh (eN many), .ow (a.2.map eN), .no]
theorem ins_len (l : List Nat) (r y : Nat) : (l.take r ++ [y] ++ l.drop r).length = l.length + 1 := by simp; omega
theorem ins_perm (l : List Nat) (r y : Nat) : (l.take r ++ [y] ++ l.drop r).Perm (y :: l) := by
  have h : (l.take r ++ (y :: l.drop r)).Perm (y :: (l.take r ++ l.drop r)) := List.perm_middle
  rw [List.take_append_drop] at h
  rw [List.append_assoc]
  exact h
theorem e_mixed {bs : List D} (hb : Bag bs) (many : Nat) (hm : many ≤ 100) : ∃ found bs', F_Lmixed bs [eN many] = .ok (.sh (eT found), bs') ∧ Bag bs' ∧ found.length = many ∧ found.Nodup ∧ ∀ x ∈ found, 1 ≤ x ∧ x ≤ many := by
  unfold F_Lmixed f_Lmixed runB
  rw [sSeq_of (ρ' := stMx many (bs, [])) (by simp [startB, stMx, szOk_of])]
  have hr : rngD 1 ((many : Int) + 1) = (List.range' 1 many).map eN := by
    simp [rngD, eN]
    rw [List.range'_eq_map_range, List.map_map]
    apply List.map_congr_left
    intro i _
    simp [eN]
  obtain ⟨⟨bs', found⟩, e1, e2⟩ := sLoop_ex (fg := gN 3) (fb := b_Lmixed_1) eN (stMx many) (fun xs a => ∃ j k, xs = List.range' (j + 1) k ∧ j + k = many ∧ Bag a.1 ∧ a.2.length = j ∧ a.2.Nodup ∧ ∀ x ∈ a.2, 1 ≤ x ∧ x ≤ j)
    (fun x xs a hJ => by
      obtain ⟨j, k, e, hjk, hB, hl, hn, hx⟩ := hJ
      obtain ⟨k', rfl, rfl, rfl⟩ := range'_cons e
      obtain ⟨r, bs1, et, r0, r1, hB1⟩ := e_take hB (m := ((j + 1 : Nat) : Int)) (by omega)
      obtain ⟨rn, hrn⟩ := Int.eq_ofNat_of_zero_le r0
      subst hrn
      have z : szOk a.2.length = true := szOk_of (by omega)
      have hs : s62 (rn : Int) = true := s62_of (by omega) (by omega)
      refine ⟨_, (bs1, a.2.take rn ++ [j + 1] ++ a.2.drop rn), rfl, ?_, j + 1, k', rfl, by omega, hB1, by rw [ins_len, hl], ?_, ?_⟩
      · unfold b_Lmixed_1 stMx
        simp only [Int.natCast_add, Int.cast_ofNat_Int] at et
        simp [eN, et, isL, updL, z, hs]
      · rw [(ins_perm _ _ _).nodup_iff, List.nodup_cons]
        exact ⟨fun h => by have := (hx _ h).2; omega, hn⟩
      · intro y hy
        rcases List.mem_cons.mp ((ins_perm _ _ _).mem_iff.mp hy) with rfl | hy
        · omega
        · have := hx y hy; omega) (List.range' 1 many) (bs, []) ⟨0, many, rfl, by omega, hb, rfl, by simp, by simp⟩
  obtain ⟨j, k, e, hjk, hB, hl, hn, hx⟩ := e2
  have := range'_nil e
  refine ⟨found, bs', ?_, hB, by simp only at hl; omega, hn, fun x h => by have := hx x h; omega⟩
  rw [sSeq_of (ρ' := [.io bs', .no, .ow (found.map eN), .no]) (by
    rw [sWp_ap, sFor_ap]
    have : dRng2 (dCons (dSh (dC (.int 1))) (dCons (dSh (dOp dAdd (dSh (dVar 1)) (dSh (dC (.int 1))))) dNil)) (stMx many (bs, [])) = .ok ((List.range' 1 many).map eN, stMx many (bs, [])) := by
      have s1 : s62 1 = true := by decide
      have s2 : s62 ((many : Int) + 1) = true := s62_of (by omega) (by omega)
      simp [stMx, hr, eN, s1, s2]
    rw [this, onR_ok, e1]
    simp [stMx])]
  simp [eT]
theorem e_laid {bs : List D} (hb : Bag bs) (many : Nat) (hm : many ≤ 100) : ∃ l bs', F_Llaid bs [eN many] = .ok (.sh (eT l), bs') ∧ Bag bs' ∧ l.length = many ∧ l.Nodup ∧ ∀ x ∈ l, x < many := by
  obtain ⟨found, bs', e1, hB, hl, hn, hx⟩ := e_mixed hb many hm
  refine ⟨found.map (· - 1), bs', ?_, hB, by simp [hl], ?_, ?_⟩
  · unfold F_Llaid f_Llaid runB
    simp [startB, -dLc_ap]
    rw [dLc_m (ρ1 := [.io bs', .sh (eN many), .no]) eN (fun x => eN (x - 1)) found ?q1 (by omega) ?q3]
    case q1 => simp [e1, eT, isL]
    case q3 =>
      intro x hx'
      have := hx x hx'
      refine ⟨[.io bs', .sh (eN many), .sh (eN x)], [.io bs', .sh (eN many), .sh (eN x)], rfl, ?_, rfl⟩
      have e : ((x : Int) - 1) = ((x - 1 : Nat) : Int) := by omega
      simp [eN, e]
    simp [eT, eN]
  · refine List.Pairwise.map _ ?_ (List.Pairwise.imp_of_mem (S := fun a b => 1 ≤ a ∧ 1 ≤ b ∧ a ≠ b) (fun {a b} ha hb' h => ⟨(hx a ha).1, (hx b hb').1, h⟩) hn)
    intro a b ⟨h1, h2, h3⟩
    show a - 1 ≠ b - 1
    omega
  · intro y hy
    obtain ⟨x, hx', rfl⟩ := List.mem_map.mp hy
    have := hx x hx'
    show x - 1 < many
    omega
theorem nub_id {α : Type} [DecidableEq α] : ∀ {l : List α}, l.Nodup → nub l = l
  | [], _ => rfl
  | x :: l, h => by
    obtain ⟨h1, h2⟩ := List.nodup_cons.mp h
    unfold nub
    rw [if_neg h1, nub_id h2]
/-- a laying -/
def Lay (l : List Nat) : Prop := 1 ≤ l.length ∧ l.length ≤ 30 ∧ l.Nodup ∧ ∀ x ∈ l, x < l.length
theorem Lay.low {l : List Nat} (h : Lay l) : Low l := ⟨h.2.1, h.2.2.2⟩
theorem eT_ints (l : List Nat) : eT l = .tuple ((l.map fun x : Nat => (x : Int)).map .int) := by
  rw [eT, List.map_map]; rfl
theorem Lay.is {l : List Nat} (h : Lay l) : isLayD (eT l) = true := by
  rw [eT_ints]
  have nd : (l.map fun x : Nat => (x : Int)).Nodup := List.Pairwise.map _ (fun a b (hab : a ≠ b) => by show (a : Int) ≠ (b : Int); omega) h.2.2.1
  simp only [isLayD, apart_ints, nub_id nd, List.length_map, Bool.and_eq_true, decide_eq_true_eq, and_true]
  refine ⟨⟨h.1, h.2.1⟩, ?_⟩
  rw [List.all_eq_true]
  intro d hd
  obtain ⟨i, hi, rfl⟩ := List.mem_map.mp hd
  obtain ⟨x, hx, rfl⟩ := List.mem_map.mp hi
  have := h.2.2.2 x hx
  simp only [isWithD, Bool.and_eq_true, decide_eq_true_eq]
  omega
theorem sm_eT (l : List Nat) (h : l.length ≤ 1000000) : smD (eT l) = true := by
  refine smD_tup.mpr ⟨by simpa using h, fun d hd => ?_⟩
  obtain ⟨x, _, rfl⟩ := List.mem_map.mp hd
  rfl
end DL

set_option Elab.async false
set_option linter.all false
set_option maxRecDepth 100000
set_option maxHeartbeats 4000000
/-! rounds of a laying, plainly: an exchange joins two rounds or parts one -/
namespace CY
theorem below {n : Nat} {l : List Nat} (h1 : l.Nodup) (h2 : ∀ x ∈ l, x < n) : l.length ≤ n := by
  have : l.Perm ((List.range n).filter fun i => decide (i ∈ l)) := (List.perm_ext_iff_of_nodup h1 (List.nodup_range.filter _)).mpr fun i => by
    simp
    exact fun hi => h2 i hi
  rw [this.length_eq]
  exact Nat.le_trans (List.length_filter_le _ _) (by simp)
/-- k steps -/
def itr (p : Nat → Nat) : Nat → Nat → Nat
  | 0, i => i
  | k + 1, i => p (itr p k i)
structure Pm (n : Nat) (p : Nat → Nat) : Prop where
  lt : ∀ i, i < n → p i < n
  inj : ∀ i j, i < n → j < n → p i = p j → i = j
theorem itr_add (p : Nat → Nat) (a b i : Nat) : itr p (a + b) i = itr p a (itr p b i) := by
  induction a with
  | zero => simp [itr]
  | succ a ih => rw [show a + 1 + b = (a + b) + 1 by omega]; simp only [itr]; rw [ih]
theorem itr_one (p : Nat → Nat) (i : Nat) : itr p 1 i = p i := rfl
theorem itr_succ' (p : Nat → Nat) (k i : Nat) : itr p (k + 1) i = itr p k (p i) := by rw [itr_add]; rfl
section
variable {n : Nat} {p : Nat → Nat}
theorem Pm.itr_lt (h : Pm n p) (k : Nat) {i : Nat} (hi : i < n) : itr p k i < n := by
  induction k with
  | zero => exact hi
  | succ k ih => exact h.lt _ ih
theorem Pm.itr_inj (h : Pm n p) (k : Nat) {i j : Nat} (hi : i < n) (hj : j < n) (e : itr p k i = itr p k j) : i = j := by
  induction k with
  | zero => exact e
  | succ k ih => exact ih (h.inj _ _ (h.itr_lt k hi) (h.itr_lt k hj) e)
/-- each comes back -/
theorem Pm.back (h : Pm n p) {i : Nat} (hi : i < n) : ∃ m, 1 ≤ m ∧ m ≤ n ∧ itr p m i = i := by
  have nd : ¬ ((List.range (n + 1)).map fun k => itr p k i).Nodup := fun q => by
    have := below q fun x hx => by
      obtain ⟨k, _, rfl⟩ := List.mem_map.mp hx
      exact h.itr_lt k hi
    simp at this
    omega
  have : ∃ a b, a < b ∧ b ≤ n ∧ itr p a i = itr p b i := Classical.byContradiction fun hc => nd (by
    rw [List.nodup_iff_pairwise_ne, List.pairwise_map]
    refine List.Pairwise.imp_of_mem ?_ List.pairwise_lt_range
    intro a b ha hb hab e
    exact hc ⟨a, b, hab, by have := List.mem_range.mp hb; omega, e⟩)
  obtain ⟨a, b, hab, hb, e⟩ := this
  refine ⟨b - a, by omega, by omega, ?_⟩
  rw [show b = a + (b - a) by omega, itr_add] at e
  exact (h.itr_inj a hi (h.itr_lt _ hi) e).symm
/-- in one round -/
def con (p : Nat → Nat) (i j : Nat) : Prop := ∃ k, itr p k i = j
theorem con.refl (p : Nat → Nat) (i : Nat) : con p i i := ⟨0, rfl⟩
theorem con.step (p : Nat → Nat) (i : Nat) : con p i (p i) := ⟨1, rfl⟩
theorem con.trans {i j k : Nat} (a : con p i j) (b : con p j k) : con p i k := by
  obtain ⟨x, rfl⟩ := a
  obtain ⟨y, rfl⟩ := b
  exact ⟨y + x, itr_add p y x i⟩
theorem itr_mul {m i : Nat} (e : itr p m i = i) : ∀ k, itr p (m * k) i = i
  | 0 => rfl
  | k + 1 => by rw [Nat.mul_succ, itr_add, e]; exact itr_mul e k
theorem con.symm (h : Pm n p) {i j : Nat} (hi : i < n) (c : con p i j) : con p j i := by
  obtain ⟨k, rfl⟩ := c
  obtain ⟨m, h1, _, e⟩ := h.back hi
  refine ⟨m * k - k, ?_⟩
  have : k ≤ m * k := Nat.le_mul_of_pos_left k h1
  rw [← itr_add, show m * k - k + k = m * k by omega]
  exact itr_mul e k
theorem con.lt (h : Pm n p) {i j : Nat} (hi : i < n) (c : con p i j) : j < n := by
  obtain ⟨k, rfl⟩ := c
  exact h.itr_lt k hi
/-- an exchange -/
def sw (p : Nat → Nat) (a b : Nat) : Nat → Nat := fun i => if i = a then p b else if i = b then p a else p i
theorem sw_a (p : Nat → Nat) (a b : Nat) : sw p a b a = p b := by simp [sw]
theorem sw_b (p : Nat → Nat) {a b : Nat} (h : a ≠ b) : sw p a b b = p a := by simp [sw, h.symm]
theorem sw_o (p : Nat → Nat) {a b i : Nat} (h : i ≠ a) (h' : i ≠ b) : sw p a b i = p i := by simp [sw, h, h']
theorem sw_sw (p : Nat → Nat) (a b : Nat) : sw (sw p a b) a b = p := by
  funext i
  by_cases h1 : i = a
  · subst h1
    rw [sw_a]
    by_cases h2 : i = b
    · subst h2; exact sw_a p i i
    · exact sw_b p h2
  · by_cases h2 : i = b
    · subst h2
      rw [sw_b _ (Ne.symm h1), sw_a]
    · rw [sw_o _ h1 h2, sw_o _ h1 h2]
theorem sw_comm (p : Nat → Nat) (a b : Nat) : sw p a b = sw p b a := by
  funext i
  unfold sw
  by_cases h1 : i = a <;> by_cases h2 : i = b <;> simp_all
theorem Pm.sw (h : Pm n p) {a b : Nat} (ha : a < n) (hb : b < n) : Pm n (sw p a b) := by
  refine ⟨fun i hi => ?_, fun i j hi hj e => ?_⟩
  · unfold CY.sw
    split
    · exact h.lt _ hb
    · split
      · exact h.lt _ ha
      · exact h.lt _ hi
  · unfold CY.sw at e
    by_cases i1 : i = a <;> by_cases j1 : j = a
    · rw [i1, j1]
    · rw [if_pos i1, if_neg j1] at e
      by_cases j2 : j = b
      · rw [if_pos j2] at e
        have := h.inj _ _ hb ha e
        rw [i1, j2, this]
      · rw [if_neg j2] at e
        exact absurd (h.inj _ _ hb hj e).symm j2
    · rw [if_pos j1, if_neg i1] at e
      by_cases j2 : i = b
      · rw [if_pos j2] at e
        have := h.inj _ _ ha hb e
        rw [j2, j1, this]
      · rw [if_neg j2] at e
        exact absurd (h.inj _ _ hi hb e) j2
    · rw [if_neg i1, if_neg j1] at e
      by_cases i2 : i = b <;> by_cases j2 : j = b
      · rw [i2, j2]
      · rw [if_pos i2, if_neg j2] at e
        exact absurd (h.inj _ _ ha hj e).symm j1
      · rw [if_neg i2, if_pos j2] at e
        exact absurd (h.inj _ _ hi ha e) i1
      · rw [if_neg i2, if_neg j2] at e
        exact h.inj _ _ hi hj e
/-- the least steps from one to another -/
theorem least {P : Nat → Prop} (h : ∃ k, P k) : ∃ k, P k ∧ ∀ j, j < k → ¬ P j := by
  obtain ⟨k, hk⟩ := h
  induction k using Nat.strongRecOn with
  | _ k ih =>
    by_cases q : ∃ j, j < k ∧ P j
    · obtain ⟨j, h1, h2⟩ := q; exact ih j h1 h2
    · exact ⟨k, hk, fun j h1 h2 => q ⟨j, h1, h2⟩⟩
theorem itr_same {q : Nat → Nat} {x : Nat} : ∀ k, (∀ t, t < k → q (itr p t x) = p (itr p t x)) → itr q k x = itr p k x
  | 0, _ => rfl
  | k + 1, h => by
    show q (itr q k x) = p (itr p k x)
    rw [itr_same k fun t ht => h t (by omega)]
    exact h k (by omega)
/-- of two rounds one is made -/
theorem joined_ab (h : Pm n p) {a b : Nat} (ha : a < n) (hb : b < n) (hc : ¬ con p a b) : con (sw p a b) a b := by
  have hab : a ≠ b := fun e => hc (e ▸ con.refl p a)
  obtain ⟨k, ⟨h1, e⟩, hm⟩ := least (P := fun k => 1 ≤ k ∧ itr p k b = b) (let ⟨m, q1, _, q2⟩ := h.back hb; ⟨m, q1, q2⟩)
  have hs : itr (sw p a b) (k - 1) (p b) = itr p (k - 1) (p b) := itr_same (k - 1) fun t ht => by
    rw [← itr_succ' p t b]
    refine sw_o p (fun z => hc (con.symm h hb ⟨t + 1, z⟩)) fun z => hm (t + 1) (by omega) ⟨by omega, z⟩
  rw [← itr_succ' p, show k - 1 + 1 = k by omega, e] at hs
  refine (con.step (sw p a b) a).trans ⟨k - 1, ?_⟩
  rw [sw_a]
  exact hs
theorem joined (h : Pm n p) {a b : Nat} (ha : a < n) (hb : b < n) (hc : ¬ con p a b) {i j : Nat} (hi : i < n) :
    con (sw p a b) i j ↔ con p i j ∨ (con p i a ∧ con p b j) ∨ (con p i b ∧ con p a j) := by
  have hq := h.sw ha hb
  have hab : a ≠ b := fun e => hc (e ▸ con.refl p a)
  have c1 := joined_ab h ha hb hc
  have c2 : con (sw p a b) b a := con.symm hq ha c1
  have one : ∀ i, con (sw p a b) i (p i) := fun i => by
    by_cases h1 : i = a
    · subst h1
      have := con.step (sw p i b) b
      rw [sw_b p hab] at this
      exact c1.trans this
    · by_cases h2 : i = b
      · subst h2
        have := con.step (sw p a i) a
        rw [sw_a p] at this
        exact c2.trans this
      · have := con.step (sw p a b) i
        rw [sw_o p h1 h2] at this
        exact this
  have all : ∀ {i j}, con p i j → con (sw p a b) i j := fun {i j} c => by
    obtain ⟨k, rfl⟩ := c
    induction k with
    | zero => exact con.refl _ _
    | succ k ih => exact ih.trans (one _)
  constructor
  · rintro ⟨k, rfl⟩
    induction k with
    | zero => exact .inl (con.refl _ _)
    | succ k ih =>
      show con p i (sw p a b (itr (sw p a b) k i)) ∨ _ ∧ con p b (sw p a b (itr (sw p a b) k i)) ∨ _ ∧ con p a (sw p a b (itr (sw p a b) k i))
      generalize itr (sw p a b) k i = x at ih
      by_cases h1 : x = a
      · subst h1
        rw [sw_a]
        rcases ih with c | ⟨c, d⟩ | ⟨c, d⟩
        · exact .inr (.inl ⟨c, con.step p b⟩)
        · exact absurd (con.symm h hb d) hc
        · exact .inl (c.trans (con.step p b))
      · by_cases h2 : x = b
        · subst h2
          rw [sw_b p hab]
          rcases ih with c | ⟨c, d⟩ | ⟨c, d⟩
          · exact .inr (.inr ⟨c, con.step p a⟩)
          · exact .inl (c.trans (con.step p a))
          · exact absurd d hc
        · rw [sw_o p h1 h2]
          rcases ih with c | ⟨c, d⟩ | ⟨c, d⟩
          · exact .inl (c.trans (con.step p x))
          · exact .inr (.inl ⟨c, d.trans (con.step p x)⟩)
          · exact .inr (.inr ⟨c, d.trans (con.step p x)⟩)
  · rintro (c | ⟨c, d⟩ | ⟨c, d⟩)
    · exact all c
    · exact ((all c).trans c1).trans (all d)
    · exact ((all c).trans c2).trans (all d)
/-- one round is parted -/
theorem parted (h : Pm n p) {a b : Nat} (ha : a < n) (hb : b < n) (hab : a ≠ b) (hc : con p a b) : ¬ con (sw p a b) a b := by
  intro hq
  have hq' : con (sw p a b) b a := con.symm (h.sw ha hb) ha hq
  obtain ⟨k, e, hm⟩ := least hc
  have hk : 1 ≤ k := by
    rcases k with _ | k
    · exact absurd e hab
    · omega
  have na : ∀ t, 1 ≤ t → t ≤ k → itr p t a ≠ a := fun t h1 h2 z => by
    by_cases q : t = k
    · rw [q] at z; exact hab (z.symm.trans e)
    · refine hm (k - t) (by omega) ?_
      have : itr p (k - t + t) a = b := by rw [show k - t + t = k by omega]; exact e
      rw [itr_add, z] at this
      exact this
  have cl : ∀ m, ∃ t, 1 ≤ t ∧ t ≤ k ∧ itr p t a = itr (sw p a b) m b := fun m => by
    induction m with
    | zero => exact ⟨k, hk, Nat.le_refl _, e⟩
    | succ m ih =>
      obtain ⟨t, h1, h2, h3⟩ := ih
      show ∃ t, 1 ≤ t ∧ t ≤ k ∧ itr p t a = sw p a b (itr (sw p a b) m b)
      rw [← h3]
      by_cases q : t = k
      · rw [q, e, sw_b p hab]
        exact ⟨1, Nat.le_refl _, hk, rfl⟩
      · rw [sw_o p (na t h1 h2) (hm t (by omega))]
        exact ⟨t + 1, by omega, by omega, rfl⟩
  obtain ⟨m, em⟩ := hq'
  obtain ⟨t, h1, h2, h3⟩ := cl m
  exact na t h1 h2 (h3.trans em)
open Classical in
/-- how many rounds: by the least of each -/
noncomputable def cnt (n : Nat) (p : Nat → Nat) : Nat := ((List.range n).filter fun i => decide (∀ j, j < i → ¬ con p j i)).length
theorem drop_one {α : Type} [DecidableEq α] {P Q : α → Bool} {x : α} : ∀ {l : List α}, l.Nodup → x ∈ l → P x = true → (∀ i ∈ l, Q i = (P i && !decide (i = x))) → (l.filter Q).length + 1 = (l.filter P).length
  | y :: l, nd, hx, hp, hq => by
    obtain ⟨n1, n2⟩ := List.nodup_cons.mp nd
    by_cases e : y = x
    · subst e
      have q1 : Q y = false := by rw [hq y (by simp)]; simp
      have q2 : l.filter Q = l.filter P := List.filter_congr fun i hi => by
        rw [hq i (by simp [hi])]
        have : i ≠ y := fun z => n1 (z ▸ hi)
        simp [this]
      rw [List.filter_cons_of_pos hp, List.filter_cons_of_neg (by simp [q1]), q2]
      simp
    · have hx' : x ∈ l := by
        rcases List.mem_cons.mp hx with z | z
        · exact absurd z.symm e
        · exact z
      have ih := drop_one n2 hx' hp fun i hi => hq i (by simp [hi])
      have q1 : Q y = P y := by rw [hq y (by simp)]; simp [e]
      by_cases z : P y = true
      · rw [List.filter_cons_of_pos z, List.filter_cons_of_pos (by rw [q1]; exact z)]
        simp only [List.length_cons]
        omega
      · rw [List.filter_cons_of_neg z, List.filter_cons_of_neg (by rw [q1]; exact z)]
        exact ih
theorem least_in (h : Pm n p) {a : Nat} (ha : a < n) : ∃ m, m < n ∧ con p m a ∧ ∀ j, j < m → ¬ con p j m := by
  obtain ⟨m, hm, hl⟩ := least (P := fun m => con p m a) ⟨a, con.refl p a⟩
  have hmn : m < n := by
    by_cases q : m < n
    · exact q
    · exact absurd (con.refl p a) (hl a (by omega))
  exact ⟨m, hmn, hm, fun j hj c => hl j hj (c.trans hm)⟩
open Classical in
theorem cnt_join' (h : Pm n p) {a b : Nat} (ha : a < n) (hb : b < n) (hc : ¬ con p a b) {ma mb : Nat} (h1 : ma < n) (h2 : mb < n) (c1 : con p ma a) (c2 : con p mb b)
    (l1 : ∀ j, j < ma → ¬ con p j ma) (l2 : ∀ j, j < mb → ¬ con p j mb) (hl : ma < mb) : cnt n (sw p a b) + 1 = cnt n p := by
  refine drop_one (x := mb) List.nodup_range (List.mem_range.mpr h2) (decide_eq_true (p := ∀ j, j < mb → ¬ con p j mb) l2) fun i hi => ?_
  have hin := List.mem_range.mp hi
  rw [Bool.eq_iff_iff]
  simp only [Bool.and_eq_true, decide_eq_true_eq, Bool.not_eq_true', decide_eq_false_iff_not]
  constructor
  · intro q
    refine ⟨fun j hj c => q j hj ((joined h ha hb hc (by omega)).mpr (.inl c)), fun e => ?_⟩
    subst e
    exact q ma hl ((joined h ha hb hc h1).mpr (.inr (.inl ⟨c1, con.symm h h2 c2⟩)))
  · rintro ⟨q1, q2⟩ j hj c
    rcases (joined h ha hb hc (by omega)).mp c with c | ⟨c, d⟩ | ⟨c, d⟩
    · exact q1 j hj c
    · -- i is of b's round: it is the least
      have e1 : con p mb i := c2.trans d
      rcases Nat.lt_trichotomy mb i with z | z | z
      · exact q1 mb z e1
      · exact q2 z.symm
      · exact l2 i z (con.symm h h2 e1)
    · have e1 : con p ma i := c1.trans d
      have e2 : i = ma := by
        rcases Nat.lt_trichotomy ma i with z | z | z
        · exact absurd e1 (q1 ma z)
        · exact z.symm
        · exact absurd (con.symm h h1 e1) (l1 i z)
      have e3 : con p j mb := c.trans (con.symm h h2 c2)
      exact l2 j (by omega) e3
theorem con_comm (h : Pm n p) {a b : Nat} (ha : a < n) (hb : b < n) : con p a b ↔ con p b a := ⟨con.symm h ha, con.symm h hb⟩
theorem cnt_join (h : Pm n p) {a b : Nat} (ha : a < n) (hb : b < n) (hc : ¬ con p a b) : cnt n (sw p a b) + 1 = cnt n p := by
  obtain ⟨ma, a1, a2, a3⟩ := least_in h ha
  obtain ⟨mb, b1, b2, b3⟩ := least_in h hb
  rcases Nat.lt_trichotomy ma mb with z | z | z
  · exact cnt_join' h ha hb hc a1 b1 a2 b2 a3 b3 z
  · subst z
    exact absurd ((con.symm h a1 a2).trans b2) hc
  · rw [sw_comm]
    exact cnt_join' h hb ha (fun c => hc (con.symm h hb c)) b1 a1 b2 a2 b3 a3 z
theorem cnt_part (h : Pm n p) {a b : Nat} (ha : a < n) (hb : b < n) (hab : a ≠ b) (hc : con p a b) : cnt n (sw p a b) = cnt n p + 1 := by
  have := cnt_join (h.sw ha hb) ha hb (parted h ha hb hab hc)
  rw [sw_sw] at this
  exact this.symm
end
end CY

set_option Elab.async false
set_option linter.all false
set_option maxRecDepth 100000
set_option maxHeartbeats 4000000
/-! rounds of a laying, as they are gone through -/
namespace CY
def walk (l : List Nat) : Nat → List Nat → Nat → List Nat → List Nat × List Nat
  | 0, seen, _, row => (seen, row)
  | f + 1, seen, here, row => if here ∈ seen then (seen, row) else walk l f (seen ++ [here]) (l.getD here 0) (row ++ [here])
def stp (l : List Nat) (a : List (List Nat) × List Nat) (box : Nat) : List (List Nat) × List Nat :=
  ((if (walk l (l.length + 1 - a.2.length) a.2 box []).2 = [] then a.1 else a.1 ++ [(walk l (l.length + 1 - a.2.length) a.2 box []).2]), (walk l (l.length + 1 - a.2.length) a.2 box []).1)
def cyc (l : List Nat) : List (List Nat) := ((List.range l.length).foldl (stp l) ([], [])).1
open Classical
def fn (l : List Nat) : Nat → Nat := fun i => l.getD i 0
structure Ly (l : List Nat) : Prop where
  nd : l.Nodup
  lt : ∀ x ∈ l, x < l.length
theorem fn_mem {l : List Nat} {i : Nat} (hi : i < l.length) : fn l i ∈ l := by
  unfold fn; rw [List.getD_eq_getElem?_getD, List.getElem?_eq_getElem hi]; exact List.getElem_mem hi
theorem fn_get {l : List Nat} {i : Nat} (hi : i < l.length) : fn l i = l[i] := by
  unfold fn; rw [List.getD_eq_getElem?_getD, List.getElem?_eq_getElem hi]; rfl
theorem Ly.pm {l : List Nat} (h : Ly l) : Pm l.length (fn l) := ⟨fun i hi => h.lt _ (fn_mem hi), fun i j hi hj e => by
  rw [fn_get hi, fn_get hj] at e
  exact (List.getElem_inj h.nd).mp e⟩
section
variable {n : Nat} {p : Nat → Nat}
/-- how many steps a round has -/
noncomputable def per (p : Nat → Nat) (i : Nat) : Nat := if h : ∃ m, 1 ≤ m ∧ itr p m i = i then Classical.choose (least h) else 0
theorem per_spec (h : Pm n p) {i : Nat} (hi : i < n) : (1 ≤ per p i ∧ itr p (per p i) i = i) ∧ ∀ j, j < per p i → ¬ (1 ≤ j ∧ itr p j i = i) := by
  have e : ∃ m, 1 ≤ m ∧ itr p m i = i := let ⟨m, h1, _, h2⟩ := h.back hi; ⟨m, h1, h2⟩
  unfold per
  rw [dif_pos e]
  exact Classical.choose_spec (least e)
noncomputable def pre (p : Nat → Nat) (i t : Nat) : List Nat := (List.range t).map fun k => itr p k i
noncomputable def orb (p : Nat → Nat) (i : Nat) : List Nat := pre p i (per p i)
theorem pre_succ (p : Nat → Nat) (i t : Nat) : pre p i (t + 1) = pre p i t ++ [itr p t i] := by
  unfold pre; rw [List.range_succ, List.map_append]; rfl
theorem itr_ne (h : Pm n p) {i : Nat} (hi : i < n) {s t : Nat} (hs : s < t) (ht : t < per p i) : itr p s i ≠ itr p t i := fun e => by
  rw [show t = s + (t - s) by omega, itr_add] at e
  have := h.itr_inj s hi (h.itr_lt _ hi) e
  exact (per_spec h hi).2 (t - s) (by omega) ⟨by omega, this.symm⟩
theorem mem_orb (h : Pm n p) {i x : Nat} (hi : i < n) : x ∈ orb p i ↔ con p i x := by
  constructor
  · intro hx
    obtain ⟨k, _, rfl⟩ := List.mem_map.mp hx
    exact ⟨k, rfl⟩
  · rintro ⟨k, rfl⟩
    have q := (per_spec h hi).1
    refine List.mem_map.mpr ⟨k % per p i, List.mem_range.mpr (Nat.mod_lt _ (by omega)), ?_⟩
    have e : k = k % per p i + per p i * (k / per p i) := (Nat.mod_add_div k (per p i)).symm
    show itr p (k % per p i) i = itr p k i
    conv => rhs; rw [e, itr_add, itr_mul q.2]
theorem orb_nodup (h : Pm n p) {i : Nat} (hi : i < n) : (orb p i).Nodup := by
  unfold orb pre
  rw [List.nodup_iff_pairwise_ne, List.pairwise_map]
  refine List.Pairwise.imp_of_mem ?_ List.pairwise_lt_range
  intro a b ha hb hab
  exact itr_ne h hi hab (List.mem_range.mp hb)
theorem orb_ne (h : Pm n p) {i : Nat} (hi : i < n) : orb p i ≠ [] := fun e => by
  have := congrArg List.length e
  unfold orb pre at this
  simp at this
  have := (per_spec h hi).1.1
  omega
theorem orb_len (p : Nat → Nat) (i : Nat) : (orb p i).length = per p i := by simp [orb, pre]
theorem orb_get (p : Nat → Nat) (i : Nat) {k : Nat} (hk : k < per p i) : (orb p i)[k]? = some (itr p k i) := by
  simp [orb, pre, hk]
end
theorem walk_orb {l : List Nat} (h : Ly l) {b : Nat} (hb : b < l.length) {S : List Nat} (hS : ∀ x ∈ S, ¬ con (fn l) b x) : ∀ (k t f : Nat), t + k = per (fn l) b → k < f →
    walk l f (S ++ pre (fn l) b t) (itr (fn l) t b) (pre (fn l) b t) = (S ++ orb (fn l) b, orb (fn l) b)
  | 0, t, f + 1, e, hf => by
    have e' : t = per (fn l) b := by omega
    have q := (per_spec h.pm hb).1
    unfold walk
    rw [e', q.2, show pre (fn l) b (per (fn l) b) = orb (fn l) b from rfl, if_pos (List.mem_append_right _ ((mem_orb h.pm hb).mpr (con.refl _ _)))]
  | k + 1, t, f + 1, e, hf => by
    unfold walk
    rw [if_neg ?_, show l.getD (itr (fn l) t b) 0 = itr (fn l) (t + 1) b from rfl, List.append_assoc, ← pre_succ]
    · exact walk_orb h hb hS k (t + 1) f (by omega) (by omega)
    · intro hm
      rcases List.mem_append.mp hm with z | z
      · exact hS _ z ⟨t, rfl⟩
      · obtain ⟨s, hs, es⟩ := List.mem_map.mp z
        exact itr_ne h.pm hb (List.mem_range.mp hs) (by omega) es
  | _, _, 0, _, hf => by omega
noncomputable def reps (l : List Nat) (b : Nat) : List Nat := (List.range b).filter fun i => decide (∀ j, j < i → ¬ con (fn l) j i)
theorem fold_inv {l : List Nat} (h : Ly l) : ∀ b, b ≤ l.length → ((List.range b).foldl (stp l) ([], [])).1 = (reps l b).map (orb (fn l)) ∧ ((List.range b).foldl (stp l) ([], [])).2.Nodup ∧
    ∀ x, x ∈ ((List.range b).foldl (stp l) ([], [])).2 ↔ ∃ j, j < b ∧ con (fn l) j x
  | 0, _ => ⟨rfl, List.nodup_nil, fun x => ⟨fun h => (by cases h), fun ⟨j, hj, _⟩ => (by omega)⟩⟩
  | b + 1, hb => by
    obtain ⟨i1, i2, i3⟩ := fold_inv h b (by omega)
    rw [List.range_succ, List.foldl_append]
    generalize hA : (List.range b).foldl (stp l) ([], []) = A at i1 i2 i3
    obtain ⟨F, S⟩ := A
    simp only [List.foldl_cons, List.foldl_nil]
    have hbl : b < l.length := by omega
    have lS : ∀ x ∈ S, x < l.length := fun x hx => by
      obtain ⟨j, hj, c⟩ := (i3 x).mp hx
      exact c.lt h.pm (by omega)
    by_cases q : b ∈ S
    · have hlen := below i2 lS
      have hw : walk l (l.length + 1 - S.length) S b [] = (S, []) := by
        obtain ⟨f, hf⟩ : ∃ f, l.length + 1 - S.length = f + 1 := ⟨l.length - S.length, by simp only at hlen; omega⟩
        rw [hf]; unfold walk; rw [if_pos q]
      refine ⟨?_, ?_, fun x => ?_⟩
      · show (if (walk l (l.length + 1 - S.length) S b []).2 = [] then F else _) = _
        rw [hw, if_pos rfl]
        unfold reps
        rw [List.range_succ, List.filter_append]
        have : ¬ ∀ j, j < b → ¬ con (fn l) j b := fun z => let ⟨j, hj, c⟩ := (i3 b).mp q; z j hj c
        simp only [List.filter_cons, List.filter_nil, decide_eq_false this, Bool.false_eq_true, if_false, List.append_nil]
        exact i1
      · show (walk l (l.length + 1 - S.length) S b []).1.Nodup
        rw [hw]; exact i2
      · show x ∈ (walk l (l.length + 1 - S.length) S b []).1 ↔ _
        rw [hw]
        refine (i3 x).trans ⟨fun ⟨j, hj, c⟩ => ⟨j, by omega, c⟩, fun ⟨j, hj, c⟩ => ?_⟩
        by_cases e : j = b
        · subst e
          obtain ⟨j', hj', c'⟩ := (i3 j).mp q
          exact ⟨j', hj', c'.trans c⟩
        · exact ⟨j, by omega, c⟩
    · have hS : ∀ x ∈ S, ¬ con (fn l) b x := fun x hx c => by
        obtain ⟨j, hj, c'⟩ := (i3 x).mp hx
        exact q ((i3 b).mpr ⟨j, hj, c'.trans (con.symm h.pm hbl c)⟩)
      have nd : (S ++ orb (fn l) b).Nodup := List.nodup_append.mpr ⟨i2, orb_nodup h.pm hbl, fun x hx y hy e => by
        subst e
        exact hS x hx ((mem_orb h.pm hbl).mp hy)⟩
      have hlen := below (n := l.length) nd fun x hx => by
        rcases List.mem_append.mp hx with z | z
        · exact lS x z
        · exact ((mem_orb h.pm hbl).mp z).lt h.pm hbl
      rw [List.length_append, orb_len] at hlen
      have hw : walk l (l.length + 1 - S.length) S b [] = (S ++ orb (fn l) b, orb (fn l) b) := by
        have := walk_orb h hbl hS (per (fn l) b) 0 (l.length + 1 - S.length) (by omega) (by omega)
        simpa [pre, itr] using this
      refine ⟨?_, ?_, fun x => ?_⟩
      · show (if (walk l (l.length + 1 - S.length) S b []).2 = [] then F else F ++ [(walk l (l.length + 1 - S.length) S b []).2]) = _
        rw [hw, if_neg (orb_ne h.pm hbl)]
        unfold reps
        rw [List.range_succ, List.filter_append]
        have : ∀ j, j < b → ¬ con (fn l) j b := fun j hj c => q ((i3 b).mpr ⟨j, hj, c⟩)
        simp only [List.filter_cons, List.filter_nil, decide_eq_true this, if_true, List.map_append, List.map_cons, List.map_nil]
        rw [show F = _ from i1]
        rfl
      · show (walk l (l.length + 1 - S.length) S b []).1.Nodup
        rw [hw]; exact nd
      · show x ∈ (walk l (l.length + 1 - S.length) S b []).1 ↔ _
        rw [hw, List.mem_append, i3 x, mem_orb h.pm hbl]
        constructor
        · rintro (⟨j, hj, c⟩ | c)
          · exact ⟨j, by omega, c⟩
          · exact ⟨b, by omega, c⟩
        · rintro ⟨j, hj, c⟩
          by_cases e : j = b
          · subst e; exact .inr c
          · exact .inl ⟨j, by omega, c⟩
section
variable {l : List Nat} (h : Ly l)
include h
theorem cyc_eq : cyc l = (reps l l.length).map (orb (fn l)) := (fold_inv h l.length (Nat.le_refl _)).1
theorem cyc_len : (cyc l).length = cnt l.length (fn l) := by rw [cyc_eq h, List.length_map]; rfl
theorem rep_lt {i : Nat} (hi : i ∈ reps l l.length) : i < l.length ∧ ∀ j, j < i → ¬ con (fn l) j i := by
  obtain ⟨h1, h2⟩ := List.mem_filter.mp hi
  exact ⟨List.mem_range.mp h1, of_decide_eq_true h2⟩
/-- two of one round -/
theorem same_row {a b : Nat} (ha : a < l.length) : (∃ r ∈ cyc l, a ∈ r ∧ b ∈ r) ↔ con (fn l) a b := by
  rw [cyc_eq h]
  constructor
  · rintro ⟨r, hr, h1, h2⟩
    obtain ⟨i, hi, rfl⟩ := List.mem_map.mp hr
    have hl := (rep_lt h hi).1
    exact (con.symm h.pm hl ((mem_orb h.pm hl).mp h1)).trans ((mem_orb h.pm hl).mp h2)
  · intro c
    obtain ⟨m, h1, h2, h3⟩ := least_in h.pm ha
    refine ⟨orb (fn l) m, List.mem_map.mpr ⟨m, List.mem_filter.mpr ⟨List.mem_range.mpr h1, decide_eq_true h3⟩, rfl⟩, (mem_orb h.pm h1).mpr h2, (mem_orb h.pm h1).mpr (h2.trans c)⟩
theorem reps_sorted (b : Nat) : (reps l b).Pairwise (· < ·) := List.pairwise_lt_range.filter _
/-- where there are fewer rounds than boxes, one has two boxes -/
theorem long_row (hc : cnt l.length (fn l) < l.length) : ∃ i ∈ reps l l.length, 1 < per (fn l) i := Classical.byContradiction fun hn => by
  have h1 : ∀ i ∈ reps l l.length, fn l i = i := fun i hi => by
    have q := per_spec h.pm (rep_lt h hi).1
    have : per (fn l) i = 1 := by
      have : ¬ 1 < per (fn l) i := fun z => hn ⟨i, hi, z⟩
      omega
    rw [this] at q
    exact q.1.2
  have fix : ∀ i, fn l i = i → ∀ k, itr (fn l) k i = i := fun i e k => by
    induction k with
    | zero => rfl
    | succ k ih => show fn l (itr (fn l) k i) = i; rw [ih]; exact e
  have all : (reps l l.length) = List.range l.length := List.filter_eq_self.mpr fun x hx => by
    have hx' := List.mem_range.mp hx
    obtain ⟨m, a1, a2, a3⟩ := least_in h.pm hx'
    have hm : m ∈ reps l l.length := List.mem_filter.mpr ⟨List.mem_range.mpr a1, decide_eq_true a3⟩
    obtain ⟨k, ek⟩ := a2
    rw [fix m (h1 m hm) k] at ek
    subst ek
    exact decide_eq_true a3
  have : cnt l.length (fn l) = l.length := by
    show (reps l l.length).length = _
    rw [all, List.length_range]
  omega
theorem rep_next {i : Nat} (hi : i ∈ reps l l.length) (hp : 1 < per (fn l) i) : i < fn l i ∧ con (fn l) i (fn l i) ∧ (orb (fn l) i)[0]? = some i ∧ (orb (fn l) i)[1]? = some (fn l i) := by
  have hr := rep_lt h hi
  have q := per_spec h.pm hr.1
  have ne : fn l i ≠ i := fun e => q.2 1 hp ⟨Nat.le_refl _, e⟩
  refine ⟨?_, con.step _ _, by rw [orb_get _ _ (by omega)]; rfl, by rw [orb_get _ _ hp]; rfl⟩
  rcases Nat.lt_trichotomy (fn l i) i with z | z | z
  · exact absurd (con.symm h.pm hr.1 (con.step (fn l) i)) (hr.2 _ z)
  · exact absurd z ne
  · exact z
end
theorem itr_congr {n : Nat} {p q : Nat → Nat} (h : Pm n p) (e : ∀ i, i < n → q i = p i) {i : Nat} (hi : i < n) (k : Nat) : itr q k i = itr p k i := itr_same k fun t _ => e _ (h.itr_lt t hi)
theorem con_congr {n : Nat} {p q : Nat → Nat} (h : Pm n p) (e : ∀ i, i < n → q i = p i) {i j : Nat} (hi : i < n) : con q i j ↔ con p i j := by
  unfold con
  simp only [itr_congr h e hi]
theorem cnt_congr {n : Nat} {p q : Nat → Nat} (h : Pm n p) (e : ∀ i, i < n → q i = p i) : cnt n q = cnt n p := by
  unfold cnt
  congr 1
  refine List.filter_congr fun i hi => decide_eq_decide.mpr ?_
  have := List.mem_range.mp hi
  constructor
  · exact fun q j hj c => q j hj ((con_congr h e (by omega)).mpr c)
  · exact fun q j hj c => q j hj ((con_congr h e (by omega)).mp c)
theorem cnt_id (n : Nat) {p : Nat → Nat} (e : ∀ i, i < n → p i = i) : cnt n p = n := by
  have h : Pm n (fun i => i) := ⟨fun _ h => h, fun _ _ _ _ h => h⟩
  rw [cnt_congr h e]
  have fx : ∀ k i, itr (fun i => i) k i = i := fun k i => by
    induction k with
    | zero => rfl
    | succ k ih => exact ih
  unfold cnt
  rw [List.filter_eq_self.mpr, List.length_range]
  intro i _
  refine decide_eq_true fun j hj ⟨k, ek⟩ => ?_
  rw [fx] at ek
  omega
/-- back and forth there are as many rounds -/
theorem cnt_inv {n : Nat} {p q : Nat → Nat} (h : Pm n p) (hq : Pm n q) (e : ∀ i, i < n → q (p i) = i) : cnt n q = cnt n p := by
  have one : ∀ k i, i < n → itr q k (itr p k i) = i := fun k => by
    induction k with
    | zero => exact fun i _ => rfl
    | succ k ih =>
      intro i hi
      rw [itr_succ' q]
      show itr q k (q (p (itr p k i))) = i
      rw [e _ (h.itr_lt k hi), ih i hi]
  have ab : ∀ {i j}, i < n → con p i j → con q i j := fun {i j} hi c => by
    obtain ⟨k, rfl⟩ := c
    exact con.symm hq (h.itr_lt k hi) ⟨k, one k i hi⟩
  have ba : ∀ {i j}, i < n → con q i j → con p i j := fun {i j} hi c => by
    obtain ⟨k, rfl⟩ := c
    have hx := hq.itr_lt k hi
    refine con.symm h hx ?_
    clear ab
    induction k with
    | zero => exact con.refl _ _
    | succ k ih =>
      have hk := hq.itr_lt k hi
      -- q (x) steps to x under p
      obtain ⟨m, m1, _, em⟩ := h.back hk
      have : itr q k i = p (itr p (m - 1) (itr q k i)) := by
        have : itr p (m - 1 + 1) (itr q k i) = itr q k i := by rw [show m - 1 + 1 = m by omega]; exact em
        exact this.symm
      have e2 : q (itr q k i) = itr p (m - 1) (itr q k i) := by
        conv => lhs; rw [this]
        exact e _ (h.itr_lt _ hk)
      have e3 : p (itr q (k + 1) i) = itr q k i := by
        show p (q (itr q k i)) = _
        rw [e2]; exact this.symm
      exact (show con p (itr q (k + 1) i) (itr q k i) from ⟨1, e3⟩).trans (ih hk)
  unfold cnt
  congr 1
  refine List.filter_congr fun i hi => decide_eq_decide.mpr ?_
  have := List.mem_range.mp hi
  exact ⟨fun z j hj c => z j hj (ab (by omega) c), fun z j hj c => z j hj (ba (by omega) c)⟩
end CY

set_option Elab.async false
set_option linter.all false
set_option maxRecDepth 100000
set_option maxHeartbeats 4000000
/-! exchanges of a laying, rows of them -/
namespace CY
open Classical
def ex (l : List Nat) (a b : Nat) : List Nat := (l.set a (fn l b)).set b (fn l a)
theorem ex_len (l : List Nat) (a b : Nat) : (ex l a b).length = l.length := by simp [ex]
theorem fn_set (l : List Nat) (a x i : Nat) (ha : a < l.length) : fn (l.set a x) i = if i = a then x else fn l i := by
  unfold fn
  rw [List.getD_eq_getElem?_getD, List.getElem?_set]
  by_cases e : i = a
  · subst e; simp [ha]
  · rw [if_neg (Ne.symm e), if_neg e, ← List.getD_eq_getElem?_getD]
theorem fn_ex {l : List Nat} {a b : Nat} (ha : a < l.length) (hb : b < l.length) : fn (ex l a b) = sw (fn l) a b := by
  funext i
  unfold ex
  rw [fn_set _ _ _ _ (by simpa using hb), fn_set _ _ _ _ ha]
  unfold sw
  by_cases h1 : i = a <;> by_cases h2 : i = b <;> simp_all
theorem Ly.of_pm {l : List Nat} (h : Pm l.length (fn l)) : Ly l := by
  refine ⟨?_, fun x hx => ?_⟩
  · rw [List.nodup_iff_pairwise_ne, List.pairwise_iff_getElem]
    intro i j hi hj hij e
    rw [← fn_get hi, ← fn_get hj] at e
    have := h.inj i j hi hj e
    omega
  · obtain ⟨i, hi, rfl⟩ := List.mem_iff_getElem.mp hx
    rw [← fn_get hi]
    exact h.lt i hi
theorem Ly.ex {l : List Nat} (h : Ly l) {a b : Nat} (ha : a < l.length) (hb : b < l.length) : Ly (CY.ex l a b) := .of_pm (by
  rw [ex_len, fn_ex ha hb]
  exact h.pm.sw ha hb)
theorem Ly.mem {l : List Nat} (h : Ly l) {x : Nat} (hx : x < l.length) : x ∈ l := Classical.byContradiction fun hn => by
  have := below (n := l.length) (List.nodup_cons.mpr ⟨hn, h.nd⟩) fun y hy => by
    rcases List.mem_cons.mp hy with e | e
    · rw [e]; exact hx
    · exact h.lt y e
  simp at this
  omega
theorem Pm.surj {n : Nat} {p : Nat → Nat} (h : Pm n p) {x : Nat} (hx : x < n) : ∃ y, y < n ∧ p y = x := by
  obtain ⟨m, m1, _, em⟩ := h.back hx
  refine ⟨itr p (m - 1) x, h.itr_lt _ hx, ?_⟩
  have : itr p (m - 1 + 1) x = x := by rw [show m - 1 + 1 = m by omega]; exact em
  exact this
/-! where a number stands -/
theorem ix_lt {l : List Nat} (h : Ly l) {x : Nat} (hx : x < l.length) : l.idxOf x < l.length := List.idxOf_lt_length_of_mem (h.mem hx)
theorem fn_ix {l : List Nat} (h : Ly l) {x : Nat} (hx : x < l.length) : fn l (l.idxOf x) = x := by
  rw [fn_get (ix_lt h hx)]
  exact List.getElem_idxOf (ix_lt h hx)
theorem ix_fn {l : List Nat} (h : Ly l) {i : Nat} (hi : i < l.length) : l.idxOf (fn l i) = i :=
  h.pm.inj _ _ (ix_lt h (h.pm.lt _ hi)) hi (fn_ix h (h.pm.lt _ hi))
theorem ix_of {l : List Nat} (h : Ly l) {i x : Nat} (hi : i < l.length) (e : fn l i = x) : l.idxOf x = i := by
  rw [← e]; exact ix_fn h hi
/-- what leads from a laying to another one -/
def led (l O : List Nat) : List Nat := O.map fun x => l.idxOf x
theorem led_len (l O : List Nat) : (led l O).length = O.length := by simp [led]
theorem fn_led {l O : List Nat} {i : Nat} (hi : i < O.length) : fn (led l O) i = l.idxOf (fn O i) := by
  rw [fn_get (by rw [led_len]; exact hi), fn_get hi]
  simp [led]
section
variable {l O : List Nat} (h : Ly l) (hO : Ly O) (hn : O.length = l.length)
include h hO hn
theorem Ly.led : Ly (led l O) := .of_pm ⟨fun i hi => by
  rw [led_len] at hi ⊢
  rw [fn_led hi, hn]
  exact ix_lt h (by rw [← hn]; exact hO.pm.lt i hi), fun i j hi hj e => by
  rw [led_len] at hi hj
  rw [fn_led hi, fn_led hj] at e
  have a1 := fn_ix h (x := fn O i) (by rw [← hn]; exact hO.pm.lt i hi)
  have a2 := fn_ix h (x := fn O j) (by rw [← hn]; exact hO.pm.lt j hj)
  rw [e] at a1
  exact hO.pm.inj i j hi hj (a1.symm.trans a2)⟩
/-- the other one's keys are exchanged -/
theorem led_exO {a b : Nat} (ha : a < l.length) (hb : b < l.length) : cnt l.length (fn (CY.led l (CY.ex O a b))) = cnt l.length (sw (fn (CY.led l O)) a b) := by
  have hp := (Ly.led h hO hn).pm
  rw [led_len, hn] at hp
  refine cnt_congr (hp.sw ha hb) fun i hi => ?_
  rw [fn_led (by rw [ex_len, hn]; exact hi), fn_ex (by rw [hn]; exact ha) (by rw [hn]; exact hb)]
  unfold sw
  split
  · rw [fn_led (by rw [hn]; exact hb)]
  · split
    · rw [fn_led (by rw [hn]; exact ha)]
    · rw [fn_led (by rw [hn]; exact hi)]
/-- the told step: a box gets its own -/
theorem led_ex1 {b : Nat} (hb : b < l.length) (hne : fn l b ≠ fn O b) : l.idxOf (fn O b) < l.length ∧ l.idxOf (fn O b) ≠ b ∧ fn l (l.idxOf (fn O b)) = fn O b ∧
    cnt l.length (fn (CY.led (CY.ex l b (l.idxOf (fn O b))) O)) = cnt l.length (fn (CY.led l O)) + 1 := by
  have hx : fn O b < l.length := by rw [← hn]; exact hO.pm.lt b (by rw [hn]; exact hb)
  have j1 := ix_lt h hx
  have j2 := fn_ix h hx
  have j3 : l.idxOf (fn O b) ≠ b := fun e => hne (by rw [e] at j2; exact j2)
  refine ⟨j1, j3, j2, ?_⟩
  have hq := Ly.led h hO hn
  have hp := hq.pm
  rw [led_len, hn] at hp
  obtain ⟨y, y1, y2⟩ := hp.surj hb
  have lb : fn (CY.led l O) b = l.idxOf (fn O b) := fn_led (by rw [hn]; exact hb)
  have yb : y ≠ b := fun e => j3 (by rw [e, lb] at y2; exact y2)
  have := cnt_part hp y1 hb yb ⟨1, y2⟩
  rw [← this]
  refine cnt_congr (hp.sw y1 hb) fun i hi => ?_
  have hl' := h.ex hb j1
  have hi' : i < O.length := by rw [hn]; exact hi
  rw [fn_led hi']
  generalize hj : l.idxOf (fn O b) = j at *
  have k1 : fn (CY.led l O) i = l.idxOf (fn O i) := fn_led hi'
  have k2 : fn l (fn (CY.led l O) i) = fn O i := by
    rw [k1]; exact fn_ix h (by rw [← hn]; exact hO.pm.lt i hi')
  have k3 := hp.lt i hi
  by_cases i1 : i = y
  · subst i1
    rw [sw_a, lb]
    refine ix_of hl' (by rw [ex_len]; exact j1) ?_
    rw [fn_ex hb j1, sw_b _ (Ne.symm j3), ← y2]
    exact k2
  · by_cases i2 : i = b
    · subst i2
      rw [sw_b _ (Ne.symm i1), y2]
      refine ix_of hl' (by rw [ex_len]; exact hb) ?_
      rw [fn_ex hb j1, sw_a]
      exact j2
    · rw [sw_o _ i1 i2]
      have n1 : fn (CY.led l O) i ≠ b := fun e => i1 (hp.inj i y hi y1 (e.trans y2.symm))
      have n2 : fn (CY.led l O) i ≠ j := fun e => i2 (hp.inj i b hi hb (e.trans lb.symm))
      refine ix_of hl' (by rw [ex_len]; exact k3) ?_
      rw [fn_ex hb j1, sw_o _ n1 n2]
      exact k2
end
theorem led_self {l : List Nat} (h : Ly l) : cnt l.length (fn (led l l)) = l.length := cnt_id _ fun i hi => by
  rw [fn_led hi]; exact ix_fn h hi
theorem led_back {l O : List Nat} (h : Ly l) (hO : Ly O) (hn : O.length = l.length) : cnt l.length (fn (led O l)) = cnt l.length (fn (led l O)) := by
  have hp := (Ly.led h hO hn).pm
  have hq := (Ly.led hO h hn.symm).pm
  rw [led_len, hn] at hp
  rw [led_len] at hq
  refine cnt_inv hp hq fun i hi => ?_
  have hi' : i < O.length := by rw [hn]; exact hi
  rw [fn_led (hp.lt i hi), fn_led hi', fn_ix h (by rw [← hn]; exact hO.pm.lt i hi')]
  exact ix_fn hO hi'
/-! rows of exchanges -/
def exs (l : List Nat) (ps : List (Nat × Nat)) : List Nat := ps.foldl (fun l p => ex l p.1 p.2) l
def Row (n : Nat) (ps : List (Nat × Nat)) : Prop := ∀ p ∈ ps, p.1 < p.2 ∧ p.2 < n
theorem exs_snoc (l : List Nat) (ps : List (Nat × Nat)) (a b : Nat) : exs l (ps ++ [(a, b)]) = ex (exs l ps) a b := by simp [exs]
theorem exs_len (l : List Nat) (ps : List (Nat × Nat)) : (exs l ps).length = l.length := by
  induction ps generalizing l with
  | nil => rfl
  | cons p ps ih => show (exs (ex l p.1 p.2) ps).length = _; rw [ih, ex_len]
theorem Ly.exs {ps : List (Nat × Nat)} : ∀ {l : List Nat}, Ly l → Row l.length ps → Ly (exs l ps) := by
  induction ps with
  | nil => exact fun h _ => h
  | cons p ps ih =>
    intro l h hr
    have := hr p (by simp)
    exact ih (h.ex (by omega) (by omega)) (by rw [ex_len]; exact fun q hq => hr q (by simp [hq]))
theorem Row.snoc {n : Nat} {ps : List (Nat × Nat)} {a b : Nat} (h : Row n ps) (hab : a < b) (hb : b < n) : Row n (ps ++ [(a, b)]) := fun p hp => by
  rcases List.mem_append.mp hp with z | z
  · exact h p z
  · simp at z; rw [z]; exact ⟨hab, hb⟩
/-- a row of k exchanges makes at most k rounds fewer, and by twos -/
theorem drawn_ok {l : List Nat} (h : Ly l) : ∀ (ps : List (Nat × Nat)) (O : List Nat), Ly O → O.length = l.length → Row l.length ps →
    cnt l.length (fn (led l O)) ≤ cnt l.length (fn (led l (exs O ps))) + ps.length ∧ (cnt l.length (fn (led l O)) + cnt l.length (fn (led l (exs O ps))) + ps.length) % 2 = 0
  | [], O, _, _, _ => by simp [exs]; omega
  | p :: ps, O, hO, hn, hr => by
    obtain ⟨p1, p2⟩ := hr p (by simp)
    have ih := drawn_ok h ps (ex O p.1 p.2) (hO.ex (by omega) (by omega)) (by rw [ex_len, hn]) fun q hq => hr q (by simp [hq])
    have e := led_exO h hO hn (a := p.1) (b := p.2) (by omega) p2
    have hp := (Ly.led h hO hn).pm
    rw [led_len, hn] at hp
    show _ ≤ cnt l.length (fn (led l (exs (ex O p.1 p.2) ps))) + _ ∧ (_ + cnt l.length (fn (led l (exs (ex O p.1 p.2) ps))) + _) % 2 = 0
    by_cases c : con (fn (led l O)) p.1 p.2
    · have := cnt_part hp (by omega) p2 (by omega) c
      simp only [List.length_cons]
      omega
    · have := cnt_join hp (by omega) p2 c
      simp only [List.length_cons]
      omega
/-! the told row to another laying -/
def rtS (O : List Nat) (a : List Nat × List (Nat × Nat)) (b : Nat) : List Nat × List (Nat × Nat) :=
  if fn a.1 b = fn O b then a else (ex a.1 b (a.1.idxOf (fn O b)), a.2 ++ [(b, a.1.idxOf (fn O b))])
structure RtI (l O : List Nat) (b : Nat) (a : List Nat × List (Nat × Nat)) : Prop where
  ly : Ly a.1
  len : a.1.length = l.length
  same : ∀ i, i < b → fn a.1 i = fn O i
  cnt : cnt l.length (fn (led a.1 O)) = cnt l.length (fn (led l O)) + a.2.length
  few : a.2.length ≤ b
  row : Row l.length a.2
  eq : exs l a.2 = a.1
theorem RtI.step {l O : List Nat} {b : Nat} {a : List Nat × List (Nat × Nat)} (h : RtI l O b a) (hO : Ly O) (hn : O.length = l.length) (hb : b < l.length) : RtI l O (b + 1) (rtS O a b) := by
  unfold rtS
  split
  · rename_i e
    refine ⟨h.ly, h.len, fun i hi => ?_, h.cnt, by have := h.few; omega, h.row, h.eq⟩
    by_cases z : i = b
    · rw [z]; exact e
    · exact h.same i (by omega)
  · rename_i e
    obtain ⟨j1, j2, j3, j4⟩ := led_ex1 h.ly hO (hn.trans h.len.symm) (by rw [h.len]; exact hb) e
    rw [h.len] at j4
    have bj : b < a.1.idxOf (fn O b) := by
      rcases Nat.lt_trichotomy b (a.1.idxOf (fn O b)) with z | z | z
      · exact z
      · exact absurd z.symm j2
      · have s := h.same _ z
        rw [j3] at s
        have := hO.pm.inj _ _ (by rw [hn]; exact hb) (by rw [hn, ← h.len]; exact j1) s
        omega
    have hb' : b < a.1.length := by rw [h.len]; exact hb
    refine ⟨h.ly.ex hb' j1, by rw [ex_len]; exact h.len, fun i hi => ?_, ?_, by have := h.few; simp; omega, h.row.snoc bj (by rw [← h.len]; exact j1), by rw [exs_snoc, h.eq]⟩
    · simp only
      rw [fn_ex hb' j1]
      by_cases z : i = b
      · rw [z, sw_a]; exact j3
      · rw [sw_o _ z (by omega)]; exact h.same i (by omega)
    · simp only [List.length_append, List.length_cons, List.length_nil]
      rw [j4, h.cnt]; omega
theorem RtI.fold {l O : List Nat} (h : Ly l) (hO : Ly O) (hn : O.length = l.length) : ∀ b, b ≤ l.length → RtI l O b ((List.range b).foldl (rtS O) (l, []))
  | 0, _ => ⟨h, rfl, fun i hi => by omega, by simp, by simp, fun p hp => (by cases hp), rfl⟩
  | b + 1, hb => by
    rw [List.range_succ, List.foldl_append]
    exact (RtI.fold h hO hn b (by omega)).step hO hn (by omega)
def rowTo (l O : List Nat) : List (Nat × Nat) := ((List.range O.length).foldl (rtS O) (l, [])).2
theorem fn_ext {l O : List Nat} (hn : O.length = l.length) (e : ∀ i, i < l.length → fn l i = fn O i) : l = O := by
  refine List.ext_getElem hn.symm fun i h1 h2 => ?_
  rw [← fn_get h1, ← fn_get h2]
  exact e i h1
theorem rowTo_ok {l O : List Nat} (h : Ly l) (hO : Ly O) (hn : O.length = l.length) : exs l (rowTo l O) = O ∧ Row l.length (rowTo l O) ∧ (rowTo l O).length + cnt l.length (fn (led l O)) = l.length := by
  have q := RtI.fold h hO hn l.length (Nat.le_refl _)
  rw [← hn] at q
  unfold rowTo
  generalize (List.range O.length).foldl (rtS O) (l, []) = a at q
  have e : a.1 = O := fn_ext (hn.trans q.len.symm) fun i hi => q.same i (by rw [hn, ← q.len]; exact hi)
  refine ⟨q.eq.trans e, q.row, ?_⟩
  have c := q.cnt
  rw [e] at c
  have := led_self hO
  rw [hn] at this
  omega
theorem rowTo_self {l : List Nat} : rowTo l l = [] := by
  have : ∀ b, (List.range b).foldl (rtS l) (l, []) = (l, []) := fun b => by
    induction b with
    | zero => rfl
    | succ b ih => rw [List.range_succ, List.foldl_append, ih]; simp [rtS]
  unfold rowTo
  rw [this]
/-! the told row to so many rounds -/
def long1 (rows : List (List Nat)) : List Nat := (rows.filter fun r => decide (1 < r.length)).headD []
def pairOf (l : List Nat) (many : Nat) : Nat × Nat :=
  if (cyc l).length < many then ((long1 (cyc l)).getD 0 0, (long1 (cyc l)).getD 1 0) else (((cyc l).headD []).getD 0 0, ((cyc l).getLastD []).getD 0 0)
theorem long_ex {l : List Nat} (h : Ly l) (hc : (cyc l).length < l.length) : ∃ i, i < l.length ∧ long1 (cyc l) = orb (fn l) i ∧ 1 < per (fn l) i ∧ i ∈ reps l l.length ∧ ∃ rs, (cyc l).filter (fun r => decide (1 < r.length)) = orb (fn l) i :: rs := by
  rw [cyc_len h] at hc
  obtain ⟨i, hi, hp⟩ := long_row h hc
  have hm : orb (fn l) i ∈ (cyc l).filter fun r => decide (1 < r.length) := List.mem_filter.mpr ⟨by rw [cyc_eq h]; exact List.mem_map.mpr ⟨i, hi, rfl⟩, by rw [orb_len]; exact decide_eq_true hp⟩
  unfold long1
  cases hf : (cyc l).filter fun r => decide (1 < r.length) with
  | nil => rw [hf] at hm; cases hm
  | cons r rs =>
    have : r ∈ (cyc l).filter fun r => decide (1 < r.length) := by rw [hf]; simp
    obtain ⟨r1, r2⟩ := List.mem_filter.mp this
    rw [cyc_eq h] at r1
    obtain ⟨k, hk, rfl⟩ := List.mem_map.mp r1
    rw [orb_len] at r2
    exact ⟨k, (rep_lt h hk).1, rfl, of_decide_eq_true r2, hk, rs, rfl⟩
theorem ends_ex {l : List Nat} (h : Ly l) (hc : 1 < (cyc l).length) : ∃ i j, i ∈ reps l l.length ∧ j ∈ reps l l.length ∧ i < j ∧ (cyc l).headD [] = orb (fn l) i ∧ (cyc l).getLastD [] = orb (fn l) j := by
  have hs := reps_sorted h l.length
  rw [cyc_eq h] at hc ⊢
  rw [List.length_map] at hc
  generalize hR : reps l l.length = R at *
  cases R with
  | nil => simp at hc
  | cons i R =>
    have hne : R ≠ [] := fun e => by subst e; simp at hc
    refine ⟨i, R.getLast hne, by simp, by simp [List.getLast_mem], (List.pairwise_cons.mp hs).1 _ (List.getLast_mem _), by simp, ?_⟩
    rw [List.getLastD_eq_getLast?, List.getLast?_eq_some_getLast (by simp)]
    simp only [List.map_cons, Option.getD_some]
    rw [List.getLast_cons (by simpa using hne), List.getLast_map]
theorem rep_head {l : List Nat} (h : Ly l) {i : Nat} (hi : i ∈ reps l l.length) : (orb (fn l) i).getD 0 0 = i := by
  rw [List.getD_eq_getElem?_getD, orb_get _ _ (per_spec h.pm (rep_lt h hi).1).1.1]; rfl
theorem pair_ok {l : List Nat} (h : Ly l) {many : Nat} (h1 : 1 ≤ many) (h2 : many ≤ l.length) (hne : (cyc l).length ≠ many) :
    (pairOf l many).1 < (pairOf l many).2 ∧ (pairOf l many).2 < l.length ∧ (cyc (ex l (pairOf l many).1 (pairOf l many).2)).length = if (cyc l).length < many then (cyc l).length + 1 else (cyc l).length - 1 := by
  unfold pairOf
  split
  · rename_i hlt
    obtain ⟨i, hi, e, hp, hr, _⟩ := long_ex h (by omega)
    obtain ⟨n1, n2, n3, n4⟩ := rep_next h hr hp
    rw [e]
    have g0 : (orb (fn l) i).getD 0 0 = i := by rw [List.getD_eq_getElem?_getD, n3]; rfl
    have g1 : (orb (fn l) i).getD 1 0 = fn l i := by rw [List.getD_eq_getElem?_getD, n4]; rfl
    simp only [g0, g1]
    have hj := h.pm.lt i hi
    refine ⟨n1, hj, ?_⟩
    rw [cyc_len (h.ex hi hj), ex_len, fn_ex hi hj, cnt_part h.pm hi hj (by omega) n2, cyc_len h]
  · rename_i hlt
    obtain ⟨i, j, hi, hj, hij, e1, e2⟩ := ends_ex h (by omega)
    rw [e1, e2]
    simp only [rep_head h hi, rep_head h hj]
    have li := (rep_lt h hi).1
    have lj := rep_lt h hj
    refine ⟨hij, lj.1, ?_⟩
    have := cnt_join h.pm li lj.1 (lj.2 i hij)
    rw [cyc_len (h.ex li lj.1), ex_len, fn_ex li lj.1, cyc_len h]
    omega
end CY

set_option Elab.async false
set_option linter.all false
set_option maxRecDepth 100000
set_option maxHeartbeats 4000000
/-! exchanges, rows of them, evaluated -/
namespace DL
open PySem PySem.Spec PyProof.Rows L2
variable [Wr]
def eP (p : Nat × Nat) : D := .tuple [eN p.1, eN p.2]
theorem walkC_eq (l : List Nat) : ∀ (f : Nat) (seen : List Nat) (here : Nat) (row : List Nat), walkC l f seen here row = CY.walk l f seen here row
  | 0, _, _, _ => rfl
  | f + 1, seen, here, row => by
    unfold walkC CY.walk
    split
    · rfl
    · exact walkC_eq l f _ _ _
theorem cycs_eq (l : List Nat) : cycs l = CY.cyc l := by
  have : stepC l = CY.stp l := by
    funext a box
    unfold stepC CY.stp
    rw [walkC_eq]
  unfold cycs CY.cyc
  rw [this]
theorem Lay.ly {l : List Nat} (h : Lay l) : CY.Ly l := ⟨h.2.2.1, h.2.2.2⟩
theorem lay_of {l : List Nat} (h : CY.Ly l) (h1 : 1 ≤ l.length) (h2 : l.length ≤ 30) : Lay l := ⟨h1, h2, h.nd, h.lt⟩
theorem e_need {l : List Nat} (h : Lay l) : F_need_laying [eT l] = .ok (.sh .none) := by
  have h30 := h.2.1
  unfold F_need_laying f_need_laying runP
  simp [startE, e_is_laying _ (sm_eT l (by omega)), h.is]
theorem ixN_at {n i : Nat} (h : i < n) : ixN n (i : Int) = some i := by simp [h]
theorem ix_eP0 (p : Nat × Nat) : dIx (eP p) (.int 0) = some (.sh (eN p.1)) := rfl
theorem ix_eP1 (p : Nat × Nat) : dIx (eP p) (.int 1) = some (.sh (eN p.2)) := rfl
theorem ix_lN (l : List Nat) {i : Nat} (hi : i < l.length) : dIx (.list (l.map eN)) (eN i) = some (.sh (eN (CY.fn l i))) := by
  show dIx (.list (l.map eN)) (.int (i : Int)) = _
  rw [dIx_list, atI_cast, List.getElem?_map, List.getElem?_eq_getElem hi, CY.fn_get hi]
  rfl
theorem e_exchanged {l : List Nat} {a b : Nat} (ha : a < l.length) (hb : b < l.length) : F_exchanged [eT l, eP (a, b)] = .ok (.sh (eT (CY.ex l a b))) := by
  unfold F_exchanged f_exchanged runP
  rw [sSeq_of (ρ' := [.no, .sh (eP (a, b)), .ow (l.map eN)]) (by simp [startE, eT])]
  have z : szOk 2 = true := szOk_of (by omega)
  rw [sSeq_of (ρ' := [.no, .no, .ow ((CY.ex l a b).map eN)]) (by
    have i1 := ix_lN l ha
    have i2 := ix_lN l hb
    simp [slD, ix_eP0, ix_eP1, i1, i2, z, isL]
    rw [show eN a = .int (a : Int) from rfl, setO_int 2 (a : Int) _ _ _ (.ow (l.map eN)) (l.map eN) a rfl rfl (by rw [List.length_map]; exact ixN_at ha)]
    simp [putSl, isL, ix_eP1]
    rw [show eN b = .int (b : Int) from rfl, setO_int 2 (b : Int) _ _ _ (.ow ((l.map eN).set a (eN (CY.fn l b)))) ((l.map eN).set a (eN (CY.fn l b))) b rfl rfl (by rw [List.length_set, List.length_map]; exact ixN_at hb)]
    simp [putSl, CY.ex, List.map_set])]
  simp [eT]
theorem e_within_nat {i n : Nat} (h : i < n) : F_is_within [eN i, .int 0, .int ((n : Int) - 1)] = .ok (.sh (.bool true)) := by
  rw [show eN i = .int (i : Int) from rfl, e_withinD _ rfl]
  simp [isWithD]
  omega
theorem e_is_exchange {l : List Nat} (h : Lay l) {p : Nat × Nat} (h1 : p.1 < p.2) (h2 : p.2 < l.length) : F_is_exchange [eT l, eP p] = .ok (.sh (.bool true)) := by
  have h30 := h.2.1
  have z : szOk 2 = true := szOk_of (by omega)
  have zl : szOk l.length = true := szOk_of (by omega)
  have w1 := e_within_nat (i := p.1) (n := l.length) (by omega)
  have w2 := e_within_nat (i := p.2) (n := l.length) h2
  have lt : dLt (eN p.1) (eN p.2) = some (.sh (.bool true)) := by
    show bRv (ltD (.int (p.1 : Int)) (.int (p.2 : Int))) = _
    simp [bRv, ltD]; omega
  have ne : dNe (.int 2) (.int 2) = some (.sh (.bool false)) := by rw [dNe_int]; simp
  unfold F_is_exchange f_is_exchange runP
  rw [sSeq_of (ρ' := [.sh (eT l), .sh (eP p), .no]) (by simp [startE, eP, isiD, tyName, kitB, lenD, ne])]
  simp [-dLc_ap]
  rw [lc_m (fun d : D => d) (fun _ => .bool true) [eN p.1, eN p.2] ?q1 (by simp) ?q3]
  case q1 => simp [eP]
  case q3 =>
    intro d hd
    refine ⟨[.sh (eT l), .sh (eP p), .sh d], rfl, ?_, rfl⟩
    simp at hd
    rcases hd with rfl | rfl
    · simp [eT, zl, w1]
    · simp [eT, zl, w2]
  simp [ix_eP0, ix_eP1, lt, allF_map, dAllF, boolsOf]
theorem e_behind {l : List Nat} (h : Lay l) {ps : List (Nat × Nat)} (hr : CY.Row l.length ps) (hl : ps.length ≤ 60) : F_behind [eT l, .list (ps.map eP)] = .ok (.sh (eT (CY.exs l ps))) := by
  unfold F_behind f_behind runP
  have z : szOk ps.length = true := szOk_of (by omega)
  rw [sSeq_of (ρ' := [.sh (eT l), .sh (.list (ps.map eP)), .no]) (by simp [startE, e_need h])]
  rw [sSeq_of (ρ' := [.sh (eT l), .sh (.list (ps.map eP)), .no]) (by
    have g : ¬ (60 : Int) < (ps.length : Int) := by omega
    simp [-dLc_ap, isiD, tyName, kitB, z, g]
    rw [lc_m eP (fun _ => .bool true) ps ?q1 (by omega) ?q3]
    case q1 => simp
    case q3 => exact fun p hp => ⟨_, rfl, by simp [e_is_exchange h (hr p hp).1 (hr p hp).2], rfl⟩
    simp [-List.map_map, -List.map_const', allF_map])]
  have lp := sLoop_fold (fg := gN 2) (fb := b_behind_1) eP (fun m : List Nat => [.sh (eT m), .sh (.list (ps.map eP)), .no]) (fun m p => CY.ex m p.1 p.2) (fun xs m => CY.Row m.length xs)
    (fun x xs m j => by
      have := j x (by simp)
      refine ⟨_, rfl, ?_, ?_⟩
      · unfold b_behind_1
        have e := e_exchanged (l := m) (a := x.1) (b := x.2) (by omega) (by omega)
        simp [e, dS]
      · rw [CY.ex_len]
        exact fun q hq => j q (by simp [hq])) ps l hr
  rw [sSeq_of (ρ' := [.sh (eT (CY.exs l ps)), .no, .no]) (by
    rw [sWp_ap, sFor_ap]
    have : dSeq (dSh (dVar 1)) [.sh (eT l), .sh (.list (ps.map eP)), .no] = .ok (ps.map eP, [.sh (eT l), .sh (.list (ps.map eP)), .no]) := by simp
    rw [this, onR_ok, lp.1]
    simp [CY.exs])]
  simp
end DL

set_option Elab.async false
set_option linter.all false
set_option maxRecDepth 100000
set_option maxHeartbeats 4000000
/-! the told rows, evaluated -/
namespace DL
open PySem PySem.Spec PyProof.Rows L2
variable [Wr]
theorem fn_getD (l : List Nat) (i : Nat) : l.getD i 0 = CY.fn l i := rfl
theorem dNe_eNs (a b : Nat) : dNe (eN a) (eN b) = some (.sh (.bool (!decide (a = b)))) := by
  show dNe (.int (a : Int)) (.int (b : Int)) = _
  rw [dNe_int]
  congr 4
  exact decide_eq_decide.mpr (by omega)
/-! to so many rounds -/
def stN (many : Nat) (a : List Nat × List (Nat × Nat)) : En := [.sh (eT a.1), .sh (eN many), .ow (a.2.map eP), .sh (.list ((CY.cyc a.1).map eT)), .no, .no, .no]
def dist (a b : Nat) : Nat := (a - b) + (b - a)
structure RrI (l : List Nat) (many : Nat) (a : List Nat × List (Nat × Nat)) : Prop where
  lay : Lay a.1
  len : a.1.length = l.length
  row : CY.Row l.length a.2
  eq : CY.exs l a.2 = a.1
  dst : a.2.length + dist (CY.cyc a.1).length many = dist (CY.cyc l).length many
theorem cyc_le {l : List Nat} (h : CY.Ly l) : (CY.cyc l).length ≤ l.length := by
  rw [CY.cyc_len h]
  exact Nat.le_trans (List.length_filter_le _ _) (by simp)
theorem last_getD {α : Type} (l : List α) (d : α) (h : l ≠ []) : l[l.length - 1]? = some (l.getLastD d) := by
  rw [List.getLastD_eq_getLast?, List.getLast?_eq_some_getLast h]
  have : l.length - 1 < l.length := by
    have := List.length_pos_iff.mpr h
    omega
  rw [List.getElem?_eq_getElem this, List.getLast_eq_getElem]
  rfl
theorem ix_last {ds : List D} (h : ds ≠ []) : dIx (.list ds) (.int (-1)) = some (.sh (ds.getLastD .none)) := by
  have hp := List.length_pos_iff.mpr h
  rw [dIx_list]
  have : atI ds (-1) = ds[ds.length - 1]? := by
    unfold atI ixN
    rw [if_neg (by omega), if_pos (by omega)]
    show ds[((-1 : Int) + (ds.length : Int)).toNat]? = _
    rw [show ((-1 : Int) + (ds.length : Int)).toNat = ds.length - 1 by omega]
  rw [this, last_getD ds .none h]
  rfl
theorem ix_first {ds : List D} (h : ds ≠ []) : dIx (.list ds) (.int 0) = some (.sh (ds.headD .none)) := by
  cases ds with
  | nil => exact absurd rfl h
  | cons d ds => simp
theorem getLastD_map {α β : Type} (f : α → β) (l : List α) (d : α) (e : β) (h : l ≠ []) : (l.map f).getLastD e = f (l.getLastD d) := by
  rw [List.getLastD_eq_getLast?, List.getLastD_eq_getLast?, List.getLast?_map, List.getLast?_eq_some_getLast h]
  rfl
theorem headD_map {α β : Type} (f : α → β) (l : List α) (d : α) (e : β) (h : l ≠ []) : (l.map f).headD e = f (l.headD d) := by
  cases l with
  | nil => exact absurd rfl h
  | cons a l => rfl
theorem ix_eT' (l : List Nat) {i : Nat} (hi : i < l.length) : dIx (eT l) (.int (i : Int)) = some (.sh (eN (l.getD i 0))) := ix_eT l hi
theorem cyc_row {l : List Nat} (h : CY.Ly l) {r : List Nat} (hr : r ∈ CY.cyc l) : 0 < r.length := by
  rw [CY.cyc_eq h] at hr
  obtain ⟨i, hi, rfl⟩ := List.mem_map.mp hr
  exact List.length_pos_iff.mpr (CY.orb_ne h.pm (CY.rep_lt h hi).1)
theorem getLastD_mem {α : Type} (l : List α) (d : α) (h : l ≠ []) : l.getLastD d ∈ l := by
  rw [List.getLastD_eq_getLast?, List.getLast?_eq_some_getLast h]
  exact List.getLast_mem h
theorem headD_mem {α : Type} (l : List α) (d : α) (h : l ≠ []) : l.headD d ∈ l := by
  cases l with
  | nil => exact absurd rfl h
  | cons a l => simp
theorem rr_step {l : List Nat} (hl : CY.Ly l) {many : Nat} (h1 : 1 ≤ many) (h2 : many ≤ l.length) {a : List Nat × List (Nat × Nat)} (h : RrI l many a) (hne : (CY.cyc a.1).length ≠ many) :
    b_row_to_rounds_1 (stN many a) = .nx (stN many (CY.ex a.1 (CY.pairOf a.1 many).1 (CY.pairOf a.1 many).2, a.2 ++ [CY.pairOf a.1 many])) ∧ RrI l many (CY.ex a.1 (CY.pairOf a.1 many).1 (CY.pairOf a.1 many).2, a.2 ++ [CY.pairOf a.1 many]) ∧
      dist (CY.cyc (CY.ex a.1 (CY.pairOf a.1 many).1 (CY.pairOf a.1 many).2)).length many < dist (CY.cyc a.1).length many := by
  obtain ⟨p1, p2, p3⟩ := CY.pair_ok h.lay.ly h1 (by rw [h.len]; exact h2) hne
  have hp : (CY.pairOf a.1 many) = ((CY.pairOf a.1 many).1, (CY.pairOf a.1 many).2) := rfl
  have l30 := h.lay.2.1
  have lx : Lay (CY.ex a.1 (CY.pairOf a.1 many).1 (CY.pairOf a.1 many).2) := lay_of (h.lay.ly.ex (by omega) p2) (by rw [CY.ex_len]; exact h.lay.1) (by rw [CY.ex_len]; exact l30)
  have hd : dist (CY.cyc (CY.ex a.1 (CY.pairOf a.1 many).1 (CY.pairOf a.1 many).2)).length many + 1 = dist (CY.cyc a.1).length many := by
    rw [p3]
    unfold dist
    split <;> omega
  have hds := h.dst
  have cle := cyc_le h.lay.ly
  have hne0 : CY.cyc a.1 ≠ [] := fun e => by
    have hs := (CY.same_row h.lay.ly (a := 0) (b := 0) h.lay.1).mpr (CY.con.refl _ _)
    obtain ⟨r, hr, _⟩ := hs
    rw [e] at hr
    cases hr
  refine ⟨?_, ⟨lx, by rw [CY.ex_len]; exact h.len, ?_, ?_, by simp only [List.length_append, List.length_cons, List.length_nil]; omega⟩, by omega⟩
  · have mne : (CY.cyc a.1).map eT ≠ [] := fun e => hne0 (List.map_eq_nil_iff.mp e)
    have f1 := ix_first mne
    have f2 := ix_last mne
    rw [headD_map eT _ [] _ hne0] at f1
    rw [getLastD_map eT _ [] _ hne0] at f2
    have f3 := ix_eT' ((CY.cyc a.1).headD []) (i := 0) (cyc_row h.lay.ly (headD_mem _ _ hne0))
    have f4 := ix_eT' ((CY.cyc a.1).getLastD []) (i := 0) (cyc_row h.lay.ly (getLastD_mem _ _ hne0))
    have z2 : szOk 2 = true := szOk_of (by omega)
    have zc : szOk (CY.cyc a.1).length = true := szOk_of (by omega)
    have zr : szOk a.2.length = true := by
      refine szOk_of ?_
      have q1 : dist (CY.cyc l).length many ≤ (CY.cyc l).length + many := by unfold dist; omega
      have q2 := cyc_le hl
      have := h.len
      omega
    have ex1 := e_exchanged (l := a.1) (a := (CY.pairOf a.1 many).1) (b := (CY.pairOf a.1 many).2) (by omega) p2
    have er := e_all_rounds_of lx.low
    rw [cycs_eq] at er
    generalize hX : CY.ex a.1 (CY.pairOf a.1 many).1 (CY.pairOf a.1 many).2 = X at *
    have hpn : ¬ (CY.cyc a.1).length < many → CY.pairOf a.1 many = (((CY.cyc a.1).headD []).getD 0 0, ((CY.cyc a.1).getLastD []).getD 0 0) := fun q => by
      unfold CY.pairOf
      rw [if_neg q]
    have f3' : dIx (eT ((CY.cyc a.1).headD [])) (.int 0) = some (.sh (eN (((CY.cyc a.1).headD []).getD 0 0))) := f3
    have f4' : dIx (eT ((CY.cyc a.1).getLastD [])) (.int 0) = some (.sh (eN (((CY.cyc a.1).getLastD []).getD 0 0))) := f4
    clear f3 f4
    generalize (CY.cyc a.1).headD [] = A at *
    generalize (CY.cyc a.1).getLastD [] = Z at *
    generalize A.getD 0 0 = u at *
    generalize Z.getD 0 0 = v at *
    unfold b_row_to_rounds_1
    rw [sSeq_of (ρ' := [.sh (eT a.1), .sh (eN many), .ow (a.2.map eP), .sh (.list ((CY.cyc a.1).map eT)), .sh (eP (u, v)), .no, .no]) (by
      simp [stN, f1, f2, f3', f4', z2, eP])]
    rw [sSeq_of (ρ' := [.sh (eT a.1), .sh (eN many), .ow (a.2.map eP), .no, .sh (eP (CY.pairOf a.1 many)), .no, .no]) (by
      by_cases q : (CY.cyc a.1).length < many
      · have lt : dLt (.int ((CY.cyc a.1).length : Int)) (eN many) = some (.sh (.bool true)) := by
          show bRv (ltD (.int ((CY.cyc a.1).length : Int)) (.int (many : Int))) = _
          simp [bRv, ltD]; omega
        obtain ⟨i, hi, e, hp', hr, rs, hf⟩ := CY.long_ex h.lay.ly (by rw [h.len]; omega)
        obtain ⟨_, _, n3, n4⟩ := CY.rep_next h.lay.ly hr hp'
        have g0 : dIx (eT (CY.orb (CY.fn a.1) i)) (.int 0) = some (.sh (eN ((CY.orb (CY.fn a.1) i).getD 0 0))) := ix_eT' (CY.orb (CY.fn a.1) i) (i := 0) (by rw [CY.orb_len]; omega)
        have g1 : dIx (eT (CY.orb (CY.fn a.1) i)) (.int 1) = some (.sh (eN ((CY.orb (CY.fn a.1) i).getD 1 0))) := ix_eT' (CY.orb (CY.fn a.1) i) (i := 1) (by rw [CY.orb_len]; omega)
        have hpo : CY.pairOf a.1 many = ((CY.orb (CY.fn a.1) i).getD 0 0, (CY.orb (CY.fn a.1) i).getD 1 0) := by
          unfold CY.pairOf
          rw [if_pos q, e]
        rw [hpo]
        have hlc : dLc (dSeq (dSh (dVar 3))) (gN 6) (dB (dSh (dOp dGt (dSh (dCall dLen (dCons (dSh (dVar 6)) dNil))) (dSh (dC (.int 1)))))) (dSh (dVar 6)) [6] [.sh (eT a.1), .sh (eN many), .ow (a.2.map eP), .sh (.list ((CY.cyc a.1).map eT)), .sh (eP (u, v)), .no, .no] =
            .ok (.fr (((CY.cyc a.1).filter fun r => decide (1 < r.length)).map eT), [.sh (eT a.1), .sh (eN many), .ow (a.2.map eP), .sh (.list ((CY.cyc a.1).map eT)), .sh (eP (u, v)), .no, .no]) := by
          rw [lc_fm eT (fun r => decide (1 < r.length)) eT (CY.cyc a.1) ?q1 (by omega) ?q3]
          case q1 => simp
          case q3 =>
            intro r hr'
            refine ⟨_, rfl, ?_, rfl, fun _ => by simp⟩
            have rl : r.length ≤ a.1.length := by
              rw [CY.cyc_eq h.lay.ly] at hr'
              obtain ⟨k, hk, rfl⟩ := List.mem_map.mp hr'
              exact CY.below (CY.orb_nodup h.lay.ly.pm (CY.rep_lt h.lay.ly hk).1) fun x hx => ((CY.mem_orb h.lay.ly.pm (CY.rep_lt h.lay.ly hk).1).mp hx).lt h.lay.ly.pm (CY.rep_lt h.lay.ly hk).1
            have gt : dGt (.int (r.length : Int)) (.int 1) = some (.sh (.bool (decide (1 < r.length)))) := by
              show bRv (ltD (.int 1) (.int (r.length : Int))) = _
              simp only [bRv, ltD, Option.map_some]
              congr 3
              exact decide_eq_decide.mpr (by omega)
            simp [eT, szOk_of (show r.length ≤ 1000000 by omega), gt]
          rfl
        rw [hf] at hlc
        generalize (CY.orb (CY.fn a.1) i).getD 0 0 = x0 at *
        generalize (CY.orb (CY.fn a.1) i).getD 1 0 = x1 at *
        simp [-dLc_ap, zc, lt, hlc, g0, g1, z2, dS]
        try simp [eP]
      · have lt : dLt (.int ((CY.cyc a.1).length : Int)) (eN many) = some (.sh (.bool false)) := by
          show bRv (ltD (.int ((CY.cyc a.1).length : Int)) (.int (many : Int))) = _
          simp [bRv, ltD]; omega
        rw [hpn q]
        simp [-List.getD_eq_getElem?_getD, zc, lt])]
    rw [sSeq_of (ρ' := [.sh (eT a.1), .sh (eN many), .ow ((a.2 ++ [CY.pairOf a.1 many]).map eP), .no, .sh (eP (CY.pairOf a.1 many)), .no, .no]) (by simp [isL, updL, zr])]
    rw [sSeq_of (ρ' := [.sh (eT X), .sh (eN many), .ow ((a.2 ++ [CY.pairOf a.1 many]).map eP), .no, .no, .no, .no]) (by
      rw [← hp] at ex1
      simp [ex1, dS])]
    simp [er, dS, stN]
  · exact h.row.snoc p1 (by rw [← h.len]; exact p2)
  · simp only
    rw [hp, CY.exs_snoc, h.eq]
theorem e_row_to_rounds {l : List Nat} (h : Lay l) {many : Nat} (h1 : 1 ≤ many) (h2 : many ≤ l.length) : ∃ ps, F_row_to_rounds [eT l, eN many] = .ok (.fr (ps.map eP)) ∧ CY.Row l.length ps ∧ ps.length = dist (CY.cyc l).length many ∧ (CY.cyc (CY.exs l ps)).length = many ∧ Lay (CY.exs l ps) := by
  have l30 := h.2.1
  have zl : szOk l.length = true := szOk_of (by omega)
  have er := e_all_rounds_of h.low
  rw [cycs_eq] at er
  have i0 : RrI l many (l, []) := ⟨h, rfl, fun p hp => (by cases hp), rfl, by simp⟩
  have cl := cyc_le h.ly
  obtain ⟨a', e1, i1, d1⟩ := sWhile_ex (ft := dB (dSh (dOp dNe (dSh (dCall dLen (dCons (dSh (dVar 3)) dNil))) (dSh (dVar 1))))) (fb := b_row_to_rounds_1) (stN many) (RrI l many) (fun a => dist (CY.cyc a.1).length many) (fun a => (CY.cyc a.1).length = many)
    (fun a i => by
      have ca := cyc_le i.lay.ly
      have := i.lay.2.1
      have zc : szOk (CY.cyc a.1).length = true := szOk_of (by omega)
      have ne := dNe_eNs (CY.cyc a.1).length many
      rw [show eN (CY.cyc a.1).length = .int ((CY.cyc a.1).length : Int) from rfl] at ne
      have ft : dB (dSh (dOp dNe (dSh (dCall dLen (dCons (dSh (dVar 3)) dNil))) (dSh (dVar 1)))) (stN many a) = .ok (!decide ((CY.cyc a.1).length = many), stN many a) := by
        simp [stN, zc, ne]
      by_cases q : (CY.cyc a.1).length = many
      · exact .inl ⟨by rw [ft]; simp [q], q⟩
      · obtain ⟨s1, s2, s3⟩ := rr_step h.ly h1 h2 i q
        exact .inr ⟨_, by rw [ft]; simp [q], s1, s2, s3⟩) 100000 (l, []) i0 (by simp only [dist]; omega)
  refine ⟨a'.2, ?_, i1.row, ?_, by rw [i1.eq]; exact d1, by rw [i1.eq]; exact i1.lay⟩
  · unfold F_row_to_rounds f_row_to_rounds runP
    rw [sSeq_of (ρ' := [.sh (eT l), .sh (eN many), .no, .no, .no, .no, .no]) (by simp [startE, e_need h])]
    rw [sSeq_of (ρ' := [.sh (eT l), .sh (eN many), .no, .no, .no, .no, .no]) (by
      have w : F_is_within [eN many, .int 1, .int (l.length : Int)] = .ok (.sh (.bool true)) := by
        rw [show eN many = .int (many : Int) from rfl, e_withinD _ rfl]
        simp [isWithD]
        omega
      simp [eT, zl, w])]
    rw [sSeq_of (ρ' := stN many (l, [])) (by simp [stN, sPar, vCons, vNil, szOk_of, setAll, er, dS])]
    rw [sSeq_of (ρ' := [.no, .no, .ow (a'.2.map eP), .no, .no, .no, .no]) (by rw [sWp_ap, e1]; simp [stN])]
    simp
  · have := i1.dst
    rw [d1] at this
    unfold dist at this ⊢
    omega
end DL

set_option Elab.async false
set_option linter.all false
set_option maxRecDepth 100000
set_option maxHeartbeats 4000000
/-! the told rows, evaluated -/
namespace DL
open PySem PySem.Spec PyProof.Rows L2
variable [Wr]
theorem tix_eT {l : List Nat} {x : Nat} (h : x ∈ l) : tixD (eT l) (eN x) = some (.sh (eN (l.idxOf x))) := by
  have hi : intsOf (l.map eN) = some (l.map fun x : Nat => (x : Int)) := by
    rw [show l.map eN = (l.map fun x : Nat => (x : Int)).map .int by rw [List.map_map]; rfl, intsOf_map]
  have hm : (x : Int) ∈ l.map fun x : Nat => (x : Int) := List.mem_map.mpr ⟨x, h, rfl⟩
  have he : (l.map fun x : Nat => (x : Int)).idxOf (x : Int) = l.idxOf x := by
    clear h hi hm
    induction l with
    | nil => rfl
    | cons y l ih =>
      rw [List.map_cons, List.idxOf_cons, List.idxOf_cons]
      by_cases e : y = x
      · subst e; simp
      · have : ((y : Int) == (x : Int)) = false := by simp; omega
        have e' : (y == x) = false := by simp [e]
        rw [this, e']
        simp [ih]
  show ((intsOf (l.map eN)).bind fun ys => if (x : Int) ∈ ys then some (Rv.sh (.int ((ys.idxOf (x : Int) : Nat) : Int))) else none) = _
  rw [hi, Option.bind_some, if_pos hm, he]
  rfl
def stT (O : D) (a : List Nat × List (Nat × Nat)) : En := [.sh (eT a.1), .sh O, .ow (a.2.map eP), .no, .no, .no]
def eK (O : List Nat) (b : Nat) : D := .tuple [eN b, eN (CY.fn O b)]
theorem rt_step {l O : List Nat} (D' : D) (hO : CY.Ly O) (hn : O.length = l.length) (hl : l.length ≤ 30) {b : Nat} {a : List Nat × List (Nat × Nat)} (h : CY.RtI l O b a) (hb : b < l.length) :
    b_row_to_1 [.sh (eT a.1), .sh D', .ow (a.2.map eP), .sh (eN b), .sh (eN (CY.fn O b)), .no] = .nx (stT D' (CY.rtS O a b)) := by
  have hb' : b < a.1.length := by rw [h.len]; exact hb
  have i1 : dIx (eT a.1) (eN b) = some (.sh (eN (CY.fn a.1 b))) := ix_eT a.1 hb'
  have n1 := dNe_eNs (CY.fn a.1 b) (CY.fn O b)
  unfold b_row_to_1 CY.rtS
  by_cases e : CY.fn a.1 b = CY.fn O b
  · rw [decide_eq_true e] at n1
    rw [← e] at n1 ⊢
    simp [i1, n1, stT]
  · have hx : CY.fn O b < a.1.length := by rw [h.len, ← hn]; exact hO.pm.lt b (by rw [hn]; exact hb)
    have t1 := tix_eT (h.ly.mem hx)
    have e1 := e_exchanged (l := a.1) hb' (CY.ix_lt h.ly hx)
    have z := h.few
    have zs : szOk a.2.length = true := szOk_of (by omega)
    have z2 : szOk 2 = true := szOk_of (by omega)
    generalize hj : a.1.idxOf (CY.fn O b) = j at *
    simp only [eP] at e1
    simp only [eT] at t1 e1 i1
    simp [i1, n1, e, stT, dTix, eT, t1, z2, isL, updL, zs, dS, e1, eP]
theorem e_row_to {l O : List Nat} (h : Lay l) (hO : Lay O) (hn : O.length = l.length) : F_row_to [eT l, eT O] = .ok (.fr ((CY.rowTo l O).map eP)) := by
  have h30 := h.2.1
  have zl : szOk l.length = true := szOk_of (by omega)
  unfold F_row_to f_row_to runP
  rw [sSeq_of (ρ' := [.sh (eT l), .sh (eT O), .no, .no, .no, .no]) (by simp [startE, e_need h])]
  rw [sSeq_of (ρ' := [.sh (eT l), .sh (eT O), .no, .no, .no, .no]) (by simp [e_need hO])]
  rw [sSeq_of (ρ' := [.sh (eT l), .sh (eT O), .no, .no, .no, .no]) (by
    have := dNe_int (l.length : Int) (l.length : Int)
    simp [eT, hn, zl, this])]
  rw [sSeq_of (ρ' := stT (eT O) (l, [])) (by simp [szOk_of, stT])]
  have lp := sLoop_fold (fg := gT 2 (gsCons (gN 3) (gsCons (gN 4) gsNil))) (fb := b_row_to_1) (eK O) (stT (eT O)) (CY.rtS O) (fun xs a => ∃ j k, xs = List.range' j k ∧ j + k = l.length ∧ CY.RtI l O j a)
    (fun x xs a J => by
      obtain ⟨j, k, e, hjk, i⟩ := J
      obtain ⟨k', rfl, rfl, rfl⟩ := range'_cons e
      refine ⟨_, rfl, rt_step (eT O) hO.ly hn h30 i (by omega), x + 1, k', rfl, by omega, i.step hO.ly hn (by omega)⟩) (List.range' 0 l.length) (l, []) ⟨0, l.length, rfl, by omega, CY.RtI.fold h.ly hO.ly hn 0 (by omega)⟩
  have he : enumD (O.map eN) = (List.range' 0 l.length).map (eK O) := by
    unfold enumD
    rw [List.length_map, hn, List.range_eq_range']
    apply List.map_congr_left
    intro i hi
    have hi' : i < O.length := by rw [hn]; simpa using hi
    unfold eK
    rw [CY.fn_get hi']
    simp [hi', eN]
  rw [sSeq_of (ρ' := [.no, .no, .ow ((CY.rowTo l O).map eP), .no, .no, .no]) (by
    rw [sWp_ap, sFor_ap]
    have : dEnum (dCons (dSh (dVar 1)) dNil) (stT (eT O) (l, [])) = .ok ((List.range' 0 l.length).map (eK O), stT (eT O) (l, [])) := by
      rw [← he]
      simp [stT, eT]
    rw [this, onR_ok, lp.1]
    simp [stT, CY.rowTo, hn, List.range_eq_range'])]
  simp
end DL

set_option Elab.async false
set_option linter.all false
set_option maxRecDepth 100000
set_option maxHeartbeats 4000000
/-! layings: the law's rounds -/
namespace DL
open PySem PySem.Spec PyProof.Rows L2
variable [Wr]
def stW' (l : List Nat) (found : List (List Nat)) (a : List Nat × Nat × List Nat) : En := [.sh (eT l), .ow (found.map eT), .ow (a.1.map eN), .no, .ow (a.2.2.map eN), .sh (eN a.2.1)]
theorem lc_while {l : List Nat} (hl : Low l) (found : List (List Nat)) (seen : List Nat) (box : Nat) (hs : SeenOk l seen) (hb : box < l.length) :
    ∃ here, sWhile (dB (dSh (dOpR dNotIn (dSh (dVar 5)) 2))) b_Lcycles_2 100000 (stW' l found (seen, box, [])) = .nx (stW' l found ((walkC l (l.length + 1 - seen.length) seen box []).1, here, (walkC l (l.length + 1 - seen.length) seen box []).2)) ∧ SeenOk l (walkC l (l.length + 1 - seen.length) seen box []).1 := by
  obtain ⟨a', e1, h1, h2⟩ := sWhile_ex (ft := dB (dSh (dOpR dNotIn (dSh (dVar 5)) 2))) (fb := b_Lcycles_2) (stW' l found) (WkI l (seen, box, [])) (fun a => l.length - a.1.length) (fun a => a.2.1 ∈ a.1) (fun a i => by
    have ft : dB (dSh (dOpR dNotIn (dSh (dVar 5)) 2)) (stW' l found a) = .ok (!decide (a.2.1 ∈ a.1), stW' l found a) := by
      simp [stW', slD, dNotIn_natL]
    by_cases h : a.2.1 ∈ a.1
    · exact .inl ⟨by rw [ft]; simp [h], h⟩
    · obtain ⟨i', lt⟩ := i.step hl h
      refine .inr ⟨_, by rw [ft]; simp [h], ?_, i', by simp; omega⟩
      have le := few_below i.ok.1 i.ok.2
      have lr := i.row
      have l30 := hl.1
      have z1 : szOk a.1.length = true := szOk_of (by omega)
      have z2 : szOk a.2.2.length = true := szOk_of (by omega)
      have ix := ix_eT l i.here
      unfold b_Lcycles_2 stW'
      simp [z1, isL, updL, z2, ix]) 100000 (seen, box, []) ⟨hs, hb, by simp, rfl⟩ (by have := hl.1; simp only; omega)
  have d := h1.done h2
  refine ⟨a'.2.1, ?_, ?_⟩
  · rw [e1, ← d]
  · rw [← d]; exact h1.ok
def stR' (l : List Nat) (a : List (List Nat) × List Nat) : En := [.sh (eT l), .ow (a.1.map eT), .ow (a.2.map eN), .no, .no, .no]
theorem lc_box {l : List Nat} (hl : Low l) (a : List (List Nat) × List Nat) (box : Nat) (hs : SeenOk l a.2) (hb : box < l.length) (hf : a.1.length ≤ 1000) :
    b_Lcycles_1 ((stR' l a).set 3 (.sh (eN box))) = .nx (stR' l (stepC l a box)) ∧ SeenOk l (stepC l a box).2 := by
  obtain ⟨here, e1, h1⟩ := lc_while hl a.1 a.2 box hs hb
  refine ⟨?_, h1⟩
  have z1 : szOk a.1.length = true := szOk_of (by omega)
  unfold b_Lcycles_1 stR'
  rw [sSeq_of (ρ' := stW' l a.1 (a.2, box, [])) (by simp [stW', sPar, vCons, vNil, szOk_of, setAll])]
  generalize hw : walkC l (l.length + 1 - a.2.length) a.2 box [] = w at *
  rw [sSeq_of (ρ' := [.sh (eT l), .ow (a.1.map eT), .ow (w.1.map eN), .no, .ow (w.2.map eN), .no]) (by rw [sWp_ap, e1]; simp [stW'])]
  unfold stepC
  rw [hw]
  have z0 : szOk 0 = true := szOk_of (by omega)
  by_cases q : w.2 = []
  · have := dNe_nil []
    simp at this
    simp [q, slD, z0, this]
  · simp [q, slD, z0, dNe_nil, isL, updL, z1]
    simp [eT]
theorem e_Lcycles {l : List Nat} (hl : Low l) : F_Lcycles [eT l] = .ok (.fr ((cycs l).map eT)) := by
  unfold F_Lcycles f_Lcycles runP
  have l30 := hl.1
  have z : szOk l.length = true := szOk_of (by omega)
  rw [sSeq_of (ρ' := stR' l ([], [])) (by simp [startE, stR', kvN, sPar, vCons, vNil, szOk_of, setAll])]
  have lp := sLoop_fold (fg := gN 3) (fb := b_Lcycles_1) eN (stR' l) (stepC l) (fun xs a => SeenOk l a.2 ∧ a.1.length + xs.length ≤ 100 ∧ ∀ x ∈ xs, x < l.length)
    (fun x xs a j => by
      obtain ⟨e, s⟩ := lc_box hl a x j.1 (j.2.2 x (by simp)) (by omega)
      refine ⟨_, rfl, e, s, ?_, fun y hy => j.2.2 y (by simp [hy])⟩
      have := j.2.1
      unfold stepC
      simp only [List.length_cons] at this
      split <;> simp <;> omega) (List.range l.length) ([], []) ⟨⟨by simp, by simp⟩, by simp; omega, fun x hx => List.mem_range.mp hx⟩
  have hr : rngD 0 (l.length : Int) = (List.range l.length).map eN := by simp [rngD, eN]
  rw [sSeq_of (ρ' := [.no, .ow ((cycs l).map eT), .no, .no, .no, .no]) (by
    rw [sWp_ap, sFor_ap]
    have : dRng1 (dCons (dSh (dCall dLen (dCons (dSh (dVar 0)) dNil))) dNil) (stR' l ([], [])) = .ok ((List.range l.length).map eN, stR' l ([], [])) := by
      simp [stR', eT, z, hr, s62_of (i := (l.length : Int)) (by omega) (by omega)]
    rw [this, onR_ok, lp.1]
    simp [stR', cycs])]
  simp
end DL

set_option Elab.async false
set_option linter.all false
set_option maxRecDepth 100000
set_option maxHeartbeats 4000000
/-! how many exchanges, by going through all layings -/
namespace CY
open Classical
theorem ex_comm (l : List Nat) (a b : Nat) : ex l a b = ex l b a := by
  unfold ex
  by_cases h : a = b
  · subst h; rfl
  · rw [List.set_comm _ _ h]
theorem ex_ex {l : List Nat} {a b : Nat} (ha : a < l.length) (hb : b < l.length) : ex (ex l a b) a b = l := by
  refine fn_ext (by rw [ex_len, ex_len]) fun i hi => ?_
  rw [fn_ex (by rw [ex_len]; exact ha) (by rw [ex_len]; exact hb), fn_ex ha hb, sw_sw]
theorem cnt_le (n : Nat) (p : Nat → Nat) : cnt n p ≤ n := Nat.le_trans (List.length_filter_le _ _) (by simp)
/-- the fewest exchanges from l to m -/
noncomputable def dst (l m : List Nat) : Nat := l.length - cnt l.length (fn (led l m))
theorem dst_self {l : List Nat} (h : Ly l) : dst l l = 0 := by unfold dst; rw [led_self h]; omega
section
variable {l m : List Nat} (h : Ly l) (hm : Ly m) (hn : m.length = l.length)
include h hm hn
theorem led_pm : Pm l.length (fn (led l m)) := by
  have := (Ly.led h hm hn).pm
  rw [led_len, hn] at this
  exact this
theorem dst_ex {a b : Nat} (hab : a ≠ b) (ha : a < l.length) (hb : b < l.length) : dst l (ex m a b) + 1 = dst l m ∨ dst l (ex m a b) = dst l m + 1 := by
  have e := led_exO h hm hn ha hb
  have hp := led_pm h hm hn
  have c1 := cnt_le l.length (fn (led l m))
  have c2 := cnt_le l.length (sw (fn (led l m)) a b)
  unfold dst
  rw [e]
  by_cases c : con (fn (led l m)) a b
  · have := cnt_part hp ha hb hab c
    left; omega
  · have := cnt_join hp ha hb c
    right; omega
/-- one that is not there yet has a nearer one beside it -/
theorem dst_near (hd : 0 < dst l m) : ∃ a b, a < b ∧ b < l.length ∧ dst l (ex m a b) + 1 = dst l m := by
  have hp := led_pm h hm hn
  have hc : cnt l.length (fn (led l m)) < l.length := by unfold dst at hd; omega
  have : ∃ i, i < l.length ∧ fn (led l m) i ≠ i := Classical.byContradiction fun hno => by
    have : cnt l.length (fn (led l m)) = l.length := cnt_id _ fun i hi => Classical.byContradiction fun z => hno ⟨i, hi, z⟩
    omega
  obtain ⟨i, hi, hne⟩ := this
  have hj := hp.lt i hi
  have key : dst l (ex m i (fn (led l m) i)) + 1 = dst l m := by
    have e := led_exO h hm hn hi hj
    have p := cnt_part hp hi hj (Ne.symm hne) (con.step _ i)
    have c2 := cnt_le l.length (sw (fn (led l m)) i (fn (led l m) i))
    unfold dst
    rw [e, p]
    rw [p] at c2
    omega
  rcases Nat.lt_trichotomy i (fn (led l m) i) with z | z | z
  · exact ⟨i, _, z, hj, key⟩
  · exact absurd z.symm hne
  · exact ⟨_, i, z, hi, by rw [ex_comm]; exact key⟩
theorem dst_zero (hd : dst l m = 0) : m = l := by
  have hp := led_pm h hm hn
  have c1 := cnt_le l.length (fn (led l m))
  have hc : cnt l.length (fn (led l m)) = l.length := by unfold dst at hd; omega
  have q := rowTo_ok h hm hn
  have : rowTo l m = [] := List.eq_nil_of_length_eq_zero (by omega)
  rw [this] at q
  exact q.1.symm
theorem dst_row : (rowTo l m).length = dst l m := by
  have q := (rowTo_ok h hm hn).2.2
  unfold dst
  omega
end
theorem dst_drawn {l : List Nat} (h : Ly l) {ps : List (Nat × Nat)} (hr : Row l.length ps) : dst l (exs l ps) ≤ ps.length := by
  have := (drawn_ok h ps l h rfl hr).1
  rw [led_self h] at this
  unfold dst
  omega
/-- rounds change by one at most with each exchange -/
theorem cyc_drawn : ∀ (ps : List (Nat × Nat)) {l : List Nat}, Ly l → Row l.length ps → (cyc (exs l ps)).length ≤ (cyc l).length + ps.length ∧ (cyc l).length ≤ (cyc (exs l ps)).length + ps.length
  | [], l, _, _ => by simp [exs]
  | p :: ps, l, h, hr => by
    obtain ⟨p1, p2⟩ := hr p (by simp)
    have hx := h.ex (a := p.1) (b := p.2) (by omega) p2
    have ih := cyc_drawn ps hx (by rw [ex_len]; exact fun q hq => hr q (by simp [hq]))
    rw [show exs l (p :: ps) = exs (ex l p.1 p.2) ps from rfl]
    have e1 := cyc_len hx
    have e2 := cyc_len h
    rw [ex_len, fn_ex (by omega) p2] at e1
    simp only [List.length_cons]
    by_cases c : con (fn l) p.1 p.2
    · have := cnt_part h.pm (by omega) p2 (by omega) c
      omega
    · have := cnt_join h.pm (by omega) p2 c
      omega
theorem cyc_dst {l m : List Nat} (h : Ly l) (hm : Ly m) (hn : m.length = l.length) : (cyc m).length ≤ (cyc l).length + dst l m ∧ (cyc l).length ≤ (cyc m).length + dst l m := by
  obtain ⟨q1, q2, _⟩ := rowTo_ok h hm hn
  have := cyc_drawn (rowTo l m) h q2
  rw [q1, dst_row h hm hn] at this
  exact this
/-! going through all -/
abbrev Fnd := List (List Nat × Nat)
def hasK (F : Fnd) (m : List Nat) : Bool := F.any fun q => decide (q.1 = m)
theorem hasK_iff {F : Fnd} {m : List Nat} : hasK F m = true ↔ ∃ v, (m, v) ∈ F := by
  unfold hasK
  rw [List.any_eq_true]
  constructor
  · rintro ⟨q, h1, h2⟩
    have : q.1 = m := of_decide_eq_true h2
    exact ⟨q.2, by rw [← this]; exact h1⟩
  · rintro ⟨v, h⟩
    exact ⟨_, h, decide_eq_true rfl⟩
/-- one turn: found, later -/
def bstep (s : Nat) (here : List Nat) (a : Fnd × List (List Nat)) (p : Nat × Nat) : Fnd × List (List Nat) :=
  if hasK a.1 (ex here p.1 p.2) = true then a else (a.1 ++ [(ex here p.1 p.2, s)], a.2 ++ [ex here p.1 p.2])
structure BI (l : List Nat) (s : Nat) (F : Fnd) : Prop where
  ok : ∀ q ∈ F, Ly q.1 ∧ q.1.length = l.length ∧ q.2 = dst l q.1
  nd : (F.map (·.1)).Nodup
  all : ∀ m, Ly m → m.length = l.length → dst l m ≤ s → hasK F m = true
structure BJ (l : List Nat) (s : Nat) (F0 : Fnd) (a : Fnd × List (List Nat)) : Prop where
  inv : BI l s a.1
  lat : ∀ m, m ∈ a.2 ↔ (hasK a.1 m = true ∧ dst l m = s + 1)
  top : ∀ q ∈ a.1, q.2 ≤ s + 1
  sz : a.2.length ≤ a.1.length
theorem BJ.step {l : List Nat} (h : Ly l) {s : Nat} {F0 : Fnd} {a : Fnd × List (List Nat)} (j : BJ l s F0 a) {here : List Nat} (hh : Ly here) (hl : here.length = l.length) (hd : dst l here = s) {p : Nat × Nat} (p1 : p.1 < p.2) (p2 : p.2 < l.length) :
    BJ l s F0 (bstep (s + 1) here a p) ∧ hasK (bstep (s + 1) here a p).1 (ex here p.1 p.2) = true ∧ ∀ m, hasK a.1 m = true → hasK (bstep (s + 1) here a p).1 m = true := by
  have hx : Ly (ex here p.1 p.2) := hh.ex (by omega) (by omega)
  have hxl : (ex here p.1 p.2).length = l.length := by rw [ex_len]; exact hl
  unfold bstep
  split
  · rename_i e
    exact ⟨j, e, fun m hm => hm⟩
  · rename_i e
    have hds : dst l (ex here p.1 p.2) = s + 1 := by
      rcases dst_ex h hh hl (a := p.1) (b := p.2) (by omega) (by omega) p2 with z | z
      · exact absurd (j.inv.all _ hx hxl (by omega)) e
      · rw [z, hd]
    have app : ∀ m, hasK (a.1 ++ [(ex here p.1 p.2, s + 1)]) m = (hasK a.1 m || decide (ex here p.1 p.2 = m)) := fun m => by
      unfold hasK
      rw [List.any_append]
      simp
    refine ⟨⟨⟨fun q hq => ?_, ?_, fun m a1 a2 a3 => ?_⟩, fun m => ?_, fun q hq => ?_, by have := j.sz; simp; omega⟩, by rw [app]; simp, fun m hm => by rw [app, hm]; rfl⟩
    · rcases List.mem_append.mp hq with z | z
      · exact j.inv.ok q z
      · simp at z
        rw [z]
        exact ⟨hx, hxl, hds.symm⟩
    · rw [List.map_append, List.nodup_append]
      refine ⟨j.inv.nd, by simp, fun x hx' y hy' z => ?_⟩
      simp at hy'
      obtain ⟨q, hq, rfl⟩ := List.mem_map.mp hx'
      exact e (hasK_iff.mpr ⟨q.2, by rw [← hy', ← z]; exact hq⟩)
    · rw [app, j.inv.all m a1 a2 a3]; rfl
    · rw [List.mem_append, j.lat m, app]
      simp only [List.mem_singleton, Bool.or_eq_true, decide_eq_true_eq]
      constructor
      · rintro (⟨z1, z2⟩ | z)
        · exact ⟨.inl z1, z2⟩
        · exact ⟨.inr z.symm, by rw [z]; exact hds⟩
      · rintro ⟨z1 | z1, z2⟩
        · exact .inl ⟨z1, z2⟩
        · exact .inr z1.symm
    · rcases List.mem_append.mp hq with z | z
      · exact j.top q z
      · simp at z; rw [z]; exact Nat.le_refl _
def pairsL (n : Nat) : List (Nat × Nat) := (List.range n).flatMap fun a => (List.range' (a + 1) (n - (a + 1))).map fun b => (a, b)
theorem mem_pairs {n : Nat} {p : Nat × Nat} : p ∈ pairsL n ↔ p.1 < p.2 ∧ p.2 < n := by
  unfold pairsL
  rw [List.mem_flatMap]
  constructor
  · rintro ⟨a, ha, hp⟩
    obtain ⟨b, hb, rfl⟩ := List.mem_map.mp hp
    have := List.mem_range.mp ha
    rw [List.mem_range'_1] at hb
    exact ⟨by show a < b; omega, by show b < n; omega⟩
  · rintro ⟨h1, h2⟩
    refine ⟨p.1, List.mem_range.mpr (by omega), List.mem_map.mpr ⟨p.2, ?_, rfl⟩⟩
    rw [List.mem_range'_1]
    omega
def bhere (n s : Nat) (a : Fnd × List (List Nat)) (here : List Nat) : Fnd × List (List Nat) := (pairsL n).foldl (bstep s here) a
theorem BJ.here {l : List Nat} (h : Ly l) {s : Nat} {F0 : Fnd} {here : List Nat} (hh : Ly here) (hl : here.length = l.length) (hd : dst l here = s) : ∀ (ps : List (Nat × Nat)) (a : Fnd × List (List Nat)), Row l.length ps → BJ l s F0 a →
    BJ l s F0 (ps.foldl (bstep (s + 1) here) a) ∧ (∀ p ∈ ps, hasK (ps.foldl (bstep (s + 1) here) a).1 (ex here p.1 p.2) = true) ∧ ∀ m, hasK a.1 m = true → hasK (ps.foldl (bstep (s + 1) here) a).1 m = true
  | [], a, _, j => ⟨j, fun p hp => (by cases hp), fun m hm => hm⟩
  | p :: ps, a, hr, j => by
    obtain ⟨p1, p2⟩ := hr p (by simp)
    obtain ⟨j1, k1, k2⟩ := j.step h hh hl hd p1 p2
    obtain ⟨j2, k3, k4⟩ := BJ.here h hh hl hd ps _ (fun q hq => hr q (by simp [hq])) j1
    refine ⟨j2, fun q hq => ?_, fun m hm => k4 m (k2 m hm)⟩
    rcases List.mem_cons.mp hq with z | z
    · rw [z]; exact k4 _ k1
    · exact k3 q z
theorem row_pairs (n : Nat) : Row n (pairsL n) := fun p hp => mem_pairs.mp hp
theorem BJ.layer {l : List Nat} (h : Ly l) {s : Nat} {F0 : Fnd} : ∀ (L : List (List Nat)) (a : Fnd × List (List Nat)), (∀ m ∈ L, Ly m ∧ m.length = l.length ∧ dst l m = s) → BJ l s F0 a →
    BJ l s F0 (L.foldl (bhere l.length (s + 1)) a) ∧ (∀ m ∈ L, ∀ p : Nat × Nat, p.1 < p.2 → p.2 < l.length → hasK (L.foldl (bhere l.length (s + 1)) a).1 (ex m p.1 p.2) = true) ∧ ∀ m, hasK a.1 m = true → hasK (L.foldl (bhere l.length (s + 1)) a).1 m = true
  | [], a, _, j => ⟨j, fun p hp => (by cases hp), fun m hm => hm⟩
  | x :: L, a, hr, j => by
    obtain ⟨x1, x2, x3⟩ := hr x (by simp)
    obtain ⟨j1, k1, k2⟩ := BJ.here h x1 x2 x3 (pairsL l.length) a (row_pairs _) j
    obtain ⟨j2, k3, k4⟩ := BJ.layer h L _ (fun q hq => hr q (by simp [hq])) j1
    refine ⟨j2, fun q hq p p1 p2 => ?_, fun m hm => k4 m (k2 m hm)⟩
    rcases List.mem_cons.mp hq with z | z
    · rw [z]; exact k4 _ (k1 p (mem_pairs.mpr ⟨p1, p2⟩))
    · exact k3 q z p p1 p2
/-- the loop's state: found, layer, steps -/
structure BW (l : List Nat) (a : Fnd × List (List Nat) × Nat) : Prop where
  inv : BI l a.2.2 a.1
  lay : ∀ m, m ∈ a.2.1 ↔ (hasK a.1 m = true ∧ dst l m = a.2.2)
  top : ∀ q ∈ a.1, q.2 ≤ a.2.2
  sz : a.2.1.length ≤ a.1.length
theorem BW.first {l : List Nat} (h : Ly l) : BW l ([(l, 0)], [l], 0) := by
  have h1 : ∀ m, hasK [(l, 0)] m = true ↔ l = m := fun m => by simp [hasK]
  refine ⟨⟨fun q hq => ?_, by simp, fun m a1 a2 a3 => ?_⟩, fun m => ?_, fun q hq => ?_, by simp⟩
  · simp at hq
    rw [hq]
    exact ⟨h, rfl, (dst_self h).symm⟩
  · rw [h1]
    exact (dst_zero h a1 a2 (by simpa using a3)).symm
  · rw [h1]
    simp only [List.mem_singleton]
    constructor
    · rintro rfl; exact ⟨rfl, dst_self h⟩
    · rintro ⟨rfl, _⟩; rfl
  · simp at hq; rw [hq]; exact Nat.le_refl _
def bturn (n : Nat) (a : Fnd × List (List Nat) × Nat) : Fnd × List (List Nat) × Nat :=
  ((a.2.1.foldl (bhere n (a.2.2 + 1)) (a.1, [])).1, (a.2.1.foldl (bhere n (a.2.2 + 1)) (a.1, [])).2, a.2.2 + 1)
theorem BW.members {l : List Nat} {a : Fnd × List (List Nat) × Nat} (w : BW l a) : ∀ m ∈ a.2.1, Ly m ∧ m.length = l.length ∧ dst l m = a.2.2 := fun m hm => by
  obtain ⟨h1, h2⟩ := (w.lay m).mp hm
  obtain ⟨v, hv⟩ := hasK_iff.mp h1
  obtain ⟨q1, q2, _⟩ := w.inv.ok _ hv
  exact ⟨q1, q2, h2⟩
theorem BW.start {l : List Nat} {a : Fnd × List (List Nat) × Nat} (w : BW l a) : BJ l a.2.2 a.1 (a.1, []) := ⟨w.inv, fun m => ⟨fun h => (by cases h), fun ⟨h1, h2⟩ => by
  obtain ⟨v, hv⟩ := hasK_iff.mp h1
  have t := w.top _ hv
  have := (w.inv.ok _ hv).2.2
  simp only at t this
  omega⟩, fun q hq => Nat.le_succ_of_le (w.top q hq), by simp⟩
theorem BW.turn {l : List Nat} (h : Ly l) {a : Fnd × List (List Nat) × Nat} (w : BW l a) : BW l (bturn l.length a) := by
  obtain ⟨j, k1, k2⟩ := BJ.layer h a.2.1 (a.1, []) w.members w.start
  unfold bturn
  generalize a.2.1.foldl (bhere l.length (a.2.2 + 1)) (a.1, []) = b at *
  refine ⟨⟨j.inv.ok, j.inv.nd, fun m a1 a2 a3 => ?_⟩, j.lat, j.top, j.sz⟩
  by_cases z : dst l m ≤ a.2.2
  · exact j.inv.all m a1 a2 z
  · have hd : dst l m = a.2.2 + 1 := by simp only at a3; omega
    obtain ⟨x, y, xy, hy, e⟩ := dst_near h a1 a2 (by omega)
    have hx : Ly (ex m x y) := a1.ex (by omega) (by omega)
    have hxl : (ex m x y).length = l.length := by rw [ex_len]; exact a2
    have hin : ex m x y ∈ a.2.1 := (w.lay _).mpr ⟨w.inv.all _ hx hxl (by omega), by omega⟩
    have := k1 _ hin (x, y) xy hy
    rw [ex_ex (by omega) (by omega)] at this
    exact this
/-- at the end all are found -/
theorem BW.fin {l : List Nat} (h : Ly l) {a : Fnd × List (List Nat) × Nat} (w : BW l a) (he : a.2.1 = []) : ∀ m, Ly m → m.length = l.length → hasK a.1 m = true := by
  have no : ∀ k m, Ly m → m.length = l.length → dst l m = a.2.2 + k → False := by
    intro k
    induction k with
    | zero =>
      intro m a1 a2 a3
      have : m ∈ a.2.1 := (w.lay m).mpr ⟨w.inv.all m a1 a2 (by omega), by omega⟩
      rw [he] at this
      cases this
    | succ k ih =>
      intro m a1 a2 a3
      obtain ⟨x, y, xy, hy, e⟩ := dst_near h a1 a2 (by omega)
      exact ih (ex m x y) (a1.ex (by omega) (by omega)) (by rw [ex_len]; exact a2) (by omega)
  intro m a1 a2
  refine w.inv.all m a1 a2 ?_
  rcases Nat.lt_or_ge a.2.2 (dst l m) with z | z
  · exact (no (dst l m - a.2.2) m a1 a2 (by omega)).elim
  · exact z
theorem dst_lt {l m : List Nat} (h1 : 1 ≤ l.length) (h : Ly l) (hm : Ly m) (hn : m.length = l.length) : dst l m < l.length := by
  have hp := (Ly.led h hm hn)
  have : 0 < cnt l.length (fn (led l m)) := by
    have hp' := led_pm h hm hn
    obtain ⟨k, k1, k2, k3⟩ := least_in hp' h1
    exact List.length_pos_of_mem (List.mem_filter.mpr ⟨List.mem_range.mpr k1, decide_eq_true k3⟩)
  unfold dst
  omega
/-- how many there can be -/
def cod (n : Nat) (m : List Nat) : Nat := m.foldr (fun x a => a * n + x) 0
theorem cod_lt {n : Nat} (hn : 0 < n) : ∀ {m : List Nat}, (∀ x ∈ m, x < n) → cod n m < n ^ m.length
  | [], _ => by simp [cod]
  | x :: m, h => by
    have ih := cod_lt hn (m := m) fun y hy => h y (by simp [hy])
    have hx := h x (by simp)
    show cod n m * n + x < n ^ (m.length + 1)
    rw [Nat.pow_succ]
    have := Nat.mul_le_mul_right n (Nat.succ_le_of_lt ih)
    rw [Nat.succ_mul] at this
    omega
theorem cod_inj {n : Nat} : ∀ {m k : List Nat}, (∀ x ∈ m, x < n) → (∀ x ∈ k, x < n) → m.length = k.length → cod n m = cod n k → m = k
  | [], [], _, _, _, _ => rfl
  | x :: m, y :: k, h1, h2, hl, e => by
    have e' : cod n m * n + x = cod n k * n + y := e
    have hx := h1 x (by simp)
    have hy := h2 y (by simp)
    have ex' : x = y := by
      have a := congrArg (· % n) e'
      simp only [Nat.mul_add_mod_of_lt hx, Nat.mul_add_mod_of_lt hy] at a
      rw [Nat.mul_comm, Nat.mul_comm (cod n k)] at e'
      have a1 := congrArg (· % n) e'
      simp [Nat.mod_eq_of_lt hx, Nat.mod_eq_of_lt hy] at a1
      exact a1
    subst ex'
    have : cod n m = cod n k := Nat.eq_of_mul_eq_mul_right (by omega) (Nat.add_right_cancel e')
    rw [cod_inj (fun z hz => h1 z (by simp [hz])) (fun z hz => h2 z (by simp [hz])) (by simpa using hl) this]
  | [], _ :: _, _, _, hl, _ => by simp at hl
  | _ :: _, [], _, _, hl, _ => by simp at hl
theorem BI.few {l : List Nat} (h1 : 1 ≤ l.length) {s : Nat} {F : Fnd} (b : BI l s F) : F.length ≤ l.length ^ l.length := by
  have nd : (F.map fun q => cod l.length q.1).Nodup := by
    have : (F.map fun q => cod l.length q.1) = (F.map (·.1)).map (cod l.length) := by rw [List.map_map]; rfl
    rw [this]
    refine List.Pairwise.map _ ?_ (List.Pairwise.imp_of_mem (S := fun a b => (Ly a ∧ a.length = l.length) ∧ (Ly b ∧ b.length = l.length) ∧ a ≠ b) (fun {x y} hx hy hne => ?_) b.nd)
    · rintro x y ⟨⟨x1, x2⟩, ⟨y1, y2⟩, ne⟩ e
      exact ne (cod_inj (fun z hz => by rw [← x2]; exact x1.lt z hz) (fun z hz => by rw [← y2]; exact y1.lt z hz) (x2.trans y2.symm) e)
    · obtain ⟨q, hq, rfl⟩ := List.mem_map.mp hx
      obtain ⟨r, hr, rfl⟩ := List.mem_map.mp hy
      exact ⟨⟨(b.ok q hq).1, (b.ok q hq).2.1⟩, ⟨(b.ok r hr).1, (b.ok r hr).2.1⟩, hne⟩
  have := below (n := l.length ^ l.length) nd fun x hx => by
    obtain ⟨q, hq, rfl⟩ := List.mem_map.mp hx
    obtain ⟨q1, q2, _⟩ := b.ok q hq
    have := cod_lt (n := l.length) (by omega) (m := q.1) fun z hz => by rw [← q2]; exact q1.lt z hz
    rw [q2] at this
    exact this
  simpa using this
end CY

set_option Elab.async false
set_option linter.all false
set_option maxRecDepth 100000
set_option maxHeartbeats 4000000
/-! what is refused -/
namespace DL
open PySem PySem.Spec PyProof.Rows L2
variable [Wr]
theorem e_refused {i : Nat} {a b c : D} {e : Str} (h : Flams i [a, b, c] = .err e []) (he : e ∈ RN) : F_Lrefused [lamD i, a, b, c] = .ok (.fr [.str e, .bool true]) := by
  unfold F_Lrefused f_Lrefused runP
  rw [sSeq_of (ρ' := [.sh (lamD i), .sh a, .sh b, .sh c, .ow [], .no, .no, .no, .no]) (by simp [startE, szOk_of])]
  rw [sSeq_of (ρ' := (nosE 9).set 4 (.ow [.str e, .bool true])) (by
    show (match Flams ((i : Nat) : Int).toNat [a, b, c] with | .ok _ => _ | .err c fs => _ | .no => _) = _
    rw [Int.toNat_natCast, h]
    simp [kinOf, he])]
  simp [nosE]
theorem e_taken {i : Nat} {a b c : D} {rv : Rv} (h : Flams i [a, b, c] = .ok rv) : F_Lrefused [lamD i, a, b, c] = .ok (.fr []) := by
  unfold F_Lrefused f_Lrefused runP
  rw [sSeq_of (ρ' := [.sh (lamD i), .sh a, .sh b, .sh c, .ow [], .no, .no, .no, .no]) (by simp [startE, szOk_of])]
  rw [sSeq_of (ρ' := [.sh (lamD i), .sh a, .sh b, .sh c, .ow [], .no, .no, .no, .no]) (by
    show (match Flams ((i : Nat) : Int).toNat [a, b, c] with | .ok _ => _ | .err c fs => _ | .no => _) = _
    rw [Int.toNat_natCast, h])]
  simp
/-- a refusal as it is told: compared -/
theorem kin_eq {x : Str} (h : PyData.strOk x = true) : dNe (.list [.str x, .bool true]) (.list [.str x, .bool true]) = some (.sh (.bool false)) := by
  have ok : okD (.list [.str x, .bool true]) = true := okD_of (okN_list (n := 0) fun d hd => by
    simp at hd
    rcases hd with rfl | rfl
    · exact okN_str 0 h
    · exact okN_bool 0 _) (by decide)
  rw [dNe_of ok ok]
  simp [PyData.eqv, PyData.eqvAll]
end DL

set_option Elab.async false
set_option linter.all false
set_option maxRecDepth 100000
set_option maxHeartbeats 4000000
/-! rows of exchanges, by all layings -/
namespace DL
open PySem PySem.Spec PyProof.Rows L2
variable [Wr]
theorem e_swapped {l : List Nat} {a b : Nat} (ha : a < l.length) (hb : b < l.length) : F_Lswapped [eT l, eP (a, b)] = .ok (.sh (eT (CY.ex l a b))) := by
  unfold F_Lswapped f_Lswapped runP
  rw [sSeq_of (ρ' := [.sh (eT l), .sh (eP (a, b)), .ow (l.map eN)]) (by simp [startE, eT])]
  have z : szOk 2 = true := szOk_of (by omega)
  rw [sSeq_of (ρ' := [.no, .no, .ow ((CY.ex l a b).map eN)]) (by
    have i1 : dIx (eT l) (eN a) = some (.sh (eN (CY.fn l a))) := ix_eT l ha
    have i2 : dIx (eT l) (eN b) = some (.sh (eN (CY.fn l b))) := ix_eT l hb
    simp [slD, ix_eP0, ix_eP1, i1, i2, z, isL]
    rw [show eN a = .int (a : Int) from rfl, setO_int 2 (a : Int) _ _ _ (.ow (l.map eN)) (l.map eN) a rfl rfl (by rw [List.length_map]; exact ixN_at ha)]
    simp [putSl, isL, ix_eP1]
    rw [show eN b = .int (b : Int) from rfl, setO_int 2 (b : Int) _ _ _ (.ow ((l.map eN).set a (eN (CY.fn l b)))) ((l.map eN).set a (eN (CY.fn l b))) b rfl rfl (by rw [List.length_set, List.length_map]; exact ixN_at hb)]
    simp [putSl, CY.ex, List.map_set])]
  simp [eT]
theorem e_led {l : List Nat} {ps : List (Nat × Nat)} (hr : CY.Row l.length ps) : F_Lled [eT l, .list (ps.map eP)] = .ok (.sh (eT (CY.exs l ps))) := by
  unfold F_Lled f_Lled runP
  have lp := sLoop_fold (fg := gN 2) (fb := b_Lled_1) eP (fun m : List Nat => [.sh (eT m), .sh (.list (ps.map eP)), .no]) (fun m p => CY.ex m p.1 p.2) (fun xs m => CY.Row m.length xs)
    (fun x xs m j => by
      have := j x (by simp)
      refine ⟨_, rfl, ?_, ?_⟩
      · unfold b_Lled_1
        have e := e_swapped (l := m) (a := x.1) (b := x.2) (by omega) (by omega)
        simp [e, dS]
      · rw [CY.ex_len]
        exact fun q hq => j q (by simp [hq])) ps l hr
  rw [sSeq_of (ρ' := [.sh (eT (CY.exs l ps)), .no, .no]) (by
    rw [sWp_ap, sFor_ap]
    have : dSeq (dSh (dVar 1)) (startE 3 [eT l, .list (ps.map eP)]) = .ok (ps.map eP, [.sh (eT l), .sh (.list (ps.map eP)), .no]) := by simp [startE]
    rw [this, onR_ok, lp.1]
    simp [CY.exs])]
  simp
theorem e_pairs {n : Nat} (h1 : 2 ≤ n) (h2 : n ≤ 5) : F_Lpairs [.int (n : Int)] = .ok (.sh (.list ((CY.pairsL n).map eP))) := by
  have : n = 2 ∨ n = 3 ∨ n = 4 ∨ n = 5 := by omega
  rcases this with rfl | rfl | rfl | rfl <;> rfl
/-! the dict -/
abbrev toI (m : List Nat) : List Int := m.map fun x : Nat => (x : Int)
def encF (F : CY.Fnd) : List (List Int × Int) := F.map fun q => (toI q.1, (q.2 : Int))
theorem toI_inj {a b : List Nat} (h : toI a = toI b) : a = b := (List.map_inj_right (f := fun x : Nat => (x : Int)) fun x y z => Int.ofNat.inj z).mp h
theorem tupI_eT (m : List Nat) : tupI (eT m) = some (toI m) := by
  show intsOf (m.map eN) = _
  rw [show m.map eN = (toI m).map .int by unfold toI; rw [List.map_map]; rfl, intsOf_map]
theorem tup_toI (m : List Nat) : (PyData.tuple ((toI m).map .int) : D) = eT m := by
  unfold toI eT
  rw [List.map_map]
  rfl
theorem valT_encF (F : CY.Fnd) (m : List Nat) : HX.valT (encF F) (toI m) = (F.find? fun q => decide (q.1 = m)).map fun q => (q.2 : Int) := by
  unfold HX.valT encF
  induction F with
  | nil => rfl
  | cons q F ih =>
    rw [List.map_cons, List.find?_cons, List.find?_cons]
    by_cases e : q.1 = m
    · simp [e]
    · have : ¬ toI q.1 = toI m := fun z => e (toI_inj z)
      simp only [this, e, decide_false]
      exact ih
theorem valT_some (F : CY.Fnd) (m : List Nat) : (HX.valT (encF F) (toI m)).isSome = CY.hasK F m := by
  rw [valT_encF, Option.isSome_map]
  unfold CY.hasK
  induction F with
  | nil => rfl
  | cons q F ih =>
    rw [List.find?_cons, List.any_cons]
    by_cases e : q.1 = m
    · simp [e]
    · simp only [e, decide_false, Bool.false_or]; exact ih
def stI (l : List Nat) (L : List (List Nat)) (s : Nat) (here : List Nat) (a : CY.Fnd × List (List Nat)) : En := [.sh (eT l), .oT (encF a.1), .sh (.list (L.map eT)), .sh (.int (s : Int)), .ow (a.2.map eT), .sh (eT here), .no, .no]
theorem st_pair {l : List Nat} (L : List (List Nat)) (s : Nat) {here : List Nat} (a : CY.Fnd × List (List Nat)) {p : Nat × Nat} (h1 : p.1 < here.length) (h2 : p.2 < here.length) (z1 : a.1.length ≤ 100000) (z2 : a.2.length ≤ 100000) :
    b_Lsteps_3 ((stI l L s here a).set 6 (.sh (eP p))) = .nx (stI l L s here (CY.bstep s here a p)) := by
  have e := e_swapped (l := here) h1 h2
  replace e : F_Lswapped [eT here, eP p] = .ok (.sh (eT (CY.ex here p.1 p.2))) := e
  have v := valT_some a.1 (CY.ex here p.1 p.2)
  have zs1 : szOk (encF a.1).length = true := szOk_of (by simp [encF]; omega)
  have zs2 : szOk a.2.length = true := szOk_of (by omega)
  unfold b_Lsteps_3 CY.bstep
  generalize CY.ex here p.1 p.2 = X at *
  rw [sSeq_of (ρ' := [.sh (eT l), .oT (encF a.1), .sh (.list (L.map eT)), .sh (.int (s : Int)), .ow (a.2.map eT), .sh (eT here), .no, .sh (eT X)]) (by simp [stI, e, dS])]
  have ni : dNotInT (dSh (dVar 7)) 1 [.sh (eT l), .oT (encF a.1), .sh (.list (L.map eT)), .sh (.int (s : Int)), .ow (a.2.map eT), .sh (eT here), .no, .sh (eT X)] = .ok (.sh (.bool (!CY.hasK a.1 X)), [.sh (eT l), .oT (encF a.1), .sh (.list (L.map eT)), .sh (.int (s : Int)), .ow (a.2.map eT), .sh (eT here), .no, .sh (eT X)]) := by
    unfold dNotInT
    simp [tupI_eT]
    rw [← Option.not_isSome, v]
  by_cases q : CY.hasK a.1 X = true
  · rw [q] at ni
    simp [ni, q, stI]
  · have q' : CY.hasK a.1 X = false := by simpa using q
    rw [q'] at ni v
    have pt : sPutT 1 (dSh (dVar 3)) (dSh (dVar 7)) [.sh (eT l), .oT (encF a.1), .sh (.list (L.map eT)), .sh (.int (s : Int)), .ow (a.2.map eT), .sh (eT here), .no, .sh (eT X)] = .nx [.sh (eT l), .oT (encF (a.1 ++ [(X, s)])), .sh (.list (L.map eT)), .sh (.int (s : Int)), .ow (a.2.map eT), .sh (eT here), .no, .sh (eT X)] := by
      have hvn : HX.valT (encF a.1) (toI X) = none := by
        cases hh : HX.valT (encF a.1) (toI X) with
        | none => rfl
        | some z => rw [hh] at v; cases v
      have he : encF (a.1 ++ [(X, s)]) = encF a.1 ++ [(toI X, (s : Int))] := by simp [encF]
      rw [he]
      unfold sPutT
      simp [isT, tupI_eT, hvn, zs1]
    simp [ni, q', stI]
    rw [pt]
    simp [isL, updL, zs2]
def stO (l : List Nat) (L : List (List Nat)) (s : Nat) (a : CY.Fnd × List (List Nat)) : En := [.sh (eT l), .oT (encF a.1), .sh (.list (L.map eT)), .sh (.int (s : Int)), .ow (a.2.map eT), .no, .no, .no]
theorem few5 {l : List Nat} (h1 : 1 ≤ l.length) (h5 : l.length ≤ 5) {s : Nat} {F : CY.Fnd} (b : CY.BI l s F) : F.length ≤ 3125 := by
  have := b.few h1
  have : l.length ^ l.length ≤ 5 ^ 5 := by
    have h : l.length = 1 ∨ l.length = 2 ∨ l.length = 3 ∨ l.length = 4 ∨ l.length = 5 := by omega
    rcases h with h | h | h | h | h <;> rw [h] <;> decide
  omega
theorem st_here {l : List Nat} (h : CY.Ly l) (h2 : 2 ≤ l.length) (h5 : l.length ≤ 5) (L : List (List Nat)) {s : Nat} {F0 : CY.Fnd} {a : CY.Fnd × List (List Nat)} (j : CY.BJ l s F0 a) {here : List Nat} (hh : CY.Ly here) (hl : here.length = l.length) (hd : CY.dst l here = s) :
    b_Lsteps_2 ((stO l L (s + 1) a).set 5 (.sh (eT here))) = .nx (stO l L (s + 1) (CY.bhere l.length (s + 1) a here)) := by
  have lp := sLoop_fold (fg := gN 6) (fb := b_Lsteps_3) eP (stI l L (s + 1) here) (CY.bstep (s + 1) here) (fun xs a => CY.Row l.length xs ∧ CY.BJ l s F0 a)
    (fun x xs a J => by
      obtain ⟨x1, x2⟩ := J.1 x (by simp)
      have f := few5 (by omega) h5 J.2.inv
      have sz := J.2.sz
      exact ⟨_, rfl, st_pair L (s + 1) a (by omega) (by omega) (by omega) (by omega), fun q hq => J.1 q (by simp [hq]), (J.2.step h hh hl hd x1 x2).1⟩) (CY.pairsL l.length) a ⟨CY.row_pairs _, j⟩
  have ep := e_pairs h2 h5
  have zl : szOk l.length = true := szOk_of (by omega)
  unfold b_Lsteps_2
  rw [sWp_ap, sFor_ap]
  have : dSeq (dSh (dCall0 1 F_Lpairs (dCons (dSh (dCall dLen (dCons (dSh (dVar 0)) dNil))) dNil))) ((stO l L (s + 1) a).set 5 (.sh (eT here))) = .ok ((CY.pairsL l.length).map eP, stI l L (s + 1) here a) := by
    simp only [stO, stI, eT] at *
    simp [zl, ep]
  rw [this, onR_ok, lp.1]
  simp [stI, stO, CY.bhere]
def stS (l : List Nat) (a : CY.Fnd × List (List Nat) × Nat) : En := [.sh (eT l), .oT (encF a.1), .sh (.list (a.2.1.map eT)), .sh (.int (a.2.2 : Int)), .no, .no, .no, .no]
theorem st_turn {l : List Nat} (h : CY.Ly l) (h2 : 2 ≤ l.length) (h5 : l.length ≤ 5) {a : CY.Fnd × List (List Nat) × Nat} (w : CY.BW l a) : b_Lsteps_1 (stS l a) = .nx (stS l (CY.bturn l.length a)) := by
  have lp := sLoop_fold (fg := gN 5) (fb := b_Lsteps_2) eT (stO l a.2.1 (a.2.2 + 1)) (CY.bhere l.length (a.2.2 + 1)) (fun xs b => (∀ m ∈ xs, CY.Ly m ∧ m.length = l.length ∧ CY.dst l m = a.2.2) ∧ CY.BJ l a.2.2 a.1 b)
    (fun x xs b J => by
      obtain ⟨x1, x2, x3⟩ := J.1 x (by simp)
      exact ⟨_, rfl, st_here h h2 h5 a.2.1 J.2 x1 x2 x3, fun q hq => J.1 q (by simp [hq]), (CY.BJ.here h x1 x2 x3 (CY.pairsL l.length) b (CY.row_pairs _) J.2).1⟩) a.2.1 (a.1, []) ⟨w.members, w.start⟩
  unfold b_Lsteps_1
  rw [sSeq_of (ρ' := stO l a.2.1 (a.2.2 + 1) (a.1, [])) (by
    simp [stS, stO, sPar, vCons, vNil, setAll, szOk_of, dS])]
  rw [sSeq_of (ρ' := [.sh (eT l), .oT (encF (CY.bturn l.length a).1), .no, .sh (.int ((a.2.2 + 1 : Nat) : Int)), .ow ((CY.bturn l.length a).2.1.map eT), .no, .no, .no]) (by
    rw [sWp_ap, sFor_ap]
    have : dSeq (dSh (dVar 2)) (stO l a.2.1 (a.2.2 + 1) (a.1, [])) = .ok (a.2.1.map eT, stO l a.2.1 (a.2.2 + 1) (a.1, [])) := by simp [stO]
    rw [this, onR_ok, lp.1]
    simp [stO, CY.bturn])]
  simp [stS, CY.bturn, dS]
theorem sWhile_pre {ft : Ft} {fb : Fs} {n : Nat} {ρ ρ' : En} {b : Bool} (h1 : ft ρ = .ok (b, ρ')) (h2 : ft ρ' = .ok (b, ρ')) : sWhile ft fb (n + 1) ρ = sWhile ft fb (n + 1) ρ' := by
  unfold sWhile
  rw [h1, h2]
theorem e_steps {l : List Nat} (h : CY.Ly l) (h2 : 2 ≤ l.length) (h5 : l.length ≤ 5) : ∃ F : CY.Fnd, F_Lsteps [eT l] = .ok (.sh (tdD (encF F))) ∧ (∀ q ∈ F, CY.Ly q.1 ∧ q.1.length = l.length ∧ q.2 = CY.dst l q.1) ∧ (F.map (·.1)).Nodup ∧ ∀ m, CY.Ly m → m.length = l.length → CY.hasK F m = true := by
  have test : ∀ a : CY.Fnd × List (List Nat) × Nat, dB (dSh (dOp dNe (dSh (dVar 2)) (dSh (dLst dNil)))) (stS l a) = .ok (!decide (a.2.1 = []), stS l a) := fun a => by
    have := dNe_eTs a.2.1 []
    simp at this
    simp [stS, szOk_of, this]
  obtain ⟨a', e1, i1, d1⟩ := sWhile_ex (ft := dB (dSh (dOp dNe (dSh (dVar 2)) (dSh (dLst dNil))))) (fb := b_Lsteps_1) (stS l) (CY.BW l) (fun a => l.length + 1 - a.2.2) (fun a => a.2.1 = [])
    (fun a i => by
      by_cases q : a.2.1 = []
      · exact .inl ⟨by rw [test]; simp [q], q⟩
      · refine .inr ⟨_, by rw [test]; simp [q], st_turn h h2 h5 i, i.turn h, ?_⟩
        obtain ⟨m, hm⟩ := List.exists_mem_of_ne_nil _ q
        obtain ⟨m1, m2, m3⟩ := i.members m hm
        have := CY.dst_lt (by omega) h m1 m2
        show l.length + 1 - (a.2.2 + 1) < l.length + 1 - a.2.2
        omega) 100000 ([(l, 0)], [l], 0) (CY.BW.first h) (by simp only; omega)
  refine ⟨a'.1, ?_, i1.inv.ok, i1.inv.nd, i1.fin h d1⟩
  unfold F_Lsteps f_Lsteps runP
  rw [sSeq_of (ρ' := [.sh (eT l), .oT (encF [(l, 0)]), .ow [eT l], .sh (.int 0), .no, .no, .no, .no]) (by
    show sSt1 1 2 3 0 [.sh (eT l), .no, .no, .no, .no, .no, .no, .no] = _
    unfold sSt1
    simp [tupI_eT, encF])]
  rw [sSeq_of (ρ' := [.no, .oT (encF a'.1), .no, .no, .no, .no, .no, .no]) (by
    rw [sWp_ap, sWhile_pre (n := 99999) (b := true) (ρ' := stS l ([(l, 0)], [l], 0)) ?w1 ?w2, e1]
    case w1 =>
      have := dNe_eTs [l] []
      simp at this
      simp [stS, szOk_of, this]
    case w2 => rw [test]; simp
    simp [stS])]
  show outP (sRet (dMoveK 1) _) = _
  simp [dMoveK]
end DL

set_option Elab.async false
set_option linter.all false
set_option maxRecDepth 100000
set_option maxHeartbeats 4000000
namespace DL
open PySem PySem.Spec PyProof.Rows L2
variable [Wr]
def lw (f : D) (s1 s2 s3 s4 s5 s6 s7 s8 s9 s10 s11 s12 s13 : Sl) : En := [.sh f, s1, s2, s3, s4, s5, s6, s7, s8, s9, s10, s11, s12, s13]
theorem dNe_eT' (a b : List Nat) : dNe (eT a) (eT b) = some (.sh (.bool (!decide (a = b)))) := by
  have ok : ∀ x : List Nat, okD (eT x) = true := fun x => okD_of (okN_mapT (n := 0) (fun y : Nat => okN_int 0 (y : Int)) x) (by decide)
  rw [dNe_of (ok a) (ok b)]
  exact congrArg (fun x => some (Rv.sh (.bool (!x)))) (eqE_eT a b)
theorem dNe_eqI {a b : Int} (h : a = b) : dNe (.int a) (.int b) = some (.sh (.bool false)) := by rw [dNe_int, h]; simp
theorem dNe_sameT (a : List Nat) : dNe (eT a) (eT a) = some (.sh (.bool false)) := by rw [dNe_eT']; simp
/-- what is found -/
structure AllF (l : List Nat) (F : CY.Fnd) : Prop where
  ok : ∀ q ∈ F, CY.Ly q.1 ∧ q.1.length = l.length ∧ q.2 = CY.dst l q.1
  nd : (F.map (·.1)).Nodup
  all : ∀ m, CY.Ly m → m.length = l.length → CY.hasK F m = true
  few : F.length ≤ 3125
theorem find_of {F : CY.Fnd} (nd : (F.map (·.1)).Nodup) : ∀ {q : List Nat × Nat}, q ∈ F → (F.find? fun r => decide (r.1 = q.1)) = some q := by
  induction F with
  | nil => intro q hq; cases hq
  | cons r F ih =>
    intro q hq
    rw [List.map_cons, List.nodup_cons] at nd
    rw [List.find?_cons]
    rcases List.mem_cons.mp hq with z | z
    · subst z; simp
    · have : ¬ r.1 = q.1 := fun e => nd.1 (by rw [e]; exact List.mem_map.mpr ⟨q, z, rfl⟩)
      simp only [this, decide_false]
      exact ih nd.2 z
theorem getT_of {F : CY.Fnd} (nd : (F.map (·.1)).Nodup) {q : List Nat × Nat} (hq : q ∈ F) : getT (tdD (encF F)) (eT q.1) = some (.sh (.int (q.2 : Int))) := by
  unfold getT
  rw [tdOf_td, Option.bind_some, tupI_eT, Option.bind_some, valT_encF, find_of nd hq]
  rfl
theorem law_other (f : D) (s1 : Sl) {l : List Nat} (h : Lay l) (h5 : l.length ≤ 5) {F : CY.Fnd} (A : AllF l F) {q : List Nat × Nat} (hq : q ∈ F) :
    b_law_2 (lw f s1 (.sh (eT l)) (.sh (tdD (encF F))) (.sh (eT q.1)) .no .no .no .no .no .no .no .no .no) = .nx (lw f s1 (.sh (eT l)) (.sh (tdD (encF F))) .no .no .no .no .no .no .no .no .no .no) := by
  obtain ⟨q1, q2, q3⟩ := A.ok q hq
  have hO : Lay q.1 := lay_of q1 (by have := h.1; omega) (by omega)
  have e1 := e_row_to h hO q2
  obtain ⟨k1, k2, k3⟩ := CY.rowTo_ok h.ly q1 q2
  have e2 := e_behind h k2 (by omega)
  have e3 := e_led k2
  rw [k1] at e2 e3
  have hr := CY.dst_row h.ly q1 q2
  have g := getT_of A.nd hq
  have zR : szOk (CY.rowTo l q.1).length = true := szOk_of (by omega)
  have n1 : dNe (.int ((CY.rowTo l q.1).length : Int)) (.int (q.2 : Int)) = some (.sh (.bool false)) := dNe_eqI (by rw [hr, q3])
  generalize CY.rowTo l q.1 = R at *
  unfold b_law_2
  rw [sSeq_of (ρ' := lw f s1 (.sh (eT l)) (.sh (tdD (encF F))) (.sh (eT q.1)) (.ow (R.map eP)) .no .no .no .no .no .no .no .no) (by simp [lw, e1])]
  have gt : dGetT (dSh (dVar 3)) (dSh (dVar 4)) (lw f s1 (.sh (eT l)) (.sh (tdD (encF F))) (.sh (eT q.1)) (.ow (R.map eP)) .no .no .no .no .no .no .no .no) = .ok (.sh (.int (q.2 : Int)), lw f s1 (.sh (eT l)) (.sh (tdD (encF F))) (.sh (eT q.1)) (.ow (R.map eP)) .no .no .no .no .no .no .no .no) := by
    unfold dGetT
    simp [lw, g]
  simp only [lw] at gt ⊢
  simp [slD, zR, gt, n1, e3, e2, dNe_sameT]
theorem minI_is {ns : List Int} {k : Int} (h1 : k ∈ ns) (h2 : ∀ x ∈ ns, k ≤ x) : minI ns = some k := by
  cases e : minI ns with
  | none =>
    cases ns with
    | nil => cases h1
    | cons x xs => cases e
  | some m =>
    obtain ⟨m1, m2⟩ := minI_spec e
    have := m2 k h1
    have := h2 m m1
    rw [show m = k by omega]
theorem law_many (f : D) (s1 : Sl) {l : List Nat} (h : Lay l) (h5 : l.length ≤ 5) {F : CY.Fnd} (A : AllF l F) {many : Nat} (m1 : 1 ≤ many) (m2 : many ≤ l.length) :
    b_law_3 (lw f s1 (.sh (eT l)) (.sh (tdD (encF F))) .no .no (.sh (eN many)) .no .no .no .no .no .no .no) = .nx (lw f s1 (.sh (eT l)) (.sh (tdD (encF F))) .no .no .no .no .no .no .no .no .no .no) := by
  obtain ⟨ps, e1, e2, e3, e4, e5⟩ := e_row_to_rounds h m1 m2
  have cl := cyc_le h.ly
  have cl2 := cyc_le e5.ly
  rw [CY.exs_len] at cl2
  have hdist : dist (CY.cyc l).length many ≤ 10 := by unfold dist; omega
  have hlc : dLc (dKeysT (dSh (dVar 3))) (gN 4) (dB (dSh (dOp dEq (dSh (dCall dLen (dCons (dSh (dCall0 1 F_Lcycles (dCons (dSh (dVar 4)) dNil))) dNil))) (dSh (dVar 6))))) (dSh (dGetT (dSh (dVar 3)) (dSh (dVar 4)))) [4] (lw f s1 (.sh (eT l)) (.sh (tdD (encF F))) .no .no (.sh (eN many)) .no .no .no .no .no .no .no) =
      .ok (.fr ((F.filter fun q => decide ((CY.cyc q.1).length = many)).map fun q => .int (q.2 : Int)), lw f s1 (.sh (eT l)) (.sh (tdD (encF F))) .no .no (.sh (eN many)) .no .no .no .no .no .no .no) := by
    have fw := A.few
    rw [lc_fm (fun q : List Nat × Nat => eT q.1) (fun q => decide ((CY.cyc q.1).length = many)) (fun q => .int (q.2 : Int)) F ?q1 (by omega) ?q3]
    case q1 =>
      unfold dKeysT
      simp [lw, tdOf_td]
      unfold encF
      rw [List.map_map]
      apply List.map_congr_left
      intro q _
      exact tup_toI q.1
    case q3 =>
      intro q hq
      obtain ⟨q1, q2, q3⟩ := A.ok q hq
      have hO : Lay q.1 := lay_of q1 (by have := h.1; omega) (by omega)
      have ec := e_Lcycles hO.low
      rw [cycs_eq] at ec
      have cq := cyc_le q1
      have zc : szOk (CY.cyc q.1).length = true := szOk_of (by omega)
      have eq' : dEq (.int ((CY.cyc q.1).length : Int)) (eN many) = some (.sh (.bool (decide ((CY.cyc q.1).length = many)))) := by
        show dEq (.int ((CY.cyc q.1).length : Int)) (.int (many : Int)) = _
        rw [dEq_int]
        congr 3
        exact decide_eq_decide.mpr (by omega)
      have g := getT_of A.nd hq
      refine ⟨_, rfl, by simp [lw, wipeE, ec, zc, eq'], rfl, fun _ => ?_⟩
      show dSh (dGetT (dSh (dVar 3)) (dSh (dVar 4))) _ = _
      simp [lw, wipeE, dGetT, g]
    rfl
  have hmin : minI ((F.filter fun q => decide ((CY.cyc q.1).length = many)).map fun q => (q.2 : Int)) = some ((dist (CY.cyc l).length many : Nat) : Int) := by
    apply minI_is
    · have hk := A.all _ e5.ly (by rw [CY.exs_len])
      obtain ⟨v, hv⟩ := CY.hasK_iff.mp hk
      have ov := (A.ok _ hv).2.2
      simp only at ov
      have d1 := CY.dst_drawn h.ly e2
      have d2 := CY.cyc_dst h.ly e5.ly (by rw [CY.exs_len])
      refine List.mem_map.mpr ⟨(CY.exs l ps, v), List.mem_filter.mpr ⟨hv, decide_eq_true e4⟩, ?_⟩
      rw [e4] at d2
      have : v = dist (CY.cyc l).length many := by
        rw [ov]
        rw [e3] at d1
        unfold dist at d1 ⊢
        omega
      simp [this]
    · intro x hx
      obtain ⟨q, hq, rfl⟩ := List.mem_map.mp hx
      obtain ⟨hq1, hq2⟩ := List.mem_filter.mp hq
      have hc : (CY.cyc q.1).length = many := of_decide_eq_true hq2
      obtain ⟨o1, o2, o3⟩ := A.ok q hq1
      have d2 := CY.cyc_dst h.ly o1 o2
      rw [hc] at d2
      rw [o3]
      unfold dist
      omega
  have hml : dMinL [.list ((F.filter fun q => decide ((CY.cyc q.1).length = many)).map fun q => .int (q.2 : Int))] = some (.sh (.int ((dist (CY.cyc l).length many : Nat) : Int))) := by
    show ((intsOf _).bind fun ns => (minI ns).map fun m => Rv.sh (.int m)) = _
    rw [show ((F.filter fun q => decide ((CY.cyc q.1).length = many)).map fun q => (PyData.int (q.2 : Int) : D)) = ((F.filter fun q => decide ((CY.cyc q.1).length = many)).map fun q => (q.2 : Int)).map .int by rw [List.map_map]; rfl, intsOf_map, Option.bind_some, hmin]
    rfl
  have ec := e_Lcycles e5.low
  rw [cycs_eq] at ec
  have el := e_led e2
  have zq : szOk ps.length = true := szOk_of (by omega)
  have zm : szOk many = true := szOk_of (by omega)
  have n1 : dNe (.int (ps.length : Int)) (.int ((dist (CY.cyc l).length many : Nat) : Int)) = some (.sh (.bool false)) := dNe_eqI (by rw [e3])
  have n2 : dNe (.int (many : Int)) (.int (many : Int)) = some (.sh (.bool false)) := dNe_eqI rfl
  generalize dist (CY.cyc l).length many = dd at *
  unfold b_law_3
  rw [sSeq_of (ρ' := lw f s1 (.sh (eT l)) (.sh (tdD (encF F))) .no .no (.sh (eN many)) (.sh (.int (dd : Int))) .no .no .no .no .no .no) (by
    simp [-dLc_ap, hlc, hml, dS]
    simp [lw])]
  rw [sSeq_of (ρ' := lw f s1 (.sh (eT l)) (.sh (tdD (encF F))) .no (.ow (ps.map eP)) (.sh (eN many)) (.sh (.int (dd : Int))) .no .no .no .no .no .no) (by simp [lw, e1])]
  simp only [lw, eN]
  simp [slD, zq, n1, el, ec, e4, zm, n2]
end DL

set_option Elab.async false
set_option linter.all false
set_option maxRecDepth 100000
set_option maxHeartbeats 4000000
/-! rows that are none; the law -/
namespace DL
open PySem PySem.Spec PyProof.Rows L2
variable [Wr]
theorem x_pair {l : List Nat} (hl : l.length = 30) {a b : D} (ha : smD a = true) (hb : smD b = true) (h : (isWithD a 0 29 && isWithD b 0 29) = false ∨ dLt a b = some (.sh (.bool false))) : F_is_exchange [eT l, .tuple [a, b]] = .ok (.sh (.bool false)) := by
  have z : szOk 2 = true := szOk_of (by omega)
  have zl : szOk 30 = true := szOk_of (by omega)
  have w1 := e_withinD a ha 0 29
  have w2 := e_withinD b hb 0 29
  have ne : dNe (.int 2) (.int 2) = some (.sh (.bool false)) := by rw [dNe_int]; simp
  unfold F_is_exchange f_is_exchange runP
  rw [sSeq_of (ρ' := [.sh (eT l), .sh (.tuple [a, b]), .no]) (by simp [startE, isiD, tyName, kitB, lenD, ne])]
  simp [-dLc_ap]
  rw [lc_m (fun d : D => d) (fun d => .bool (isWithD d 0 29)) [a, b] ?q1 (by simp) ?q3]
  case q1 => simp
  case q3 =>
    intro d hd
    refine ⟨[.sh (eT l), .sh (.tuple [a, b]), .sh d], rfl, ?_, rfl⟩
    simp at hd
    rcases hd with rfl | rfl
    · simp [eT, zl, hl, w1]
    · simp [eT, zl, hl, w2]
  have i0 : dIx (.tuple [a, b]) (.int 0) = some (.sh a) := rfl
  have i1 : dIx (.tuple [a, b]) (.int 1) = some (.sh b) := rfl
  have al : dAllF [.list [.bool (isWithD a 0 29), .bool (isWithD b 0 29)]] = some (.sh (.bool (isWithD a 0 29 && isWithD b 0 29))) := by
    simp [dAllF, boolsOf]
  cases hw : (isWithD a 0 29 && isWithD b 0 29) with
  | false => rw [hw] at al; simp [al]
  | true =>
    rcases h with h | h
    · rw [hw] at h; cases h
    · rw [hw] at al; simp [al, i0, i1, h]
theorem x_odd (l : List Nat) {d : D} (h : d = .tuple [.int 0] ∨ d = .list [.int 0, .int 1] ∨ d = .none) : F_is_exchange [eT l, d] = .ok (.sh (.bool false)) := by
  have ne : dNe (.int 1) (.int 2) = some (.sh (.bool true)) := by rw [dNe_int]; simp
  unfold F_is_exchange f_is_exchange runP
  rcases h with rfl | rfl | rfl
  · simp [startE, ne, szOk_of]
  · simp [startE]
  · simp [startE]
/-- rows that are none -/
theorem n_row {l : List Nat} (h : Lay l) {d : D} (hd : d = .none ∨ d = .tuple [] ∨ (∃ x, d = .list [x] ∧ F_is_exchange [eT l, x] = .ok (.sh (.bool false))) ∨ ∃ ds, d = .list ds ∧ ds.length = 61) : F_behind [eT l, d] = .err "NoRow" [] := by
  unfold F_behind f_behind runP
  rcases hd with rfl | rfl | ⟨x, rfl, hx⟩ | ⟨ds, rfl, hx⟩
  · simp [startE, e_need h]
  · simp [startE, e_need h]
  · rw [sSeq_of (ρ' := [.sh (eT l), .sh (.list [x]), .no]) (by simp [startE, e_need h])]
    have g : szOk 1 = true := szOk_of (by omega)
    have al : dAllF [.list [.bool false]] = some (.sh (.bool false)) := by simp [dAllF, boolsOf]
    simp [-dLc_ap, g]
    rw [lc_m (fun d : D => d) (fun _ => .bool false) [x] ?q1 (by simp) ?q3]
    case q1 => simp
    case q3 =>
      intro d hd
      simp at hd
      subst hd
      exact ⟨[.sh (eT l), .sh (.list [d]), .sh d], rfl, by simp [hx], rfl⟩
    simp [al]
  · have g : szOk 61 = true := szOk_of (by omega)
    simp [startE, e_need h, hx, g]
theorem law_bad (f : D) (s1 s2 s3 s4 s5 s6 s7 s9 s10 s11 s12 : Sl) {w : List Nat} {d : D} (h : F_behind [eT w, d] = .err "NoRow" []) :
    b_law_5 (lw f s1 s2 s3 s4 s5 s6 s7 (.sh (eT w)) s9 s10 s11 s12 (.sh d)) = .nx (lw f s1 s2 s3 s4 s5 s6 s7 (.sh (eT w)) s9 s10 s11 s12 .no) := by
  have r1 : F_Lrefused [lamD 0, eT w, d, .int 0] = .ok (.fr [.str "NoRow", .bool true]) := e_refused (i := 0) (by
    show F_lam0 _ = _
    unfold F_lam0 runL
    simp [startE, h]) (by decide +kernel)
  have n1 : dNe (.list [.str "NoRow", .bool true]) (.list [.str (Str.ofString "NoRow"), .bool true]) = some (.sh (.bool false)) := kin_eq (by decide +kernel)
  unfold b_law_5
  simp [lw, r1, szOk_of, n1]
theorem u_row_to {l m : List Nat} (h : Lay l) (hm : Lay m) (hn : l.length ≠ m.length) : F_row_to [eT l, eT m] = .err "Unlike" [] := by
  have h1 := h.2.1
  have h2 := hm.2.1
  have z1 : szOk l.length = true := szOk_of (by omega)
  have z2 : szOk m.length = true := szOk_of (by omega)
  have ne : dNe (.int (l.length : Int)) (.int (m.length : Int)) = some (.sh (.bool true)) := by
    rw [dNe_int]
    have : ¬ (l.length : Int) = (m.length : Int) := by omega
    simp [this]
  unfold F_row_to f_row_to runP
  simp [startE, e_need h, e_need hm]
  simp [eT, z1, z2, ne]
theorem e_takeN {bs : List D} (h : Bag bs) {m : Nat} (hm : 0 < m) : ∃ (r : Nat) (bs' : List D), F_Ltake bs [.int (m : Int)] = .ok (.sh (.int (r : Int)), bs') ∧ r < m ∧ Bag bs' := by
  obtain ⟨r, bs', e, r0, r1, hB⟩ := e_take h (m := (m : Int)) (by omega)
  obtain ⟨rn, rfl⟩ := Int.eq_ofNat_of_zero_le r0
  exact ⟨rn, bs', e, by omega, hB⟩
def lwd (f : D) (s2 s3 s8 : Sl) (a : List D × List (Nat × Nat)) : En := lw f (.ow a.1) s2 s3 .no (.ow (a.2.map eP)) .no .no s8 .no .no .no .no .no
theorem law_draw (f : D) (s2 s3 s8 : Sl) {a : List D × List (Nat × Nat)} (hB : Bag a.1) (hr : CY.Row 30 a.2) (hl : a.2.length ≤ 1000) (x : Nat) :
    ∃ a', b_law_4 ((lwd f s2 s3 s8 a).set 9 (.sh (eN x))) = .nx (lwd f s2 s3 s8 a') ∧ Bag a'.1 ∧ CY.Row 30 a'.2 ∧ a'.2.length = a.2.length + 1 := by
  obtain ⟨one, bs1, e1, l1, hB1⟩ := e_takeN hB (m := 29) (by omega)
  obtain ⟨two, bs2, e2, l2, hB2⟩ := e_takeN hB1 (m := 29 - one) (by omega)
  have c2 : ((29 - one : Nat) : Int) = 29 - (one : Int) := by omega
  have c3 : ((one : Int) + 1 + (two : Int)) = ((one + 1 + two : Nat) : Int) := by omega
  rw [c2] at e2
  simp only [Int.cast_ofNat_Int] at e1
  have zs : szOk a.2.length = true := szOk_of (by omega)
  have z2 : szOk 2 = true := szOk_of (by omega)
  refine ⟨(bs2, a.2 ++ [(one, one + 1 + two)]), ?_, hB2, hr.snoc (by omega) (by omega), by simp⟩
  unfold b_law_4 lwd lw
  rw [sWp_ap]
  rw [sSeq_of (ρ' := lw f (.ow bs1) s2 s3 .no (.ow (a.2.map eP)) .no .no s8 (.sh (eN x)) (.sh (eN one)) .no .no .no) (by simp [lw, eN, e1, isL, dS])]
  simp [lw, eN, e2, isL, updL, zs, z2, eP]
end DL

set_option Elab.async false
set_option linter.all false
set_option maxRecDepth 100000
set_option maxHeartbeats 4000000
/-! rows of exchanges: the law -/
namespace DL
open PySem PySem.Spec PyProof.Rows L2
variable [Wr]
theorem noL_nats (l : List Nat) : noLsts (l.map eN) = true := by
  induction l with
  | nil => rfl
  | cons x l ih => show (noLst (eN x) && noLsts (l.map eN)) = true; rw [ih]; rfl
theorem okN_eP (p : Nat × Nat) : okD (.list [eP p]) = true := okD_of (okN_list (n := 1) fun d hd => by
  simp at hd
  rw [hd]
  exact okN_tuple (n := 0) fun d hd => by
    simp at hd
    rcases hd with rfl | rfl
    · exact okN_int 0 _
    · exact okN_int 0 _) (by decide)
theorem eqE_eP : EqE eP := fun a b => by
  unfold eP
  have := eqE_tuple eqE_nat [a.1, a.2] [b.1, b.2]
  simp only [List.map_cons, List.map_nil] at this
  rw [this]
  apply decide_eq_decide.mpr
  constructor
  · intro h
    injection h with h1 h2
    injection h2 with h2 _
    exact Prod.ext h1 h2
  · rintro rfl; rfl
theorem okD_eP (ps : List (Nat × Nat)) : okD (.list (ps.map eP)) = true := okD_of (okN_mapL (n := 1) (fun p => okN_tuple (n := 0) fun d hd => by
    simp at hd
    rcases hd with rfl | rfl
    · exact okN_int 0 _
    · exact okN_int 0 _) ps) (by decide)
theorem dNe_same_row (ps : List (Nat × Nat)) : dNe (.list (ps.map eP)) (.list (ps.map eP)) = some (.sh (.bool false)) := by
  rw [dNe_of (okD_eP ps) (okD_eP ps), eqE_list eqE_eP ps ps]
  simp
theorem law_body (f : D) (bs : List D) (hb : Bag bs) : b_law_1 (lw f (.ow bs) .no .no .no .no .no .no .no .no .no .no .no .no) = .nx (lw f .no .no .no .no .no .no .no .no .no .no .no .no .no) := by
  obtain ⟨r, bs1, e1, r1, hB1⟩ := e_takeN hb (m := 4) (by omega)
  obtain ⟨l, bs2, e2, hB2, hlen, hnd, hlt⟩ := e_laid hB1 (2 + r) (by omega)
  have hl : Lay l := ⟨by omega, by omega, hnd, by rw [hlen]; exact hlt⟩
  have h2 : 2 ≤ l.length := by omega
  have h5 : l.length ≤ 5 := by omega
  obtain ⟨F, e3, F1, F2, F3⟩ := e_steps hl.ly h2 h5
  have A : AllF l F := ⟨F1, F2, F3, by
    have bi : CY.BI l l.length F := ⟨F1, F2, fun m a1 a2 _ => F3 m a1 a2⟩
    exact few5 (by omega) h5 bi⟩
  obtain ⟨w, bs3, e4, hB3, wlen, wnd, wlt⟩ := e_laid hB2 30 (by omega)
  have hw : Lay w := ⟨by omega, by omega, wnd, by rw [wlen]; exact wlt⟩
  obtain ⟨k, bs4, e5, k1, hB4⟩ := e_takeN hB3 (m := 61) (by omega)
  simp only [Int.cast_ofNat_Int] at e1 e5
  unfold b_law_1
  rw [sSeq_of (ρ' := lw f (.ow bs2) (.sh (eT l)) .no .no .no .no .no .no .no .no .no .no .no) (by
    generalize hm : 2 + r = m at e2
    have c : (2 : Int) + (r : Int) = (m : Int) := by omega
    rw [show eN m = .int (m : Int) from rfl] at e2
    simp [lw, isL, e1, c, e2, dS])]
  rw [sSeq_of (ρ' := lw f (.ow bs2) (.sh (eT l)) (.sh (tdD (encF F))) .no .no .no .no .no .no .no .no .no .no) (by
    simp [lw, e3, dS])]
  rw [sSeq_of (ρ' := lw f (.ow bs2) (.sh (eT l)) (.sh (tdD (encF F))) .no .no .no .no .no .no .no .no .no .no) (by
    rw [sWp_ap, sFor_ap]
    have : dKeysT (dSh (dVar 3)) (lw f (.ow bs2) (.sh (eT l)) (.sh (tdD (encF F))) .no .no .no .no .no .no .no .no .no .no) = .ok (F.map fun q => eT q.1, lw f (.ow bs2) (.sh (eT l)) (.sh (tdD (encF F))) .no .no .no .no .no .no .no .no .no .no) := by
      unfold dKeysT
      simp [lw, tdOf_td]
      unfold encF
      rw [List.map_map]
      apply List.map_congr_left
      intro q _
      exact tup_toI q.1
    rw [this, onR_ok, sLoop_const (fun q : List Nat × Nat => eT q.1) _ F fun q hq => ⟨_, rfl, law_other f (.ow bs2) hl h5 A hq⟩]
    simp [lw])]
  rw [sSeq_of (ρ' := lw f (.ow bs2) (.sh (eT l)) .no .no .no .no .no .no .no .no .no .no .no) (by
    rw [sWp_ap, sFor_ap]
    have zl : szOk l.length = true := szOk_of (by omega)
    have : dRng2 (dCons (dSh (dC (.int 1))) (dCons (dSh (dOp dAdd (dSh (dCall dLen (dCons (dSh (dVar 2)) dNil))) (dSh (dC (.int 1))))) dNil)) (lw f (.ow bs2) (.sh (eT l)) (.sh (tdD (encF F))) .no .no .no .no .no .no .no .no .no .no) = .ok ((List.range' 1 l.length).map eN, lw f (.ow bs2) (.sh (eT l)) (.sh (tdD (encF F))) .no .no .no .no .no .no .no .no .no .no) := by
      have hr : rngD 1 ((l.length : Int) + 1) = (List.range' 1 l.length).map eN := by
        unfold rngD
        rw [show ((l.length : Int) + 1 - 1).toNat = l.length by omega, List.range'_eq_map_range, List.map_map]
        apply List.map_congr_left
        intro i _
        simp [eN]
      have ok1 : s62 1 = true := by decide
      have ok2 : s62 ((l.length : Int) + 1) = true := s62_of (by omega) (by omega)
      have c3 : ((l.length : Int) + 1 - 1).toNat = l.length := by omega
      simp [lw, eT, zl, hr, ok1, ok2]
    rw [this, onR_ok, sLoop_const eN _ (List.range' 1 l.length) fun q hq => by
      rw [List.mem_range'_1] at hq
      exact ⟨_, rfl, law_many f (.ow bs2) hl h5 A (by omega) (by omega)⟩]
    simp [lw])]
  clear e3 F1 F2 F3 A
  rw [sSeq_of (ρ' := lw f (.ow bs3) (.sh (eT l)) .no .no .no .no .no (.sh (eT w)) .no .no .no .no .no) (by
    rw [show eN 30 = .int 30 from rfl] at e4
    simp [lw, isL, e4, dS])]
  rw [sSeq_of (ρ' := lwd f (.sh (eT l)) .no (.sh (eT w)) (bs3, [])) (by simp [lw, lwd, szOk_of])]
  obtain ⟨⟨bs', ps⟩, e6, e7⟩ := sLoop_ex (fg := gN 9) (fb := b_law_4) eN (lwd f (.sh (eT l)) .no (.sh (eT w))) (fun xs a => Bag a.1 ∧ CY.Row 30 a.2 ∧ a.2.length + xs.length ≤ k)
    (fun x xs a j => by
      obtain ⟨j1, j2, j3⟩ := j
      obtain ⟨a', q1, q2, q3, q4⟩ := law_draw f (.sh (eT l)) .no (.sh (eT w)) j1 j2 (by omega) x
      simp only [List.length_cons] at j3
      exact ⟨_, a', rfl, q1, q2, q3, by omega⟩) (List.range k) (bs4, []) ⟨hB4, fun p hp => (by cases hp), by simp⟩
  obtain ⟨_, q2, q3⟩ := e7
  simp at q3 q2
  rw [sSeq_of (ρ' := lw f .no (.sh (eT l)) .no .no (.ow (ps.map eP)) .no .no (.sh (eT w)) .no .no .no .no .no) (by
    rw [sWp_ap, sFor_ap]
    have : dRng1 (dCons (dSh (dCallB0 2 F_Ltake 1 (dCons (dSh (dC (.int 61))) dNil))) dNil) (lwd f (.sh (eT l)) .no (.sh (eT w)) (bs3, [])) = .ok ((List.range k).map eN, lwd f (.sh (eT l)) .no (.sh (eT w)) (bs4, [])) := by
      have hr : rngD 0 (k : Int) = (List.range k).map eN := rng_nat k
      have s2 : s62 (k : Int) = true := s62_of (by omega) (by omega)
      have s0 : s62 0 = true := by decide
      rw [← hr]
      simp [lwd, lw, isL, e5, s2, s0]
    rw [this, onR_ok, e6]
    simp [lwd, lw])]
  have hrow : CY.Row w.length ps := by rw [wlen]; exact q2
  have eb := e_behind hw hrow (by omega)
  have el := e_led hrow
  have eb0 := e_behind hw (ps := []) (fun p hp => by cases hp) (by simp)
  have ex0 : CY.exs w [] = w := rfl
  rw [ex0] at eb0
  simp only [List.map_nil] at eb0
  rw [sSeq_of (ρ' := lw f .no (.sh (eT l)) .no .no (.sh (.list (ps.map eP))) .no .no (.sh (eT w)) .no .no (.sh (.list (ps.map eP))) .no .no) (by
    simp [lw, dS])]
  rw [sSeq_of (ρ' := lw f .no (.sh (eT l)) .no .no .no .no .no (.sh (eT w)) .no .no .no .no .no) (by
    have n3 := dNe_same_row ps
    have n1 := dNe_sameT (CY.exs w ps)
    have n2 := dNe_sameT w
    simp [lw, eb, el, n1, n3, szOk_of, eb0, n2])]
  rw [sSeq_of (ρ' := lw f .no (.sh (eT l)) .no .no .no .no .no (.sh (eT w)) .no .no .no (.sh (.list [.none, .tuple [], .list [.tuple [.int 0, .int 0]], .list [.tuple [.int 1, .int 0]], .list [.tuple [.int 0, .int 30]], .list [.tuple [.int (-1), .int 1]], .list [.tuple [.bool false, .int 1]], .list [.tuple [.int 0]], .list [.list [.int 0, .int 1]], .list [.none]])) .no) (by
    simp [lw, szOk_of, dS])]
  have hbad : ∀ d ∈ [PyData.none, .tuple [], .list [.tuple [.int 0, .int 0]], .list [.tuple [.int 1, .int 0]], .list [.tuple [.int 0, .int 30]], .list [.tuple [.int (-1), .int 1]], .list [.tuple [.bool false, .int 1]], .list [.tuple [.int 0]], .list [.list [.int 0, .int 1]], .list [.none], .list (List.replicate 61 (.tuple [.int 0, .int 1]))], F_behind [eT w, d] = .err "NoRow" [] := by
    intro d hd
    simp only [List.mem_cons, List.not_mem_nil, or_false] at hd
    apply n_row hw
    rcases hd with rfl | rfl | rfl | rfl | rfl | rfl | rfl | rfl | rfl | rfl | rfl
    · exact .inl rfl
    · exact .inr (.inl rfl)
    · exact .inr (.inr (.inl ⟨_, rfl, x_pair wlen rfl rfl (.inr (by simp))⟩))
    · exact .inr (.inr (.inl ⟨_, rfl, x_pair wlen rfl rfl (.inr (by simp))⟩))
    · exact .inr (.inr (.inl ⟨_, rfl, x_pair wlen rfl rfl (.inl (by decide))⟩))
    · exact .inr (.inr (.inl ⟨_, rfl, x_pair wlen rfl rfl (.inl (by decide))⟩))
    · exact .inr (.inr (.inl ⟨_, rfl, x_pair wlen rfl rfl (.inl rfl)⟩))
    · exact .inr (.inr (.inl ⟨_, rfl, x_odd w (.inl rfl)⟩))
    · exact .inr (.inr (.inl ⟨_, rfl, x_odd w (.inr (.inl rfl))⟩))
    · exact .inr (.inr (.inl ⟨_, rfl, x_odd w (.inr (.inr rfl))⟩))
    · exact .inr (.inr (.inr ⟨_, rfl, by simp⟩))
  generalize hG : (PyData.list (List.replicate 61 (.tuple [.int 0, .int 1])) : D) = G at hbad
  rw [sSeq_of (ρ' := lw f .no (.sh (eT l)) .no .no .no .no .no (.sh (eT w)) .no .no .no .no .no) (by
    rw [sWp_ap, sFor_ap]
    have : dSeq (dSh (dOp dAdd (dSh (dVar 12)) (dSh (dLst (dCons (dSh (dOp dMul (dSh (dLst (dCons (dSh (dTup (dCons (dSh (dC (.int 0))) (dCons (dSh (dC (.int 1))) dNil)))) dNil))) (dSh (dC (.int 61))))) dNil))))) (lw f .no (.sh (eT l)) .no .no .no .no .no (.sh (eT w)) .no .no .no (.sh (.list [.none, .tuple [], .list [.tuple [.int 0, .int 0]], .list [.tuple [.int 1, .int 0]], .list [.tuple [.int 0, .int 30]], .list [.tuple [.int (-1), .int 1]], .list [.tuple [.bool false, .int 1]], .list [.tuple [.int 0]], .list [.list [.int 0, .int 1]], .list [.none]])) .no) = .ok ([PyData.none, .tuple [], .list [.tuple [.int 0, .int 0]], .list [.tuple [.int 1, .int 0]], .list [.tuple [.int 0, .int 30]], .list [.tuple [.int (-1), .int 1]], .list [.tuple [.bool false, .int 1]], .list [.tuple [.int 0]], .list [.list [.int 0, .int 1]], .list [.none], G].map id, lw f .no (.sh (eT l)) .no .no .no .no .no (.sh (eT w)) .no .no .no (.sh (.list [.none, .tuple [], .list [.tuple [.int 0, .int 0]], .list [.tuple [.int 1, .int 0]], .list [.tuple [.int 0, .int 30]], .list [.tuple [.int (-1), .int 1]], .list [.tuple [.bool false, .int 1]], .list [.tuple [.int 0]], .list [.list [.int 0, .int 1]], .list [.none]])) .no) := by
      have s61 : s62 61 = true := by decide
      have fl : (List.replicate 61 [(PyData.tuple [.int 0, .int 1] : D)]).flatten = List.replicate 61 (.tuple [.int 0, .int 1]) := List.flatten_replicate_singleton
      simp only [lw]
      rw [← hG]
      simp [szOk_of, s61]
    rw [this, onR_ok, sLoop_const id _ _ fun d hd => ⟨_, rfl, law_bad f .no (.sh (eT l)) .no .no .no .no .no .no .no .no _ (hbad d hd)⟩]
    simp [lw])]
  have r2 : F_Lrefused [lamD 1, eT w, eT l, .int 0] = .ok (.fr [.str "Unlike", .bool true]) := e_refused (i := 1) (by
    show F_lam1 _ = _
    unfold F_lam1 runL
    simp [startE, u_row_to hw hl (by omega)]) (by decide +kernel)
  have n2 : dNe (.list [.str "Unlike", .bool true]) (.list [.str (Str.ofString "Unlike"), .bool true]) = some (.sh (.bool false)) := kin_eq (by decide +kernel)
  simp [lw, r2, szOk_of, n2]
theorem law_k11 (ns : List Int) (hn : ns.length ≤ 63) : F_law [frzD ns] = .ok (.sh (.bool true)) := by
  obtain ⟨bss, hbss, hF⟩ := e_bags ns hn 4 (by decide)
  replace hF : F_Lbags [frzD ns, .int 4] = some bss := hF
  unfold F_law f_law runP
  rw [show startE 14 [frzD ns] = lw (frzD ns) .no .no .no .no .no .no .no .no .no .no .no .no .no from rfl]
  have loop : ∃ s1, sLoopB 1 b_law_1 bss (lw (frzD ns) .no .no .no .no .no .no .no .no .no .no .no .no .no) = .nx (lw (frzD ns) s1 .no .no .no .no .no .no .no .no .no .no .no .no) := by
    refine sLoopB_rel (fun bss ρ => (∀ bs ∈ bss, Bag bs) ∧ ∃ s1, ρ = lw (frzD ns) s1 .no .no .no .no .no .no .no .no .no .no .no .no) (fun o => ∃ s1, o = .nx (lw (frzD ns) s1 .no .no .no .no .no .no .no .no .no .no .no .no)) ?_ ?_ _ _ ⟨hbss, _, rfl⟩
    · rintro bs bss ρ ⟨hb, s1, rfl⟩
      have := law_body (frzD ns) bs (hb bs (by simp))
      rw [show (lw (frzD ns) s1 .no .no .no .no .no .no .no .no .no .no .no .no).set 1 (.ow bs) = lw (frzD ns) (.ow bs) .no .no .no .no .no .no .no .no .no .no .no .no from rfl, this]
      exact ⟨fun b hb' => hb b (by simp [hb']), .no, rfl⟩
    · rintro ρ ⟨_, s1, rfl⟩
      exact ⟨s1, rfl⟩
  obtain ⟨s1, hloop⟩ := loop
  rw [sSeq_of (ρ' := (lw .none .no .no .no .no .no .no .no .no .no .no .no .no .no).set 0 .no) (by
    rw [sWp_ap, sForB_ap]
    simp [lw] at hloop ⊢
    simp [hF, hloop])]
  simp
end DL

/-! ### the head -/
namespace Hd
open PySem PySem.Spec PyProof.Rows L2 DL
def d0 : He.DefD := ⟨("is_within", none), "is_within", "is_within", defArgs s_is_within, defBody s_is_within, defScope s_is_within, [], []⟩
def d1 : He.DefD := ⟨("is_laying", none), "is_laying", "is_laying", defArgs s_is_laying, defBody s_is_laying, defScope s_is_laying, [], []⟩
def d2 : He.DefD := ⟨("need_laying", none), "need_laying", "need_laying", defArgs s_need_laying, defBody s_need_laying, defScope s_need_laying, [], []⟩
def d3 : He.DefD := ⟨("all_rounds_of", none), "all_rounds_of", "all_rounds_of", defArgs s_all_rounds_of, defBody s_all_rounds_of, defScope s_all_rounds_of, [], []⟩
def d4 : He.DefD := ⟨("is_exchange", none), "is_exchange", "is_exchange", defArgs s_is_exchange, defBody s_is_exchange, defScope s_is_exchange, [], []⟩
def d5 : He.DefD := ⟨("exchanged", none), "exchanged", "exchanged", defArgs s_exchanged, defBody s_exchanged, defScope s_exchanged, [], []⟩
def d6 : He.DefD := ⟨("behind", none), "behind", "behind", defArgs s_behind, defBody s_behind, defScope s_behind, [], []⟩
def d7 : He.DefD := ⟨("row_to", none), "row_to", "row_to", defArgs s_row_to, defBody s_row_to, defScope s_row_to, [], []⟩
def d8 : He.DefD := ⟨("row_to_rounds", none), "row_to_rounds", "row_to_rounds", defArgs s_row_to_rounds, defBody s_row_to_rounds, defScope s_row_to_rounds, [], []⟩
def d9 : He.DefD := ⟨("_law_cell_at", none), "_law_cell_at", "_law_cell_at", defArgs s_Lcell_at, defBody s_Lcell_at, defScope s_Lcell_at, [], []⟩
def d10 : He.DefD := ⟨("_law_draws", none), "_law_draws", "_law_draws", defArgs s_Ldraws, defBody s_Ldraws, defScope s_Ldraws, [], []⟩
def d11 : He.DefD := ⟨("_law_bag", none), "_law_bag", "_law_bag", defArgs s_Lbag, defBody s_Lbag, defScope s_Lbag, [], []⟩
def d12 : He.DefD := ⟨("_law_bags", none), "_law_bags", "_law_bags", defArgs s_Lbags, defBody s_Lbags, defScope s_Lbags, [], []⟩
def d13 : He.DefD := ⟨("_law_take", none), "_law_take", "_law_take", defArgs s_Ltake, defBody s_Ltake, defScope s_Ltake, [], []⟩
def d14 : He.DefD := ⟨("_law_mixed", none), "_law_mixed", "_law_mixed", defArgs s_Lmixed, defBody s_Lmixed, defScope s_Lmixed, [], []⟩
def d15 : He.DefD := ⟨("_law_cycles", none), "_law_cycles", "_law_cycles", defArgs s_Lcycles, defBody s_Lcycles, defScope s_Lcycles, [], []⟩
def d16 : He.DefD := ⟨("_law_laid", none), "_law_laid", "_law_laid", defArgs s_Llaid, defBody s_Llaid, defScope s_Llaid, [], []⟩
def d17 : He.DefD := ⟨("_law_swapped", none), "_law_swapped", "_law_swapped", defArgs s_Lswapped, defBody s_Lswapped, defScope s_Lswapped, [], []⟩
def d18 : He.DefD := ⟨("_law_refused", none), "_law_refused", "_law_refused", defArgs s_Lrefused, defBody s_Lrefused, defScope s_Lrefused, [], []⟩
def d19 : He.DefD := ⟨("_law_pairs", none), "_law_pairs", "_law_pairs", defArgs s_Lpairs, defBody s_Lpairs, defScope s_Lpairs, [], []⟩
def d20 : He.DefD := ⟨("_law_steps", none), "_law_steps", "_law_steps", defArgs s_Lsteps, defBody s_Lsteps, defScope s_Lsteps, [], []⟩
def d21 : He.DefD := ⟨("_law_led", none), "_law_led", "_law_led", defArgs s_Lled, defBody s_Lled, defScope s_Lled, [], []⟩
def d22 : He.DefD := ⟨("law", none), "law", "law", defArgs s_law, defBody s_law, defScope s_law, [], []⟩
def fn : List He.DefD := [d0, d1, d2, d3, d4, d5, d6, d7, d8, d9, d10, d11, d12, d13, d14, d15, d16, d17, d18, d19, d20, d21, d22]
def fa : List He.Fa := [.glo "is_within", .glo "is_laying", .glo "need_laying", .glo "all_rounds_of", .glo "is_exchange", .glo "exchanged", .glo "behind", .glo "row_to", .glo "row_to_rounds", .glo "_law_cell_at", .glo "_law_draws", .glo "_law_bag", .glo "_law_bags", .glo "_law_take", .glo "_law_mixed", .glo "_law_cycles", .glo "_law_laid", .glo "_law_swapped", .glo "_law_refused", .glo "_law_pairs", .glo "_law_steps", .glo "_law_led", .glo "law", .free "abs", .free "all", .free "any", .free "bool", .free "dict", .free "enumerate", .free "int", .free "isinstance", .free "len", .free "list", .free "max", .free "min", .free "range", .free "repr", .free "set", .free "sorted", .free "str", .free "sum", .free "tuple", .free "zip", .free "ValueError", .glo "NoHouse", .glo "NoColour", .glo "NoRow", .glo "NoBoxes", .glo "NoLaying", .glo "NoNumber", .glo "NoBox", .glo "NoKey", .glo "Locks", .glo "Unlike", .glo "Open", .glo "Shut", .glo "Full", .glo "NothingLeft", .glo "TooMany", .glo "Locked", .glo "BoxError", .exc "NoLaying", .exc "NoNumber", .exc "NoRow", .exc "Unlike"]
def tf : List He.Defn := [("law", none)]
def qOf (p : He.Defn) : Str := p.1 ++ ".<locals>." ++ "<lambda>"
def ex (K : PySem.W.Frag) : Bool := refB K && decide ((tf.map fun p => (He.cT K p).2).Nodup)
theorem inj_of_nodup {α β : Type} {f : α → β} : ∀ {l : List α}, (l.map f).Nodup → ∀ {a b : α}, a ∈ l → b ∈ l → f a = f b → a = b
  | x :: l, h, a, b, ha, hb, e => by
    obtain ⟨h1, h2⟩ := List.nodup_cons.mp h
    rcases List.mem_cons.mp ha with ea | ha
    · rcases List.mem_cons.mp hb with eb | hb
      · exact ea.trans eb.symm
      · exact absurd (List.mem_map.mpr ⟨b, hb, by rw [← e, ea]⟩) h1
    · rcases List.mem_cons.mp hb with eb | hb
      · exact absurd (List.mem_map.mpr ⟨a, ha, by rw [e, eb]⟩) h1
      · exact inj_of_nodup h2 ha hb e
def lmF : Nat → Addr → HX.LF
  | 0, c => lamOf q_law l_0 c
  | 1, c => lamOf q_law l_1 c
  | _, c => lamOf "" l_0 c
def TF (K : PySem.W.Frag) : List (Addr × Str) := tf.map fun p => ((He.cT K p).2, qOf p)
abbrev R : PySem.W.OpenRow := PySem.W.OpenLaw.row PySem.Challenge.rw_keyswithin_k11_rows_of_exchanges_by_all
abbrev hk : PySem.W.Hook := He.hookX 4 fa fn [] tf ex
def ob (s : PySem.W.SharedT) : He.AlX := He.obsX 4 fa fn [] tf ex (HandSHeadRun.getT s)
theorem ob_eq (s : PySem.W.SharedT) : ob s = hk.obs s.abs := He.obsX_eq (HandSHeadRun.getT_eq s)
def names : List PySem.Str := (["BoxError", "NoHouse", "NoColour", "NoBoxes", "NoLaying", "NoNumber", "NoRow", "NoBox", "NoKey", "Locks", "Unlike", "Open", "Shut", "Full", "NothingLeft", "TooMany", "Locked", "is_within", "is_laying", "need_laying"] : List PySem.Str) ++ (["all_rounds_of", "is_exchange", "exchanged", "behind", "row_to", "row_to_rounds", "_law_cell_at", "_law_draws", "_law_bag", "_law_bags", "_law_take", "_law_mixed", "_law_cycles", "_law_laid", "_law_swapped", "_law_refused", "_law_pairs", "_law_steps", "_law_led"] : List PySem.Str)
set_option maxHeartbeats 0 in
theorem run (w : World) : HandSHeadRun.RunEq R (PySem.W.view R.prog [44]) hk ob 12000 names w := by
  intro os
  kernel_rfl
theorem tabs_apart [Wr] {T : List (Addr × Str)} {p : He.Defn} (hT : T = TF Wr.K) (hnd : (tf.map fun p => (He.cT Wr.K p).2).Nodup) (hp : p ∈ tf) : ∀ q ∈ T, q.1 = (He.cT Wr.K p).2 → q.2 = qOf p := by
  intro q hq e
  rw [hT] at hq
  obtain ⟨r, hr, rfl⟩ := List.mem_map.mp hq
  have : r = p := inj_of_nodup hnd hr hp e
  rw [this]
theorem facts [Wr] {P : Program} {w w0 : World} {h : Heap} {mg : Str → Option Value} {f : Addr} (X : (Wr.K).In h) (G : h.Ns mainGlobals mg) (hfa : mg ("law" : Str) = some (.ref f)) (cx : He.SaysX fa fn [] tf ex w0 h Wr.K) (hT : Wr.T = TF Wr.K) (hl_0 : Wr.lm 0 = lamOf q_law l_0) (hl_1 : Wr.lm 1 = lamOf q_law l_1) :
    ∃ fd : FuncData, (∀ (s : Shared) (v : Value), BindsTo s fd ⟨[v], []⟩ [("script", v)]) ∧ ∀ base : Heap, (Wr.K).In base → base.Ns mainGlobals mg → (∀ p ∈ tf, LamX.TabB base mg (He.cT Wr.K p).1 (He.cT Wr.K p).2) → FnOk P w Wr.K mg base CX0 7 f fd ["script"] (spP 1 EW0 F_law) := by
  have c := cx.t.d
  have hx := Bool.and_eq_true_iff.mp cx.more
  have hnd : (tf.map fun p => (He.cT Wr.K p).2).Nodup := of_decide_eq_true hx.2
  have hb : Bn mg := ⟨He.free_ok X G (c.fact 23 (f := .free "abs") rfl), He.free_ok X G (c.fact 24 (f := .free "all") rfl), He.free_ok X G (c.fact 25 (f := .free "any") rfl), He.free_ok X G (c.fact 26 (f := .free "bool") rfl), He.free_ok X G (c.fact 27 (f := .free "dict") rfl), He.free_ok X G (c.fact 28 (f := .free "enumerate") rfl), He.free_ok X G (c.fact 29 (f := .free "int") rfl), He.free_ok X G (c.fact 30 (f := .free "isinstance") rfl), He.free_ok X G (c.fact 31 (f := .free "len") rfl), He.free_ok X G (c.fact 32 (f := .free "list") rfl), He.free_ok X G (c.fact 33 (f := .free "max") rfl), He.free_ok X G (c.fact 34 (f := .free "min") rfl), He.free_ok X G (c.fact 35 (f := .free "range") rfl), He.free_ok X G (c.fact 36 (f := .free "repr") rfl), He.free_ok X G (c.fact 37 (f := .free "set") rfl), He.free_ok X G (c.fact 38 (f := .free "sorted") rfl), He.free_ok X G (c.fact 39 (f := .free "str") rfl), He.free_ok X G (c.fact 40 (f := .free "sum") rfl), He.free_ok X G (c.fact 41 (f := .free "tuple") rfl), He.free_ok X G (c.fact 42 (f := .free "zip") rfl)⟩
  have hR : RefAll Wr.K mg := ⟨hx.1, fun c hc => ?hRg, He.free_ok X G (c.fact 43 (f := .free "ValueError") rfl)⟩
  case hRg =>
    simp only [RN, List.cons_append, List.nil_append, List.mem_cons, List.not_mem_nil, or_false] at hc
    rcases hc with rfl | rfl | rfl | rfl | rfl | rfl | rfl | rfl | rfl | rfl | rfl | rfl | rfl | rfl | rfl | rfl | rfl
    · exact He.glo_ok X G ((cx.t.d).fact 44 (f := .glo "NoHouse") rfl)
    · exact He.glo_ok X G ((cx.t.d).fact 45 (f := .glo "NoColour") rfl)
    · exact He.glo_ok X G ((cx.t.d).fact 46 (f := .glo "NoRow") rfl)
    · exact He.glo_ok X G ((cx.t.d).fact 47 (f := .glo "NoBoxes") rfl)
    · exact He.glo_ok X G ((cx.t.d).fact 48 (f := .glo "NoLaying") rfl)
    · exact He.glo_ok X G ((cx.t.d).fact 49 (f := .glo "NoNumber") rfl)
    · exact He.glo_ok X G ((cx.t.d).fact 50 (f := .glo "NoBox") rfl)
    · exact He.glo_ok X G ((cx.t.d).fact 51 (f := .glo "NoKey") rfl)
    · exact He.glo_ok X G ((cx.t.d).fact 52 (f := .glo "Locks") rfl)
    · exact He.glo_ok X G ((cx.t.d).fact 53 (f := .glo "Unlike") rfl)
    · exact He.glo_ok X G ((cx.t.d).fact 54 (f := .glo "Open") rfl)
    · exact He.glo_ok X G ((cx.t.d).fact 55 (f := .glo "Shut") rfl)
    · exact He.glo_ok X G ((cx.t.d).fact 56 (f := .glo "Full") rfl)
    · exact He.glo_ok X G ((cx.t.d).fact 57 (f := .glo "NothingLeft") rfl)
    · exact He.glo_ok X G ((cx.t.d).fact 58 (f := .glo "TooMany") rfl)
    · exact He.glo_ok X G ((cx.t.d).fact 59 (f := .glo "Locked") rfl)
    · exact He.glo_ok X G ((cx.t.d).fact 60 (f := .glo "BoxError") rfl)
  have r_NoLaying : RefC Wr.K mg "NoLaying" := by
    obtain ⟨e1, e2, e3, e4⟩ := He.exc_ok (c.fact 61 (f := .exc "NoLaying") rfl)
    exact ⟨He.glo_ok X G (c.fact 48 (f := .glo "NoLaying") rfl), e1, e2, e3, e4⟩
  have r_NoNumber : RefC Wr.K mg "NoNumber" := by
    obtain ⟨e1, e2, e3, e4⟩ := He.exc_ok (c.fact 62 (f := .exc "NoNumber") rfl)
    exact ⟨He.glo_ok X G (c.fact 49 (f := .glo "NoNumber") rfl), e1, e2, e3, e4⟩
  have r_NoRow : RefC Wr.K mg "NoRow" := by
    obtain ⟨e1, e2, e3, e4⟩ := He.exc_ok (c.fact 63 (f := .exc "NoRow") rfl)
    exact ⟨He.glo_ok X G (c.fact 46 (f := .glo "NoRow") rfl), e1, e2, e3, e4⟩
  have r_Unlike : RefC Wr.K mg "Unlike" := by
    obtain ⟨e1, e2, e3, e4⟩ := He.exc_ok (c.fact 64 (f := .exc "Unlike") rfl)
    exact ⟨He.glo_ok X G (c.fact 53 (f := .glo "Unlike") rfl), e1, e2, e3, e4⟩
  obtain ⟨fd0, F0⟩ := c.def_ 0 (d := d0) rfl
  replace F0 : FnP Wr.K "is_within" s_is_within (He.ga Wr.K "is_within") fd0 := F0
  obtain ⟨fd1, F1⟩ := c.def_ 1 (d := d1) rfl
  replace F1 : FnP Wr.K "is_laying" s_is_laying (He.ga Wr.K "is_laying") fd1 := F1
  obtain ⟨fd2, F2⟩ := c.def_ 2 (d := d2) rfl
  replace F2 : FnP Wr.K "need_laying" s_need_laying (He.ga Wr.K "need_laying") fd2 := F2
  obtain ⟨fd3, F3⟩ := c.def_ 3 (d := d3) rfl
  replace F3 : FnP Wr.K "all_rounds_of" s_all_rounds_of (He.ga Wr.K "all_rounds_of") fd3 := F3
  obtain ⟨fd4, F4⟩ := c.def_ 4 (d := d4) rfl
  replace F4 : FnP Wr.K "is_exchange" s_is_exchange (He.ga Wr.K "is_exchange") fd4 := F4
  obtain ⟨fd5, F5⟩ := c.def_ 5 (d := d5) rfl
  replace F5 : FnP Wr.K "exchanged" s_exchanged (He.ga Wr.K "exchanged") fd5 := F5
  obtain ⟨fd6, F6⟩ := c.def_ 6 (d := d6) rfl
  replace F6 : FnP Wr.K "behind" s_behind (He.ga Wr.K "behind") fd6 := F6
  obtain ⟨fd7, F7⟩ := c.def_ 7 (d := d7) rfl
  replace F7 : FnP Wr.K "row_to" s_row_to (He.ga Wr.K "row_to") fd7 := F7
  obtain ⟨fd8, F8⟩ := c.def_ 8 (d := d8) rfl
  replace F8 : FnP Wr.K "row_to_rounds" s_row_to_rounds (He.ga Wr.K "row_to_rounds") fd8 := F8
  obtain ⟨fd9, F9⟩ := c.def_ 9 (d := d9) rfl
  replace F9 : FnP Wr.K "_law_cell_at" s_Lcell_at (He.ga Wr.K "_law_cell_at") fd9 := F9
  obtain ⟨fd10, F10⟩ := c.def_ 10 (d := d10) rfl
  replace F10 : FnP Wr.K "_law_draws" s_Ldraws (He.ga Wr.K "_law_draws") fd10 := F10
  obtain ⟨fd11, F11⟩ := c.def_ 11 (d := d11) rfl
  replace F11 : FnP Wr.K "_law_bag" s_Lbag (He.ga Wr.K "_law_bag") fd11 := F11
  obtain ⟨fd12, F12⟩ := c.def_ 12 (d := d12) rfl
  replace F12 : FnP Wr.K "_law_bags" s_Lbags (He.ga Wr.K "_law_bags") fd12 := F12
  obtain ⟨fd13, F13⟩ := c.def_ 13 (d := d13) rfl
  replace F13 : FnP Wr.K "_law_take" s_Ltake (He.ga Wr.K "_law_take") fd13 := F13
  obtain ⟨fd14, F14⟩ := c.def_ 14 (d := d14) rfl
  replace F14 : FnP Wr.K "_law_mixed" s_Lmixed (He.ga Wr.K "_law_mixed") fd14 := F14
  obtain ⟨fd15, F15⟩ := c.def_ 15 (d := d15) rfl
  replace F15 : FnP Wr.K "_law_cycles" s_Lcycles (He.ga Wr.K "_law_cycles") fd15 := F15
  obtain ⟨fd16, F16⟩ := c.def_ 16 (d := d16) rfl
  replace F16 : FnP Wr.K "_law_laid" s_Llaid (He.ga Wr.K "_law_laid") fd16 := F16
  obtain ⟨fd17, F17⟩ := c.def_ 17 (d := d17) rfl
  replace F17 : FnP Wr.K "_law_swapped" s_Lswapped (He.ga Wr.K "_law_swapped") fd17 := F17
  obtain ⟨fd18, F18⟩ := c.def_ 18 (d := d18) rfl
  replace F18 : FnP Wr.K "_law_refused" s_Lrefused (He.ga Wr.K "_law_refused") fd18 := F18
  obtain ⟨fd19, F19⟩ := c.def_ 19 (d := d19) rfl
  replace F19 : FnP Wr.K "_law_pairs" s_Lpairs (He.ga Wr.K "_law_pairs") fd19 := F19
  obtain ⟨fd20, F20⟩ := c.def_ 20 (d := d20) rfl
  replace F20 : FnP Wr.K "_law_steps" s_Lsteps (He.ga Wr.K "_law_steps") fd20 := F20
  obtain ⟨fd21, F21⟩ := c.def_ 21 (d := d21) rfl
  replace F21 : FnP Wr.K "_law_led" s_Lled (He.ga Wr.K "_law_led") fd21 := F21
  obtain ⟨fd22, F22⟩ := c.def_ 22 (d := d22) rfl
  replace F22 : FnP Wr.K "law" s_law (He.ga Wr.K "law") fd22 := F22
  have e := hfa.symm.trans (He.glo_ok X G (c.fact 22 (f := .glo "law") rfl))
  cases e
  have b := FunD.bindsA (ps := ["script"]) F22 fun _ _ _ _ _ _ us hl => match us, hl with | [_], _ => rfl
  refine ⟨fd22, fun s v => b s [v] rfl, fun base _ _ hTB => ?_⟩
  have tb_law : LamX.TabB base mg (He.codeOf Wr.K ("law", none)) (He.tabOf Wr.K (He.codeOf Wr.K ("law", none))) := hTB ("law", none) (by decide)
  have hT_law : (He.tabOf Wr.K (He.codeOf Wr.K ("law", none)), q_law) ∈ Wr.T := by rw [hT]; exact List.mem_map.mpr ⟨("law", none), by decide, rfl⟩
  have hu_law : ∀ p ∈ Wr.T, p.1 = He.tabOf Wr.K (He.codeOf Wr.K ("law", none)) → p.2 = q_law := tabs_apart hT hnd (p := ("law", none)) (by decide)
  have c_is_within : Cal0 P w Wr.K mg base 1 "is_within" (spP 3 EW0 F_is_within) := calP F0 (ok_is_within F0 hb) (He.glo_ok X G (c.fact 0 (f := .glo "is_within") rfl)) (F0.bindsN fun _ _ _ _ _ _ us hl => match us, hl with | [_, _, _], _ => rfl)
  have c_is_laying : Cal0 P w Wr.K mg base 2 "is_laying" (spP 1 EW0 F_is_laying) := calP F1 (ok_is_laying F1 hb c_is_within) (He.glo_ok X G (c.fact 1 (f := .glo "is_laying") rfl)) (F1.bindsN fun _ _ _ _ _ _ us hl => match us, hl with | [_], _ => rfl)
  have c_need_laying : Cal1 P w Wr.K mg base 3 "need_laying" (spP 1 EWx F_need_laying) := calX F2 (ok_need_laying F2 hb c_is_laying r_NoLaying) (He.glo_ok X G (c.fact 2 (f := .glo "need_laying") rfl)) (F2.bindsN fun _ _ _ _ _ _ us hl => match us, hl with | [_], _ => rfl)
  have c_all_rounds_of : Cal0 P w Wr.K mg base 1 "all_rounds_of" (spP 1 EW0 F_all_rounds_of) := calP F3 (ok_all_rounds_of F3 hb) (He.glo_ok X G (c.fact 3 (f := .glo "all_rounds_of") rfl)) (F3.bindsN fun _ _ _ _ _ _ us hl => match us, hl with | [_], _ => rfl)
  have c_is_exchange : Cal0 P w Wr.K mg base 2 "is_exchange" (spP 2 EW0 F_is_exchange) := calP F4 (ok_is_exchange F4 hb c_is_within) (He.glo_ok X G (c.fact 4 (f := .glo "is_exchange") rfl)) (F4.bindsN fun _ _ _ _ _ _ us hl => match us, hl with | [_, _], _ => rfl)
  have c_exchanged : Cal0 P w Wr.K mg base 1 "exchanged" (spP 2 EW0 F_exchanged) := calP F5 (ok_exchanged F5 hb) (He.glo_ok X G (c.fact 5 (f := .glo "exchanged") rfl)) (F5.bindsN fun _ _ _ _ _ _ us hl => match us, hl with | [_, _], _ => rfl)
  have c_behind : Cal1 P w Wr.K mg base 4 "behind" (spP 2 EWx F_behind) := calX F6 (ok_behind F6 hb c_need_laying c_is_exchange c_exchanged r_NoRow) (He.glo_ok X G (c.fact 6 (f := .glo "behind") rfl)) (F6.bindsN fun _ _ _ _ _ _ us hl => match us, hl with | [_, _], _ => rfl)
  have c_row_to : Cal1 P w Wr.K mg base 4 "row_to" (spP 2 EWx F_row_to) := calX F7 (ok_row_to F7 hb c_need_laying c_exchanged r_Unlike) (He.glo_ok X G (c.fact 7 (f := .glo "row_to") rfl)) (F7.bindsN fun _ _ _ _ _ _ us hl => match us, hl with | [_, _], _ => rfl)
  have c_row_to_rounds : Cal1 P w Wr.K mg base 4 "row_to_rounds" (spP 2 EWx F_row_to_rounds) := calX F8 (ok_row_to_rounds F8 hb c_need_laying c_is_within c_all_rounds_of c_exchanged r_NoNumber) (He.glo_ok X G (c.fact 8 (f := .glo "row_to_rounds") rfl)) (F8.bindsN fun _ _ _ _ _ _ us hl => match us, hl with | [_, _], _ => rfl)
  have c_Lcell_at : Cal0 P w Wr.K mg base 1 "_law_cell_at" (spP 2 EW0 F_Lcell_at) := calP F9 (ok_Lcell_at F9 hb) (He.glo_ok X G (c.fact 9 (f := .glo "_law_cell_at") rfl)) (F9.bindsN fun _ _ _ _ _ _ us hl => match us, hl with | [_, _], _ => rfl)
  have c_Ldraws : Cal0 P w Wr.K mg base 1 "_law_draws" (spP 3 EW0 F_Ldraws) := calP F10 (ok_Ldraws F10 hb) (He.glo_ok X G (c.fact 10 (f := .glo "_law_draws") rfl)) (F10.bindsN fun _ _ _ _ _ _ us hl => match us, hl with | [_, _, _], _ => rfl)
  have c_Lbag : Cal0 P w Wr.K mg base 2 "_law_bag" (spP 2 EW0 F_Lbag) := calP F11 (ok_Lbag F11 hb c_Ldraws c_Lcell_at) (He.glo_ok X G (c.fact 11 (f := .glo "_law_bag") rfl)) (F11.bindsN fun _ _ _ _ _ _ us hl => match us, hl with | [_, _], _ => rfl)
  have c_Lbags : Cal0 P w Wr.K mg base 3 "_law_bags" (spLL 2 EW0 F_Lbags) := calP F12 (ok_Lbags F12 hb c_Lbag) (He.glo_ok X G (c.fact 12 (f := .glo "_law_bags") rfl)) (F12.bindsN fun _ _ _ _ _ _ us hl => match us, hl with | [_, _], _ => rfl)
  have c_Ltake : Cal0 P w Wr.K mg base 1 "_law_take" (spB 2 EW0 F_Ltake) := calP F13 (ok_Ltake F13 hb) (He.glo_ok X G (c.fact 13 (f := .glo "_law_take") rfl)) (F13.bindsN fun _ _ _ _ _ _ us hl => match us, hl with | [_, _], _ => rfl)
  have c_Lmixed : Cal0 P w Wr.K mg base 2 "_law_mixed" (spB 2 EW0 F_Lmixed) := calP F14 (ok_Lmixed F14 hb c_Ltake) (He.glo_ok X G (c.fact 14 (f := .glo "_law_mixed") rfl)) (F14.bindsN fun _ _ _ _ _ _ us hl => match us, hl with | [_, _], _ => rfl)
  have c_Lcycles : Cal0 P w Wr.K mg base 1 "_law_cycles" (spP 1 EW0 F_Lcycles) := calP F15 (ok_Lcycles F15 hb) (He.glo_ok X G (c.fact 15 (f := .glo "_law_cycles") rfl)) (F15.bindsN fun _ _ _ _ _ _ us hl => match us, hl with | [_], _ => rfl)
  have c_Llaid : Cal0 P w Wr.K mg base 3 "_law_laid" (spB 2 EW0 F_Llaid) := calP F16 (ok_Llaid F16 hb c_Lmixed) (He.glo_ok X G (c.fact 16 (f := .glo "_law_laid") rfl)) (F16.bindsN fun _ _ _ _ _ _ us hl => match us, hl with | [_, _], _ => rfl)
  have c_Lswapped : Cal0 P w Wr.K mg base 1 "_law_swapped" (spP 2 EW0 F_Lswapped) := calP F17 (ok_Lswapped F17 hb) (He.glo_ok X G (c.fact 17 (f := .glo "_law_swapped") rfl)) (F17.bindsN fun _ _ _ _ _ _ us hl => match us, hl with | [_, _], _ => rfl)
  have hL : ∀ j c2, HX.LOk P w Wr.K mg base (L2N.CX P w) 5 (Wr.lm j c2) ["a", "b", "c"] (spP 3 EWx (Flams j)) := fun j c2 => match j with
    | 0 => by rw [hl_0]; exact lok_0 c2 hb c_behind
    | 1 => by rw [hl_1]; exact lok_1 c2 hb c_row_to
    | _ + 2 => HX.lok_no fun vs H Q E h => by obtain ⟨_, _, _, _, _, _, z⟩ := h; exact z
  have c_Lrefused : Cal0 P w Wr.K mg base 6 "_law_refused" (spP 4 EW0 F_Lrefused) := calP F18 (ok_Lrefused F18 hb hL hR) (He.glo_ok X G (c.fact 18 (f := .glo "_law_refused") rfl)) (F18.bindsN fun _ _ _ _ _ _ us hl => match us, hl with | [_, _, _, _], _ => rfl)
  have c_Lpairs : Cal0 P w Wr.K mg base 1 "_law_pairs" (spP 1 EW0 F_Lpairs) := calP F19 (ok_Lpairs F19 hb) (He.glo_ok X G (c.fact 19 (f := .glo "_law_pairs") rfl)) (F19.bindsN fun _ _ _ _ _ _ us hl => match us, hl with | [_], _ => rfl)
  have c_Lsteps : Cal0 P w Wr.K mg base 2 "_law_steps" (spP 1 EW0 F_Lsteps) := calP F20 (ok_Lsteps F20 hb c_Lpairs c_Lswapped) (He.glo_ok X G (c.fact 20 (f := .glo "_law_steps") rfl)) (F20.bindsN fun _ _ _ _ _ _ us hl => match us, hl with | [_], _ => rfl)
  have c_Lled : Cal0 P w Wr.K mg base 2 "_law_led" (spP 2 EW0 F_Lled) := calP F21 (ok_Lled F21 hb c_Lswapped) (He.glo_ok X G (c.fact 21 (f := .glo "_law_led") rfl)) (F21.bindsN fun _ _ _ _ _ _ us hl => match us, hl with | [_, _], _ => rfl)
  exact ok_law (f := He.ga Wr.K "law") F22 hb c_Lbags c_Llaid c_Ltake c_Lsteps c_row_to c_behind c_Lled c_Lcycles c_row_to_rounds c_Lrefused tb_law hT_law hu_law hl_0 hl_1
end Hd
open PySem PySem.W PySem.Calls PyProof.Rows
theorem PySem.Challenge.cw_keyswithin_k11_rows_of_exchanges_by_all_holds : PySem.Challenge.rw_keyswithin_k11_rows_of_exchanges_by_all.Holds := by
  w_on; o_law
  refine HandSHeadRun.head_any (r := OpenLaw.row PySem.Challenge.rw_keyswithin_k11_rows_of_exchanges_by_all) (q := view (OpenLaw.row PySem.Challenge.rw_keyswithin_k11_rows_of_exchanges_by_all).prog [44]) (H := Hd.hk) (ob := Hd.ob) (M := 12000) (loose := Hd.names) (d := HandSHeadRun.topDef (OpenLaw.row PySem.Challenge.rw_keyswithin_k11_rows_of_exchanges_by_all).prog 44) (kwd := []) Hd.ob_eq
    (by kernel_rfl) (fun s => by kernel_rfl) Hd.run (by kernel_rfl) (by kernel_rfl) (by kernel_rfl) (by rfl) (by first | assumption | decide +kernel) (by decide +kernel) ⟨rfl, rfl, rfl, rfl, rfl, by decide +kernel⟩ ?hw ?hc
  case hw => w_witness2
  case hc =>
    refine LamX.walk_ofTsE (l := PySem.Challenge.rw_keyswithin_k11_rows_of_exchanges_by_all) (n := 63) (k := 7) (x := "script") (CX := fun _ => L2.CX0) rfl (by decide) (by kernel_rfl) ⟨rfl, by decide, by decide⟩ ?F (fun _ _ _ _ _ z => z)
    intro w mg fa h Y G hmg0
    obtain ⟨K, KX, c⟩ := Y
    have hmg : mg ("law" : PySem.Str) = some (.ref fa) := by
      have e : (HandSHeadRun.topDef (OpenLaw.row PySem.Challenge.rw_keyswithin_k11_rows_of_exchanges_by_all).prog 44).name = ("law" : PySem.Str) := by kernel_rfl
      rw [← e]
      exact hmg0
    obtain ⟨fd, hb, hF⟩ := @Hd.facts ⟨K, Hd.TF K, Hd.lmF⟩ (PySem.Challenge.rw_keyswithin_k11_rows_of_exchanges_by_all).prog w _ h mg fa KX G hmg c rfl rfl rfl
    refine ⟨K, KX, fd, Hd.tf.map (He.cT K), @DL.spP ⟨K, Hd.TF K, Hd.lmF⟩ 1 DL.EW0 DL.F_law, fun p hp => ?_, fun p hp => ?_, fun p hp => ?_, hb, fun H a ns hl _ hT hS => ?_, fun base b1 b2 b3 => hF base b1 b2 fun p hp => b3 _ (List.mem_map.mpr ⟨p, hp, rfl⟩)⟩
    · obtain ⟨q, hq, rfl⟩ := List.mem_map.mp hp
      exact c.empty q hq
    · obtain ⟨q, hq, rfl⟩ := List.mem_map.mp hp
      exact c.out q hq
    · obtain ⟨q, hq, rfl⟩ := List.mem_map.mp hp
      exact codeHd_of_K KX (c.hd q hq)
    · letI : DL.Wr := ⟨K, Hd.TF K, Hd.lmF⟩
      refine DL.law_endT (DL.law_k11 ns hl) hS fun q hq => ?_
      obtain ⟨p, hp, rfl⟩ := List.mem_map.mp hq
      exact hT _ (List.mem_map.mpr ⟨p, hp, rfl⟩)
