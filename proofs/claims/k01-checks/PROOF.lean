import PyProof.Rows.All
import Wide.All
import OpenK.AllK
import Wide.FinOn
import HandS.ForMost
import HandS.Zip
import HandS.Walk
import HandS.IsInst
import HandS.Conv
import HandS.Codes
import HandS.TupAny
import HandS.Style
import KE.GoesEnum
import KE.GoesMore
import HandS.Deep
import HandS.ForExc
import HandS.Lambda
import HandS.CallSlots
import HandS.ExcCtx
import HandS.Iter
import HandS.Comp
import HandS.HotCalls
import HandS.ExcIs
import HandS.Star
import HandS.Defaults
import HandS.GenList
import HandS.SortInts
import PyProof.TupleOfSeq
import HandS.TupMul
import HandS.TupLe
import HandS.EndTab
import PySem.Challenge.RW_autosaves_k01_rules_and_logs_checked
set_option Elab.async false
set_option linter.all false
set_option maxRecDepth 100000
set_option maxHeartbeats 2000000
/-! enumerate over a TUPLE, as something that a for or a comprehension walks. -/
namespace Au
open PySem PySem.Spec PyProof.Rows L2

/-- enumerate(t), t a tuple: the object -/
theorem enumNewT (tp : Addr) (items : Array Value) (ob : Obj) (hcl : ob.cls = .type "tuple") (nn : Nat) (hda : ob.data = .seq items nn) :
    Meets (Builtin.«enumerate.__new__» ⟨[.type "enumerate", .ref tp], []⟩) (fun _ R s => s.heap.get? tp = some ob ∧
      R (.ok (.ret (.ref (s.heap.push { cls := .type "tuple_iterator", data := .fields #[.ref tp, .int 0 0] }).objs.size)))
        { s with heap := (s.heap.push { cls := .type "tuple_iterator", data := .fields #[.ref tp, .int 0 0] }).push { cls := .type "enumerate", data := .fields #[.none, .bool false, .ref s.heap.objs.size, rawInt 0, .none, .none] } }) :=
  .of_wp fun prog w A R s h => by
    obtain ⟨hp, g, d, tk, os⟩ := s
    obtain ⟨hl, h⟩ := h
    have hsub := sub_enumerate
    have hT : Heap.IsTuple (Shared.heap ⟨hp, g, d, tk, os⟩) tp items := ⟨_, hl, hcl, nn, hda⟩
    wp_walk using AutoSeq1.wpAny_loadPart' hT
    refine wpAny_stack_any fun st => wpAny_pure ?_
    split
    · rename_i c _ _ _ _ _
      cases (c == Value.type "enumerate")
      · wp_walk using AutoSeq1.wpAny_loadPart' hT, wpAny_pyIter_tuple hT
        exact ⟨_, rfl, h⟩
      · wp_walk using AutoSeq1.wpAny_loadPart' hT, wpAny_pyIter_tuple hT
        exact ⟨_, rfl, h⟩
    · wp_walk using AutoSeq1.wpAny_loadPart' hT, wpAny_pyIter_tuple hT
      exact ⟨_, rfl, h⟩

section
variable {prog : Program} {w : World} {A : Around} {E : Value → Shared → Prop} {s : Shared}
theorem callEnumT {tp : Addr} {items : Array Value} {Q : Value → Shared → Prop} (hL : s.heap.IsTuple tp items)
    (h : ∀ h', IsEnum h' (s.heap.objs.size + 1) s.heap.objs.size 0 .none → h'.IsTupleIter s.heap.objs.size tp 0 → h'.objs.size = s.heap.objs.size + 2 →
      (∀ b o, s.heap.get? b = some o → h'.get? b = some o) → Q (.ref (s.heap.objs.size + 1)) { s with heap := h' }) :
    wpAny (model prog w) A (call (.type "enumerate") [.ref tp]) Q E s := by
  obtain ⟨ob, hl, hc, nn, hd⟩ := hL
  refine callType_new F.called_enumerate (by decide) (F.typeCall_enumerate_1 _) (F.newCall_enumerate_1 _) (fun obj => F.args_object_init_2 obj _) F.entry_enumerate_new
    (enumNewT tp items ob hc nn hd) ⟨hl, ?_⟩
  have sz : (s.heap.push { cls := .type "tuple_iterator", data := .fields #[.ref tp, .int 0 0] }).objs.size = s.heap.objs.size + 1 := Heap.size_push ..
  show _ ∧ _
  rw [sz]
  have he : IsEnum ((s.heap.push { cls := .type "tuple_iterator", data := .fields #[.ref tp, .int 0 0] }).push
      { cls := .type "enumerate", data := .fields #[.none, .bool false, .ref s.heap.objs.size, rawInt 0, .none, .none] }) (s.heap.objs.size + 1) s.heap.objs.size 0 .none := by
    have q := Heap.get?_push_size (s.heap.push { cls := .type "tuple_iterator", data := .fields #[.ref tp, .int 0 0] })
      (o := { cls := .type "enumerate", data := .fields #[.none, .bool false, .ref s.heap.objs.size, rawInt 0, .none, .none] }) rfl
    rw [sz] at q
    exact q
  exact ⟨⟨_, he, rfl⟩, h _ he ⟨_, Heap.get?_push_of_some _ (Heap.get?_push_size _ rfl), rfl, rfl⟩ (by rw [Heap.size_push, sz]) fun b o x => Heap.get?_push_of_some _ (Heap.get?_push_of_some _ x)⟩
end

/-- the tuple at a, each item in a new pair with its number -/
def ItEt (K : PySem.W.Frag) (a : Addr) : It where
  go := fun i H => ∃ (xs : List V) (x : V), SqT K H a xs ∧ xs[i]? = some x
  yld := fun i H v H' => ∃ T x, v = .ref T ∧ H T = none ∧ H' = upd H T (.tup [.int (i : Nat), x]) ∧ ∀ xs, SqT K H a xs → xs[i]? = some x
  stop := fun i H => ∃ xs : List V, SqT K H a xs ∧ xs.length = i

theorem turnEt {P : Program} {w : World} {K : PySem.W.Frag} {elts : List Expr} {kk : Nat} {tpos : Pos} (a e it : Addr) :
    Turn P w K (.Tuple elts kk tpos) (ItEt K a) [e, it] e (fun i h => (∃ old, IsEnum h e it ((i : Nat) : Int) old) ∧ h.IsTupleIter it a i ∧ e ≠ it ∧ a ≠ it ∧ a ≠ e) where
  mem := by simp
  obj := fun i h st b hb => by
    obtain ⟨⟨old, hee⟩, ⟨oi, hoi, _, hdi⟩, _⟩ := st
    have eb : b = e ∨ b = it := by simpa using hb
    rcases eb with z | z
    · subst z
      exact ⟨_, hee, fun _ q => nomatch q⟩
    · subst z
      exact ⟨oi, hoi, fun _ q => by rw [hdi] at q; cases q⟩
  keep := fun i h h' st k => by
    obtain ⟨⟨old, hee⟩, hi, r⟩ := st
    exact ⟨⟨old, k e (by simp) _ hee⟩, hi.at fun o q => k it (by simp) o q, r⟩
  item := by
    intro X hP hw hK hcalm i pins s σ H E I hf st hg
    subst hP hw hK
    obtain ⟨⟨old, hee⟩, hit, hne, hai, hae⟩ := st
    obtain ⟨xs, x, hsq, hx⟩ := hg
    obtain ⟨itm, rvs, ptu, _⟩ := I.tuple hsq
    have ptt : s.heap.IsTuple a itm.toArray := ptu
    have lx : i < itm.toArray.size := by
      have h1 := rvs.length
      have h2 := (List.getElem?_eq_some_iff.mp hx).1
      simp
      omega
    have el : e < s.heap.objs.size := Heap.lt_size hee
    have il : it < s.heap.objs.size := by
      obtain ⟨_, q, _⟩ := hit
      exact Heap.lt_size q
    refine wpAny_pyNext_enum_itemD (Draws.tuple (A := X.A.in1) (I.ok.hd hcalm) it a hai itm.toArray) hee ⟨hit, ptt⟩ lx hne (by simp [hne, Ne.symm hae]) fun u h' tk hu ho hst hT hsz hk => ?_
    refine ⟨_, rfl, wpAny_letOwnedTupleGo_enum (s := { s with heap := h', toks := tk + 1 }) ho fun h'' he' sb => ?_⟩
    obtain ⟨u2, hu2, ru⟩ := rvs.get hx
    have eu : u = u2 := by
      have q : itm[i]? = some u := by simpa using hu
      rw [hu2] at q
      exact (Option.some.inj q).symm
    subst eu
    have hT2 : h''.get? s.heap.objs.size = some { cls := .type "tuple", data := .seq #[.int i tk, u] } := (sb.2 _ (Nat.ne_of_gt el)).trans hT
    have nw : ObjOk X.prog X.w (upd H s.heap.objs.size (.tup [.int (i : Nat), x])) h'' s.heap.objs.size (.tup [.int (i : Nat), x]) :=
      ⟨by show 2 ≤ sizeLine; decide, [.int i tk, u], .cons ⟨_, rfl⟩ (.cons ru .nil), ⟨_, hT2, rfl, _, rfl⟩⟩
    have I1 : Inv X pins σ (upd H s.heap.objs.size (.tup [.int (i : Nat), x])) { s with heap := h'', toks := tk + 1 } :=
      I.turnedNew (ch := [e, it]) (fun b ob hb q => (sb.2 b (fun z => hb (by simp [z]))).trans (hk b ob (fun z => hb (by simp [z])) (fun z => hb (by simp [z])) q)) hf (Nat.le_refl _) nw
    refine ⟨.ref s.heap.objs.size, _, I1, rfl, ⟨_, x, rfl, I.hok.fresh (Nat.le_refl _), rfl, fun ys hy => by rw [I.tuple_inj hy hsq]; exact hx⟩, ⟨⟨u, ?_⟩, hst.1.at fun o q => (sb.2 it (Ne.symm hne)).trans q, hne, hai, hae⟩, fun b hb => ?_⟩
    · have e1 : ((i + 1 : Nat) : Int) = (i : Int) + 1 := by omega
      rw [e1]
      exact he'
    · have lb : b < s.heap.objs.size := by
        have eb : b = e ∨ b = it := by simpa using hb
        rcases eb with z | z
        · rw [z]; exact el
        · rw [z]; exact il
      rw [upd_ne (Nat.ne_of_lt lb)]
      exact (hf b hb).1
  done := by
    intro X hP hw hK hcalm i pins s σ H E I hf st hg
    subst hP hw hK
    obtain ⟨⟨old, hee⟩, hit, hne, hai, hae⟩ := st
    obtain ⟨xs, hsq, hx⟩ := hg
    obtain ⟨itm, rvs, ptu, _⟩ := I.tuple hsq
    have ptt : s.heap.IsTuple a itm.toArray := ptu
    obtain ⟨f0, f1, f2, f3, f4, f5⟩ := hf it (by simp)
    have hl := rvs.length
    have en : i = itm.toArray.size := by simp; omega
    subst en
    exact wpAny_pyNext_enum_endD (Draws.tuple (A := X.A.in1) (I.ok.hd hcalm) it a hai itm.toArray) hee ⟨hit, ptt⟩ fun h' eb => ⟨rfl, I.turned (t' := s.toks) (fun b o hb q => eb b o hb q) f0 f1 f3 f4 f5⟩
  self := fun A i s Q E st h => let ⟨⟨_, hee⟩, _⟩ := st; wpAny_pyIter_enum hee h

def iEnT (K : PySem.W.Frag) (ta : TA) : TI := fun σ H R => ta σ H fun vs H1 => ∃ a xs, vs = [.ref a] ∧ SqT K H1 a xs ∧ R (ItEt K a) H1
theorem pi_enT {X : Cx} {e : Expr} {ta : TA} {p pos tpos : Pos} {elts : List Expr} {kk : Nat} (hg : Gl X "enumerate") (hm : X.mg "enumerate" = none) (ha : PA X [e] ta)
    (hst : starEach [e] X.env = [(false, eval e X.env)] := by rfl) : PI X (.Tuple elts kk tpos) (.Call (.Name "enumerate" p) [e] [] pos) (iEnT X.K ta) := by
  refine ⟨fun pins s σ H R I h => ?_⟩
  refine Call_ (ld_blt I hg hm boot_enumerate (PyProof.Rows.callWith_type1 (thn (ha.run pos pins s σ H _ I h) fun us s1 ⟨vs, H1, I1, r1, q1⟩ => ?_) hst rfl))
  obtain ⟨a, xs, ex, hsq, q⟩ := q1
  subst ex
  cases r1 with
  | cons r rr =>
    cases rr
    cases r
    obtain ⟨itm, rvs, ptu, _⟩ := I1.tuple hsq
    have ptt : s1.heap.IsTuple a itm.toArray := ptu
    have la : a < s1.heap.objs.size := by
      obtain ⟨_, q, _⟩ := ptu
      exact Heap.lt_size q
    refine callEnumT ptt fun h' hee hit hsz hk => wpAny_pyIter_enum hee ?_
    have I2 : Inv X pins σ H1 { s1 with heap := h' } := I1.kept (t' := s1.toks) hk
    refine ⟨s1.heap.objs.size + 1, [s1.heap.objs.size + 1, s1.heap.objs.size], _, _, H1, rfl, I2, turnEt a (s1.heap.objs.size + 1) s1.heap.objs.size, ⟨⟨.none, hee⟩, hit, Nat.succ_ne_self _, Nat.ne_of_lt la, Nat.ne_of_lt (Nat.lt_succ_of_lt la)⟩, fun b hb => ?_, q⟩
    have le : s1.heap.objs.size ≤ b := by
      have eb : b = s1.heap.objs.size + 1 ∨ b = s1.heap.objs.size := by simpa using hb
      rcases eb with z | z
      · rw [z]; exact Nat.le_succ _
      · rw [z]; exact Nat.le_refl _
    exact I1.fpOk le (I1.hok.fresh le)
theorem walk_enT {K : PySem.W.Frag} {a : Addr} {xs : List V} : Walk (ItEt K a) xs.length (fun H => SqT K H a xs) (YPair (fun i => some (.int (i : Nat))) (fun i => xs[i]?)) where
  goes := fun i _ hi q => ⟨xs, xs[i], q, by simp [hi]⟩
  stops := fun _ q => ⟨xs, q, rfl⟩
  yields := fun i H v H' _ q y => by
    obtain ⟨T, x, h1, h2, h3, h4⟩ := y
    exact ⟨T, .int (i : Nat), x, h1, h2, h3, rfl, h4 xs q⟩
theorem walk_zipTT {K : PySem.W.Frag} {a b : Addr} {xs ys : List V} {n : Nat} (hn : n = min xs.length ys.length) :
    Walk (RZ.ItzT K a b) n (fun H => SqT K H a xs ∧ SqT K H b ys) (YPair (fun i => xs[i]?) (fun i => ys[i]?)) where
  goes := fun i _ hi q => by
    subst hn
    have h1 : i < xs.length := by omega
    have h2 : i < ys.length := by omega
    exact ⟨xs, ys, xs[i], ys[i], q.1, q.2, by simp [h1], by simp [h2]⟩
  stops := fun _ q => by
    subst hn
    exact ⟨xs, ys, q.1, q.2, by omega⟩
  yields := fun i H v H' _ q y => by
    obtain ⟨T, x, z, h1, h2, h3, h4, h5⟩ := y
    exact ⟨T, x, z, h1, h2, h3, h4 xs q.1, h5 ys q.2⟩
end Au
set_option maxHeartbeats 2000000
/-! What stands in a heap: small words. -/
namespace Au
open PySem PySem.Spec PyProof.Rows L2

/-! ### heaps that grow -/
theorem same_new {H : Hp} {p : Addr} {o : HO} (h : H p = none) : Same H (upd H p o) := fun b u e => by
  rw [upd_ne (ne_of_none e h)]
  exact e
theorem same_mut {H H' : Hp} {p : Addr} {o : HO} (s : Same H H') (h : H p = none) : Same H (upd H' p o) := fun b u e => by
  rw [upd_ne (ne_of_none e h)]
  exact s b u e
theorem same_seqT {K : PySem.W.Frag} {H H' : Hp} {a : Addr} {xs : List V} (e : Same H H') (h : SqT K H a xs) : SqT K H' a xs := by
  rcases h with (h | ⟨o, h⟩) | h
  · exact .inl (.inl (e _ _ h))
  · exact .inl (.inr ⟨o, e _ _ h⟩)
  · exact .inr h
theorem sqL_of {K : PySem.W.Frag} {H : Hp} {a : Addr} {xs : List V} (h : H a = some (.lst xs)) : SqL K H a xs := .inl (.inl h)
theorem sqT_of {K : PySem.W.Frag} {H : Hp} {a : Addr} {xs : List V} (h : H a = some (.tup xs)) : SqT K H a xs := .inl (.inl h)
/-- tuples stand as they stood -/
structure Tups (H H' : Hp) : Prop where
  tup : ∀ b xs, H b = some (.tup xs) → H' b = some (.tup xs)
  frz : ∀ b o u, H b = some (.frz o u) → H' b = some (.frz o u)
theorem Tups.refl (H : Hp) : Tups H H := ⟨fun _ _ h => h, fun _ _ _ h => h⟩
theorem Tups.trans {H H1 H2 : Hp} (a : Tups H H1) (b : Tups H1 H2) : Tups H H2 := ⟨fun c x h => b.tup c x (a.tup c x h), fun c o u h => b.frz c o u (a.frz c o u h)⟩
theorem Tups.of_same {H H' : Hp} (s : Same H H') : Tups H H' := ⟨fun b x h => s b _ h, fun b o u h => s b _ h⟩
theorem Tups.new {H : Hp} {p : Addr} {o : HO} (h : H p = none) : Tups H (upd H p o) := .of_same (same_new h)
theorem Tups.lst {H : Hp} {p : Addr} {o : HO} {xs : List V} (h : H p = some (.lst xs)) : Tups H (upd H p o) where
  tup := fun b x e => by
    rw [upd_ne (ne_of e h (by intro z; cases z))]
    exact e
  frz := fun b u x e => by
    rw [upd_ne (ne_of e h (by intro z; cases z))]
    exact e
theorem Tups.sq {K : PySem.W.Frag} {H H' : Hp} {a : Addr} {xs : List V} (t : Tups H H') (h : SqT K H a xs) : SqT K H' a xs := by
  rcases h with (h | ⟨o, h⟩) | h
  · exact .inl (.inl (t.tup _ _ h))
  · exact .inl (.inr ⟨o, t.frz _ _ _ h⟩)
  · exact .inr h

/-! ### data -/
mutual
theorem dp_same {K : PySem.W.Frag} {H H' : Hp} (s : Same H H') : ∀ {v : V} {d : PyData}, Dp K H v d → Dp K H' v d
  | _, _, .non => .non
  | _, _, .bl b => .bl b
  | _, _, .int i => .int i
  | _, _, .str x => .str x
  | _, _, .lst h a => .lst (s.seq h) (dps_same s a)
  | _, _, .tup h a => .tup (same_seqT s h) (dps_same s a)
theorem dps_same {K : PySem.W.Frag} {H H' : Hp} (s : Same H H') : ∀ {vs : List V} {ds : List PyData}, DpAll K H vs ds → DpAll K H' vs ds
  | _, _, .nil => .nil
  | _, _, .cons h t => .cons (dp_same s h) (dps_same s t)
end
theorem dps_len {K : PySem.W.Frag} {H : Hp} : ∀ {vs : List V} {ds : List PyData}, DpAll K H vs ds → vs.length = ds.length
  | _, _, .nil => rfl
  | _, _, .cons _ t => congrArg (· + 1) (dps_len t)
theorem dps_get {K : PySem.W.Frag} {H : Hp} : ∀ {vs : List V} {ds : List PyData} {i : Nat} {x : V}, DpAll K H vs ds → vs[i]? = some x → ∃ d, ds[i]? = some d ∧ Dp K H x d
  | _, _, _, _, .nil, e => by simp at e
  | _, _, 0, _, .cons h _, e => by
    have e : _ = _ := Option.some.inj e
    subst e
    exact ⟨_, rfl, h⟩
  | _, _, i + 1, x, .cons _ t, e => by
    obtain ⟨d, h1, h2⟩ := dps_get (i := i) (x := x) t (by simpa using e)
    exact ⟨d, by simpa using h1, h2⟩
theorem dps_snoc {K : PySem.W.Frag} {H : Hp} : ∀ {vs : List V} {ds : List PyData} {x : V} {d : PyData}, DpAll K H vs ds → Dp K H x d → DpAll K H (vs ++ [x]) (ds ++ [d])
  | _, _, _, _, .nil, h => .cons h .nil
  | _, _, _, _, .cons a t, h => .cons a (dps_snoc t h)
theorem dps_ints {K : PySem.W.Frag} {H : Hp} : ∀ ns : List Int, DpAll K H (ns.map V.int) (ns.map PyData.int)
  | [] => .nil
  | n :: r => .cons (.int n) (dps_ints r)
theorem dp_lst {K : PySem.W.Frag} {H : Hp} {a : Addr} {ns : List Int} (h : SqL K H a (ns.map V.int)) : Dp K H (.ref a) (.list (ns.map PyData.int)) := .lst h (dps_ints ns)

/-! ### types -/
theorem tyx_lst {K : PySem.W.Frag} {H : Hp} {a : Addr} {xs : List V} (h : SqL K H a xs) : TyX K H (.ref a) (.type "list") := by
  rcases h with (h | ⟨o, h⟩) | ⟨o, its, n, h, c, _⟩
  · exact .base (.lst h)
  · exact .base (.frz h)
  · exact .kList h c
theorem tyx_tup {K : PySem.W.Frag} {H : Hp} {a : Addr} {xs : List V} (h : SqT K H a xs) : TyX K H (.ref a) (.type "tuple") := by
  rcases h with (h | ⟨o, h⟩) | ⟨o, its, n, h, c, _⟩
  · exact .base (.tup h)
  · exact .fTuple h
  · exact .kTuple h c
theorem tyx_int {K : PySem.W.Frag} {H : Hp} {i : Int} : TyX K H (.int i) (.type "int") := .base (.int i)
theorem tyx_bl {K : PySem.W.Frag} {H : Hp} {b : Bool} : TyX K H (.bl b) (.type "bool") := .base (.bl b)
theorem tyx_str {K : PySem.W.Frag} {H : Hp} {x : Str} : TyX K H (.str x) (.type "str") := .base (.str x)
theorem tyx_non {K : PySem.W.Frag} {H : Hp} : TyX K H .non (.type "NoneType") := .base .non

/-! ### lists -/
theorem take_more {α : Type} {l : List α} {i : Nat} {x : α} (h : l[i]? = some x) : l.take (i + 1) = l.take i ++ [x] := by
  rw [List.take_add_one, h]
  rfl
theorem ints_at {ns : List Int} {i : Nat} {x : V} (h : (ns.map V.int)[i]? = some x) : ∃ n, ns[i]? = some n ∧ x = .int n := by
  rw [List.getElem?_map] at h
  cases e : ns[i]? with
  | none =>
    rw [e] at h
    cases h
  | some n =>
    rw [e] at h
    exact ⟨n, rfl, (Option.some.inj h).symm⟩
theorem at_int {ns : List Int} {i : Nat} {n : Int} (h : ns[i]? = some n) : (ns.map V.int)[i]? = some (.int n) := by
  rw [List.getElem?_map, h]
  rfl
theorem getD_of {ns : List Int} {i : Nat} {n : Int} (h : ns[i]? = some n) : ns.getD i 0 = n := by
  rw [List.getD_eq_getElem?_getD, h]
  rfl
theorem at_getD {ns : List Int} {i : Nat} (h : i < ns.length) : ns[i]? = some (ns.getD i 0) := by
  rw [List.getD_eq_getElem?_getD, List.getElem?_eq_getElem h]
  rfl
theorem lt_of_at {α : Type} {l : List α} {i : Nat} {x : α} (h : l[i]? = some x) : i < l.length := (List.getElem?_eq_some_iff.mp h).1
/-- xs[-1] -/
theorem atI_back {α : Type} {xs : List α} {v : α} (h : xs[xs.length - 1]? = some v) : atI xs (-1) = some v := by
  have h0 := lt_of_at h
  have e : xs = xs.take (xs.length - 1) ++ [v] := by
    have := take_more h
    rw [show xs.length - 1 + 1 = xs.length by omega, List.take_length] at this
    exact this
  rw [e]
  exact atI_last _ _

/-! ### a def of the text; the form in which it is called -/
structure DefT (K : PySem.W.Frag) (mg : Str → Option Value) (x : Str) (st : Stmt) (ps : List Str) : Prop where
  ex : ∃ (f : Addr) (fd : FuncData), L2.Fun K x x st f fd ∧ mg x = some (.ref f) ∧ Binds K fd ps []
section
variable {P : Program} {w : World} {K : PySem.W.Frag} {mg : Str → Option Value} {base : Heap}
theorem cal_of {x : Str} {st : Stmt} {N ps : List Str} {k : Nat} {sp : Sp} (D : DefT K mg x st ps) (S : FnScope N ps (defScope st)) (len : ∀ vs H Q E, sp vs H Q E → vs.length = ps.length)
    (hbody : ∀ (f : Addr) (cdv : Value) (A : Around) (outer : List Env) (s : Shared) (H : Hp) (vs : List V) (Q : VK) (E : XK), Room k (A.deeper (envOfC x (defScope st) s.heap.objs.size f cdv)) → sp vs H Q E →
      ∃ t, PSs (cxOf CX0 P w K mg base N x (defScope st) f cdv A outer s H E).nox (defBody st) t ∧ t { nx := fun _ H' => Q .non H', rt := Q } (start N vs) H) : C8.Cal P w K mg base (k + 1) x sp [] := by
  obtain ⟨f, fd, F, hm, b⟩ := D.ex
  exact ⟨f, fd, ps, [], F.ok S len (hbody f), hm, F.kp, b, .nil⟩
theorem cal_mono {j k : Nat} {x : Str} {sp : Sp} {dvs : List V} (c : C8.Cal P w K mg base j x sp dvs) (h : j ≤ k) : C8.Cal P w K mg base k x sp dvs := by
  obtain ⟨f, fd, ps, ds, F, r⟩ := c.ex
  exact ⟨f, fd, ps, ds, F.mono h, r⟩
theorem cal_imp {k : Nat} {x : Str} {sp sp' : Sp} {dvs : List V} (c : C8.Cal P w K mg base k x sp dvs) (h : ∀ vs H Q E, sp' vs H Q E → sp vs H Q E) : C8.Cal P w K mg base k x sp' dvs := by
  obtain ⟨f, fd, ps, ds, F, r⟩ := c.ex
  exact ⟨f, fd, ps, ds, F.imp h, r⟩
end
end Au

namespace Au
open PySem PySem.Spec PyProof.Rows L2
section
variable {X : Cx} {e o : Expr} {te to : TE} {p p2 pos pos2 apos : Pos}
/-- isinstance(e, T), T a built-in class -/
theorem pe_isi {n : Str} {T : String} (h1 : X.mg "isinstance" = none) (h2 : X.mg n = none) (hb : bootBuiltins n = some (.type T)) (he : PE X e te) (hg1 : Gl X "isinstance" := by rfl) (hg2 : Gl X n := by rfl)
    (hn : n ≠ "__name__" := by decide) (hdb : (n == ("__debug__" : Str)) = false := by decide)
    (hst : starEach [e, .Name n p2] X.env = (false, eval e X.env) :: starEach [.Name n p2] X.env := by rfl)
    (hst2 : starEach [.Name n p2] X.env = [(false, eval (.Name n p2) X.env)] := by rfl) (hpl : (backTo pos (starEach [.Name n p2] X.env)).any (·.1) = false := by rfl) :
    PE X (.Call (.Name "isinstance" p) [e, .Name n p2] [] pos) (tCB (rIsi X.K) (tCons te (tCons (tC (.ty T)) tNil))) :=
  pe_callB call_isi hg1 h1 (by decide +kernel) (pa_cons he (pa_cons (pe_bltn (v := .ty T) hg2 h2 hb rfl hn hdb) pa_nil hst2) hst) (by decide) (by decide) hst hpl
theorem isi_ok {K : PySem.W.Frag} {x : V} {H : Hp} {Q : VK} {t T : String} {b : Bool} (ty : TyX K H x (.type t)) (h : kitB t T = some b) (q : Q (.bl b) H) : rIsi K [x, .ty T] H Q :=
  ⟨x, .ty T, .type t, .type T, b, rfl, .ty T, ty, kit_ty h, q⟩
/-- o.append(e), alone -/
theorem ps_app (ho : PE X o to) (he : PE X e te) (hbase : attributeBase o "append" X.env (eval o X.env) = eval o X.env := by rfl)
    (hfew : ((backTo pos (starEach (e :: []) X.env)).all (fun x => !x.1) && (backToKw pos (keywordEach [] X.env)).all (fun x => x.1.isSome)
      && decide ((e :: []).length + ([] : List Keyword).length + (if ([] : List Keyword).isEmpty then 0 else 1) < 30)) = true := by rfl)
    (hline : (apos.endLine == pos.line) = true := by rfl) (hst : starEach (e :: []) X.env = (false, eval e X.env) :: starEach [] X.env := by rfl)
    (hpl : (backTo pos (starEach [] X.env)).any (·.1) = false := by rfl) :
    L2.PS X (.Expr (.Call (.Attribute o "append" apos) [e] [] pos) pos2) (tDrop (tBM X.K "list" rAppend to (tCons te tNil))) :=
  ps_expr (pe_bm PySem.F.plainAttrs_list PySem.F.slot_list_append PySem.F.type_list_append mt_append ho (pa_cons he pa_nil hst) hbase hfew hline hst hpl)
theorem app_ok {l : Addr} {xs : List V} {y : V} {H : Hp} {Q : VK} (h : H l = some (.lst xs)) (n : xs.length < sizeLine) (q : Q .non (upd H l (.lst (xs ++ [y])))) : rAppend (.ref l) [y] H Q :=
  ⟨l, xs, y, rfl, rfl, h, n, q⟩
theorem cut_drop1 (xs : List V) : cutV xs (some 1) none = xs.drop 1 := by
  have e : cutV xs (some 1) none = (xs.drop (min 1 xs.length)).take (xs.length - min 1 xs.length) := by
    unfold cutV
    rw [show HT.sIx xs.length 0 (some 1) = min 1 xs.length from HT.sIx_nat xs.length 0 1, HT.sIx_none]
  rw [e]
  cases xs with
  | nil => rfl
  | cons x r =>
    have h1 : min 1 (x :: r).length = 1 := by
      rw [List.length_cons]
      omega
    rw [h1]
    show List.take ((x :: r).length - 1) r = r
    exact List.take_of_length_le (by rw [List.length_cons]; omega)
/-- t[1:] -/
theorem slA_drop1 {K : PySem.W.Frag} {H : Hp} {a : Addr} {xs : List V} {Q : VK} (h : SqT K H a xs) (q : ∀ b H2, Same H H2 → SqT K H2 b (xs.drop 1) → Q (.ref b) H2) : rSlA K (.ref a) (some 1) none H Q := by
  refine ⟨a, xs, rfl, h, fun hw => ?_, fun hw p hp => ?_⟩
  · refine q a H (Same.refl H) ?_
    have e : xs = [] := by
      have h0 := hw.1
      rw [show HT.sIx xs.length 0 (some 1) = min 1 xs.length from HT.sIx_nat xs.length 0 1] at h0
      cases xs with
      | nil => rfl
      | cons x r =>
        rw [List.length_cons] at h0
        omega
    subst e
    exact h
  · refine q p _ (same_new hp) (sqT_of ?_)
    rw [upd_same, cut_drop1]
/-- t[1:], whatever the tuple -/
def rTail (K : PySem.W.Frag) : V → Option Int → Option Int → Hp → VK → Prop := fun x lo hi H Q => ∃ (a : Addr) (xs : List V), x = .ref a ∧ lo = some 1 ∧ hi = none ∧ SqT K H a xs ∧ ∀ b H2, Same H H2 → SqT K H2 b (xs.drop 1) → Q (.ref b) H2
theorem sl_tail : SlR X (rTail X.K) := by
  intro pins s σ H x v vl vu lo hi sl Q I rx hs pl pu h
  obtain ⟨a, xs, rfl, rfl, rfl, h1, q⟩ := h
  exact sl_tupA pins s σ H _ v vl vu _ _ sl Q I rx hs pl pu (slA_drop1 h1 q)
end
end Au
set_option maxHeartbeats 2000000
/-! The rules that name the written part, for use within a comprehension's block: it is told by its own name. -/
namespace Au
open PySem PySem.Spec PyProof.Rows L2
section
variable {X : Cx} {K : PySem.W.Frag}
theorem ix_tupK (h : X.K = K) : IxR X (rIxT K) := by
  subst h
  exact ix_tup
theorem ix_listK (h : X.K = K) : IxR X (rIxL K) := by
  subst h
  exact ix_list
theorem len_seqK (h : X.K = K) : CallR X (.builtin "len") (fun xs H Q => ∃ p ys, xs = [.ref p] ∧ (SqL K H p ys ∨ SqT K H p ys) ∧ Q (.int ys.length) H) := by
  subst h
  exact call_len_seq
theorem allK (h : X.K = K) (hc : X.calm = true) : CallR X (.builtin "all") (rAll K) := by
  subst h
  exact cr_all hc
theorem eqDK (h : X.K = K) (hu : X.A.units + 64 < cLine) : OpR X (compareOp .Eq) (rEqD K) := by
  subst h
  exact op_eqD hu
theorem neDK (h : X.K = K) (hu : X.A.units + 64 < cLine) : OpR X (compareOp .NotEq) (rNeD K) := by
  subst h
  exact op_neD hu
theorem inDK (h : X.K = K) (hu : X.A.units + 65 < cLine) : OpR X (compareOp .In) (rInD K) := by
  subst h
  exact op_inD hu
theorem units65 {k : Nat} {A : Around} (r : Room k A) : A.units + 65 < cLine := by
  have := r.un
  omega
theorem pi_tupK {tg l : Expr} {tl : TE} (h : X.K = K) (hl : PE X l tl) : PI X tg l (iTup K tl) := by
  subst h
  exact pi_tup hl
theorem pi_listK {tg l : Expr} {tl : TE} (h : X.K = K) (hl : PE X l tl) : PI X tg l (iList K tl) := by
  subst h
  exact pi_list hl
theorem pi_enTK {e : Expr} {ta : TA} {p pos tpos : Pos} {elts : List Expr} {kk : Nat} (h : X.K = K) (hg : Gl X "enumerate") (hm : X.mg "enumerate" = none) (ha : PA X [e] ta)
    (hst : starEach [e] X.env = [(false, eval e X.env)] := by rfl) : PI X (.Tuple elts kk tpos) (.Call (.Name "enumerate" p) [e] [] pos) (iEnT K ta) := by
  subst h
  exact pi_enT hg hm ha hst
theorem pe_isiK {e : Expr} {te : TE} {p p2 pos : Pos} {n : Str} {T : String} (h : X.K = K) (h1 : X.mg "isinstance" = none) (h2 : X.mg n = none) (hb : bootBuiltins n = some (.type T)) (he : PE X e te) (hg1 : Gl X "isinstance" := by rfl) (hg2 : Gl X n := by rfl)
    (hn : n ≠ "__name__" := by decide) (hdb : (n == ("__debug__" : Str)) = false := by decide)
    (hst : starEach [e, .Name n p2] X.env = (false, eval e X.env) :: starEach [.Name n p2] X.env := by rfl)
    (hst2 : starEach [.Name n p2] X.env = [(false, eval (.Name n p2) X.env)] := by rfl) (hpl : (backTo pos (starEach [.Name n p2] X.env)).any (·.1) = false := by rfl) :
    PE X (.Call (.Name "isinstance" p) [e, .Name n p2] [] pos) (tCB (rIsi K) (tCons te (tCons (tC (.ty T)) tNil))) := by
  subst h
  exact pe_isi h1 h2 hb he hg1 hg2 hn hdb hst hst2 hpl
end
/-- the scope of a comprehension -/
def lcSc : Expr → Scope
  | .ListComp _ _ sc _ => sc
  | _ => { kind := .function, names := [], isGenerator := false, isCoroutine := false }
/-- the expression that a statement returns or stores -/
def stE : Stmt → Expr
  | .Return (some e) _ => e
  | .Assign _ e _ => e
  | _ => .Name "" ⟨0, 0, 0, 0⟩
/-- .. as a block within it finds it -/
def outSc (st : Stmt) (e : Expr) : Scope := relabel (lcSc e) { scope := defScope st, locals := 0, globals := 0, cells := [] }
end Au
/-! The mathematics of the saves: a log played edit by edit; what is open at a time; plain Lean. -/
namespace Au

/-- how many edits are unsaved; the saves so far (true: by the pause, false: by the count) -/
structure PS where
  u : Nat
  done : List (Int × Bool)

/-- ahead of an edit at t, prev the edit before: the pause -/
def idleS (d prev t : Int) (s : PS) : PS := if 0 < s.u ∧ d ≤ t - prev then ⟨0, s.done ++ [(prev + d, true)]⟩ else s
/-- the edit itself -/
def cntS (c t : Int) (s : PS) : PS := if ((s.u + 1 : Nat) : Int) = c then ⟨0, s.done ++ [(t, false)]⟩ else ⟨s.u + 1, s.done⟩
def run (c d : Int) (ns : List Int) : Nat → PS
  | 0 => ⟨0, []⟩
  | i + 1 => cntS c (ns.getD i 0) (idleS d (ns.getD (i - 1) 0) (ns.getD i 0) (run c d ns i))
def rowsOf (c d : Int) (ns : List Int) (n : Nat) : List Nat := (List.range n).map fun i => (run c d ns (i + 1)).u
def fin (c d : Int) (ns : List Int) : List (Int × Bool) :=
  if 0 < (run c d ns ns.length).u then (run c d ns ns.length).done ++ [(ns.getD (ns.length - 1) 0 + d, true)] else (run c d ns ns.length).done

theorem idle_u {d p t : Int} {s : PS} : (idleS d p t s).u ≤ s.u := by
  unfold idleS
  split
  · exact Nat.zero_le _
  · exact Nat.le_refl _
theorem cnt_u {c t : Int} {s : PS} : (cntS c t s).u ≤ s.u + 1 := by
  unfold cntS
  split
  · exact Nat.zero_le _
  · exact Nat.le_refl _
theorem cnt_lt {c t : Int} {s : PS} (h1 : 1 ≤ c) (h : (s.u : Int) < c) : ((cntS c t s).u : Int) < c := by
  unfold cntS
  split
  · show ((0 : Nat) : Int) < c
    omega
  · rename_i hn
    show ((s.u + 1 : Nat) : Int) < c
    omega
theorem idle_lt {c d p t : Int} {s : PS} (h : (s.u : Int) < c) : ((idleS d p t s).u : Int) < c := by
  have := @idle_u d p t s
  omega
theorem run_lt {c d : Int} {ns : List Int} (h1 : 1 ≤ c) : ∀ i, ((run c d ns i).u : Int) < c
  | 0 => by
    show ((0 : Nat) : Int) < c
    omega
  | i + 1 => cnt_lt h1 (idle_lt (run_lt h1 i))
theorem run_le {c d : Int} {ns : List Int} : ∀ i, (run c d ns i).u ≤ i
  | 0 => Nat.le_refl _
  | i + 1 => Nat.le_trans cnt_u (Nat.succ_le_succ (Nat.le_trans idle_u (run_le i)))
theorem idle_len {d p t : Int} {s : PS} : (idleS d p t s).done.length ≤ s.done.length + 1 := by
  unfold idleS
  split
  · simp
  · exact Nat.le_succ _
theorem cnt_len {c t : Int} {s : PS} : (cntS c t s).done.length ≤ s.done.length + 1 := by
  unfold cntS
  split
  · simp
  · exact Nat.le_succ _
theorem run_len {c d : Int} {ns : List Int} : ∀ i, (run c d ns i).done.length ≤ 2 * i
  | 0 => Nat.le_refl _
  | i + 1 => by
    have h := run_len (c := c) (d := d) (ns := ns) i
    have h1 := @idle_len d (ns.getD (i - 1) 0) (ns.getD i 0) (run c d ns i)
    have h2 := @cnt_len c (ns.getD i 0) (idleS d (ns.getD (i - 1) 0) (ns.getD i 0) (run c d ns i))
    show (cntS c (ns.getD i 0) (idleS d (ns.getD (i - 1) 0) (ns.getD i 0) (run c d ns i))).done.length ≤ 2 * (i + 1)
    omega
theorem fin_len {c d : Int} {ns : List Int} : (fin c d ns).length ≤ 2 * ns.length + 1 := by
  have h := run_len (c := c) (d := d) (ns := ns) ns.length
  unfold fin
  split
  · simp; omega
  · omega
theorem rows_len {c d : Int} {ns : List Int} {n : Nat} : (rowsOf c d ns n).length = n := by
  unfold rowsOf
  simp
theorem rows_more {c d : Int} {ns : List Int} {n : Nat} : rowsOf c d ns (n + 1) = rowsOf c d ns n ++ [(run c d ns (n + 1)).u] := by
  unfold rowsOf
  rw [List.range_succ, List.map_append]
  rfl
theorem rows_last {c d : Int} {ns : List Int} {n : Nat} : (rowsOf c d ns (n + 1))[n]? = some (run c d ns (n + 1)).u := by
  rw [rows_more, List.getElem?_append_right (by rw [rows_len]; exact Nat.le_refl _), rows_len, Nat.sub_self]
  rfl

/-! ### the indices that wait -/
def wait (i u : Nat) : List Int := (List.range' (i - u) u).map fun n : Nat => (n : Int)
theorem wait_zero (i : Nat) : wait i 0 = [] := rfl
theorem wait_len (i u : Nat) : (wait i u).length = u := by
  unfold wait
  simp
theorem wait_more {i u : Nat} (h : u ≤ i) : wait (i + 1) (u + 1) = wait i u ++ [(i : Int)] := by
  unfold wait
  rw [show i + 1 - (u + 1) = i - u by omega, List.range'_concat, List.map_append]
  show _ = _ ++ [(i : Int)]
  rw [show i - u + 1 * u = i by omega]
  rfl
theorem wait_last {i u : Nat} (h : u ≤ i) (h0 : 0 < u) : (wait i u)[u - 1]? = some ((i - 1 : Nat) : Int) := by
  unfold wait
  rw [List.getElem?_map, List.getElem?_range' (by omega)]
  show some (((i - u + 1 * (u - 1) : Nat)) : Int) = _
  rw [show i - u + 1 * (u - 1) = i - 1 by omega]
/-- the rows of the law: lists of indices -/
def waits (c d : Int) (ns : List Int) (n : Nat) : List (List Int) := (List.range n).map fun i => wait (i + 1) (run c d ns (i + 1)).u
theorem waits_len {c d : Int} {ns : List Int} {n : Nat} : (waits c d ns n).length = n := by
  unfold waits
  simp
theorem waits_more {c d : Int} {ns : List Int} {n : Nat} : waits c d ns (n + 1) = waits c d ns n ++ [wait (n + 1) (run c d ns (n + 1)).u] := by
  unfold waits
  rw [List.range_succ, List.map_append]
  rfl
theorem waits_last {c d : Int} {ns : List Int} {n : Nat} : (waits c d ns (n + 1))[n]? = some (wait (n + 1) (run c d ns (n + 1)).u) := by
  rw [waits_more, List.getElem?_append_right (by rw [waits_len]; exact Nat.le_refl _), waits_len, Nat.sub_self]
  rfl

/-! ### at a time -/
def part (ns : List Int) (t : Int) : List Int := ns.filter fun m => decide (m ≤ t)
theorem part_le {ns : List Int} {t : Int} : (part ns t).length ≤ ns.length := List.length_filter_le _ _
/-- unsaved edits at a time -/
def uAt (c d : Int) (ns : List Int) (t : Int) : Nat :=
  if part ns t = [] then 0 else if d ≤ t - (part ns t).getD ((part ns t).length - 1) 0 then 0 else (run c d (part ns t) (part ns t).length).u
theorem uAt_le {c d : Int} {ns : List Int} {t : Int} : uAt c d ns t ≤ (part ns t).length := by
  unfold uAt
  split
  · exact Nat.zero_le _
  · split
    · exact Nat.zero_le _
    · exact run_le _
/-- the edits that a crash loses -/
def lostAt (c d : Int) (ns : List Int) (t : Int) : List Int := wait (part ns t).length (uAt c d ns t)
theorem lostAt_len {c d : Int} {ns : List Int} {t : Int} : (lostAt c d ns t).length = uAt c d ns t := wait_len _ _
/-- saves up to a time -/
def upTo (c d : Int) (ns : List Int) (t : Int) : List (Int × Bool) := (fin c d ns).filter fun p => decide (p.1 ≤ t)
theorem upTo_len {c d : Int} {ns : List Int} {t : Int} : (upTo c d ns t).length ≤ 2 * ns.length + 1 := Nat.le_trans (List.length_filter_le _ _) fin_len

/-! ### logs -/
structure LogOk (ns : List Int) : Prop where
  len : ns.length ≤ 60
  rng : ∀ n ∈ ns, 0 ≤ n ∧ n ≤ 1000000
  up : ∀ i, i + 1 < ns.length → ns.getD i 0 ≤ ns.getD (i + 1) 0
end Au
set_option maxHeartbeats 2000000
/-! Data of known depth, for == and !=. -/
namespace Au
open PySem PySem.Spec PyProof.Rows L2
def Sh (n : Nat) (d : PyData) : Prop := d.canLay0 = true ∧ d.depth ≤ n
theorem Sh.mono {n m : Nat} {d : PyData} (h : Sh n d) (l : n ≤ m) : Sh m d := ⟨h.1, Nat.le_trans h.2 l⟩
theorem sh_all {n : Nat} : ∀ {ds : List PyData}, (∀ d ∈ ds, Sh n d) → PyData.canLayAll0 ds = true ∧ PyData.depthAll ds ≤ n
  | [], _ => ⟨rfl, Nat.zero_le _⟩
  | d :: r, h => by
    obtain ⟨h1, h2⟩ := h d List.mem_cons_self
    obtain ⟨h3, h4⟩ := sh_all (ds := r) fun x hx => h x (List.mem_cons_of_mem _ hx)
    refine ⟨?_, ?_⟩
    · show (d.canLay0 && PyData.canLayAll0 r) = true
      rw [h1, h3]
      rfl
    · show max d.depth (PyData.depthAll r) ≤ n
      exact Nat.max_le.mpr ⟨h2, h4⟩
theorem sh_list {n : Nat} {ds : List PyData} (h : ∀ d ∈ ds, Sh n d) : Sh (n + 1) (.list ds) := ⟨(sh_all h).1, Nat.succ_le_succ (sh_all h).2⟩
theorem sh_tup {n : Nat} {ds : List PyData} (h : ∀ d ∈ ds, Sh n d) : Sh (n + 1) (.tuple ds) := ⟨(sh_all h).1, Nat.succ_le_succ (sh_all h).2⟩
theorem sh_int (i : Int) : Sh 0 (.int i) := ⟨rfl, Nat.le_refl _⟩
theorem sh_str {x : Str} (h : (PyData.str x).canLay0 = true) : Sh 0 (.str x) := ⟨h, Nat.le_refl _⟩
theorem sh_ints (ns : List Int) : Sh 1 (.list (ns.map PyData.int)) := sh_list fun d hd => by
  obtain ⟨i, _, e⟩ := List.mem_map.mp hd
  subst e
  exact sh_int i
theorem sh_intsT (ns : List Int) : Sh 1 (.tuple (ns.map PyData.int)) := sh_tup fun d hd => by
  obtain ⟨i, _, e⟩ := List.mem_map.mp hd
  subst e
  exact sh_int i
theorem shaped_of {n : Nat} {d : PyData} (h : Sh n d) (l : n ≤ 64 := by decide) : SeqAt.shaped d = true := by
  show (d.canLay0 && decide (d.depth ≤ 64)) = true
  rw [h.1, decide_eq_true (Nat.le_trans h.2 l)]
  rfl
theorem eqv_self {n : Nat} {d : PyData} (h : Sh n d) : PyData.eqv d d = true := SeqAt.eqv_refl d h.1
theorem eqv_nilL (ds : List PyData) : PyData.eqv (.list ds) (.list []) = ds.isEmpty := by
  cases ds with
  | nil => simp [PyData.eqv, PyData.eqvAll]
  | cons d r => simp [PyData.eqv, PyData.eqvAll]
theorem eqv_nilT (ds : List PyData) : PyData.eqv (.tuple ds) (.tuple []) = ds.isEmpty := by
  cases ds with
  | nil => simp [PyData.eqv, PyData.eqvAll]
  | cons d r => simp [PyData.eqv, PyData.eqvAll]
theorem sh_nilL : Sh 1 (.list []) := sh_list fun _ h => absurd h List.not_mem_nil
theorem sh_nilT : Sh 1 (.tuple []) := sh_tup fun _ h => absurd h List.not_mem_nil
theorem dp_nilL {K : PySem.W.Frag} {H : Hp} {a : Addr} (h : H a = some (.lst [])) : Dp K H (.ref a) (.list []) := .lst (sqL_of h) .nil
theorem dp_nilT {K : PySem.W.Frag} {H : Hp} {a : Addr} (h : H a = some (.tup [])) : Dp K H (.ref a) (.tuple []) := .tup (sqT_of h) .nil
/-- xs == [] -/
theorem eqL_nil {K : PySem.W.Frag} {H : Hp} {a b : Addr} {ns : List Int} {Q : VK} (h : SqL K H a (ns.map V.int)) (hb : H b = some (.lst [])) (q : Q (.bl ns.isEmpty) H) : rEqD K (.ref a) (.ref b) H Q :=
  ⟨_, _, dp_lst h, dp_nilL hb, shaped_of (sh_ints ns), shaped_of sh_nilL, by rw [eqv_nilL, List.isEmpty_map]; exact q⟩
theorem neL_nil {K : PySem.W.Frag} {H : Hp} {a b : Addr} {ns : List Int} {Q : VK} (h : SqL K H a (ns.map V.int)) (hb : H b = some (.lst [])) (q : Q (.bl (!ns.isEmpty)) H) : rNeD K (.ref a) (.ref b) H Q :=
  ⟨_, _, dp_lst h, dp_nilL hb, shaped_of (sh_ints ns), shaped_of sh_nilL, by rw [eqv_nilL, List.isEmpty_map]; exact q⟩
end Au
set_option maxHeartbeats 2000000
/-! Lambdas without parameters that outlive the def that made them: tracked as objects, with the cells they read. -/
namespace Au
open PySem PySem.Spec PyProof.Rows L2 LamX
/-- the cell at C holds x -/
def CellO (C : Addr) (x : V) : HO := .ext fun h => ∃ u, RelV x u ∧ h.IsCell C (some u)
/-- the object at f is ob -/
def ObjO (f : Addr) (ob : Obj) : HO := .ext fun h => h.get? f = some ob
/-- without the cells at cs; with them again -/
def hide (cs : List Addr) (H : Hp) : Hp := fun b => if b ∈ cs then none else H b
def back (cs : List Addr) (H H' : Hp) : Hp := fun b => if b ∈ cs then H b else H' b
theorem hide_in {cs : List Addr} {H : Hp} {b : Addr} (h : b ∈ cs) : hide cs H b = none := if_pos h
theorem hide_out {cs : List Addr} {H : Hp} {b : Addr} (h : b ∉ cs) : hide cs H b = H b := if_neg h
theorem back_in {cs : List Addr} {H H' : Hp} {b : Addr} (h : b ∈ cs) : back cs H H' b = H b := if_pos h
theorem back_out {cs : List Addr} {H H' : Hp} {b : Addr} (h : b ∉ cs) : back cs H H' b = H' b := if_neg h
section
variable {P : Program} {w : World} {H H' : Hp} {h h' : Heap} {cs : List Addr}
/-- every address at cs is a tracked cell -/
def AllCells (cs : List Addr) (H : Hp) : Prop := ∀ c ∈ cs, ∃ x, H c = some (CellO c x)
theorem AllCells.there (a : AllCells cs H) (k : HOk P w H h) {c : Addr} (hc : c ∈ cs) : ∃ o, h.get? c = some o := by
  obtain ⟨x, e⟩ := a c hc
  exact (k c _ e).2.1
theorem hide_ok (a : AllCells cs H) (k : HOk P w H h) : HOk P w (hide cs H) h := fun b o e => by
  by_cases hb : b ∈ cs
  · rw [hide_in hb] at e
    cases e
  · rw [hide_out hb] at e
    have nc : ∀ d v, H d = some v → (∀ x, v ≠ CellO d x) → d ∉ cs := fun d v e1 n m => by
      obtain ⟨x, e2⟩ := a d m
      rw [e1] at e2
      exact n x (Option.some.inj e2)
    refine (k b o e).stay (fun _ _ _ q => q) (fun d q => ?_) fun d xs q => ?_
    · rw [hide_out (nc d _ q fun x z => nomatch z)]
      exact q
    · rw [hide_out (nc d _ q fun x z => nomatch z)]
      exact q
/-- the cells stand in h' as they stood: tracked again -/
theorem back_ok (a : AllCells cs H) (k : HOk P w H h) (k' : HOk P w H' h') (hn : ∀ c ∈ cs, H' c = none) (keep : ∀ c ∈ cs, ∀ o, h.get? c = some o → h'.get? c = some o) : HOk P w (back cs H H') h' := fun b o e => by
  by_cases hb : b ∈ cs
  · rw [back_in hb] at e
    obtain ⟨x, e2⟩ := a b hb
    rw [e] at e2
    cases e2
    obtain ⟨p, ⟨ob, eo⟩, st⟩ := k b _ e
    exact ⟨st h h' p fun q => keep b hb q, ⟨ob, keep b hb ob eo⟩, st⟩
  · rw [back_out hb] at e
    have nc : ∀ d v, H' d = some v → d ∉ cs := fun d v e1 m => by
      rw [hn d m] at e1
      cases e1
    refine (k' b o e).stay (fun _ _ _ q => q) (fun d q => ?_) fun d xs q => ?_
    · rw [back_out (nc d _ q)]
      exact q
    · rw [back_out (nc d _ q)]
      exact q
theorem not_cell {c : Addr} {x : V} {o : HO} (a : AllCells cs H) (e : H c = some o) (n : ∀ x, o ≠ CellO c x) : c ∉ cs := fun m => by
  obtain ⟨x, e2⟩ := a c m
  rw [e] at e2
  exact n x (Option.some.inj e2)
theorem un_back {fs : List Addr} (a : AllCells cs H) (u : Un fs [] (hide cs H) H' h h') : Un fs [] H (back cs H H') h h' := by
  have out : ∀ b, H b = none → b ∉ cs := fun b n m => by
    obtain ⟨x, e⟩ := a b m
    rw [n] at e
    cases e
  have nc : ∀ d v, H d = some v → (∀ x, v ≠ CellO d x) → d ∉ cs := fun d v e1 n m => by
    obtain ⟨x, e2⟩ := a d m
    rw [e1] at e2
    exact n x (Option.some.inj e2)
  refine ⟨fun b o e n hb hx => u.keep b o e (by rw [hide_out (out b n)]; exact n) hb hx, fun b o e n hb hx => u.slot b o e (by rw [hide_out (out b n)]; exact n) hb hx, fun b o e n hx => ?_, u.there, fun b xs e => ?_, fun b o v e => ?_, fun b ps e => ?_⟩
  · rw [back_out (out b n)]
    exact u.free b o e (by rw [hide_out (out b n)]; exact n) hx
  · have m := nc b _ e fun x z => nomatch z
    rw [back_out m]
    exact u.tups b xs (by rw [hide_out m]; exact e)
  · have m := nc b _ e fun x z => nomatch z
    rw [back_out m]
    exact u.frzs b o v (by rw [hide_out m]; exact e)
  · have m := nc b _ e fun x z => nomatch z
    rw [back_out m]
    exact u.tbls b ps (by rw [hide_out m]; exact e)
theorem ub_back {fs : List Addr} {B : Heap} (a : AllCells cs H) (u : UB fs (hide cs H) H' h B h') : UB fs H (back cs H H') h B h' := by
  have out : ∀ b, H b = none → b ∉ cs := fun b n m => by
    obtain ⟨x, e⟩ := a b m
    rw [n] at e
    cases e
  have nc : ∀ d v, H d = some v → (∀ x, v ≠ CellO d x) → d ∉ cs := fun d v e1 n m => by
    obtain ⟨x, e2⟩ := a d m
    rw [e1] at e2
    exact n x (Option.some.inj e2)
  refine ⟨fun b o e n hb => u.keep b o e (by rw [hide_out (out b n)]; exact n) hb, u.slot, fun b o e n => ?_, u.there, fun b xs e => ?_, fun b o v e => ?_, fun b ps e => ?_⟩
  · rw [back_out (out b n)]
    exact u.free b o e (by rw [hide_out (out b n)]; exact n)
  · have m := nc b _ e fun x z => nomatch z
    rw [back_out m]
    exact u.tups b xs (by rw [hide_out m]; exact e)
  · have m := nc b _ e fun x z => nomatch z
    rw [back_out m]
    exact u.frzs b o v (by rw [hide_out m]; exact e)
  · have m := nc b _ e fun x z => nomatch z
    rw [back_out m]
    exact u.tbls b ps (by rw [hide_out m]; exact e)
end
/-! ### the lambda's names: captured ones and globals, no own -/
structure FreeS (scope : Scope) : Prop where
  kind : scope.kind = .function
  co : scope.isCoroutine = false
  gen : scope.isGenerator = false
  own : ∀ y ∈ scope.names, y.2 ≠ .local ∧ y.2 ≠ .cell
def freeSB (scope : Scope) : Bool := decide (scope.kind = .function) && !scope.isCoroutine && !scope.isGenerator && scope.names.all fun y => !decide (y.2 = .local) && !decide (y.2 = .cell)
theorem freeS_by {scope : Scope} (h : freeSB scope = true) : FreeS scope := by
  unfold freeSB at h
  simp only [Bool.and_eq_true, Bool.not_eq_true', decide_eq_true_eq, decide_eq_false_iff_not, List.all_eq_true] at h
  exact ⟨h.1.1.1, h.1.1.2, h.1.2, h.2⟩
/-- the context of the lambda's body, called at s from the frames outer -/
def cloCx (P : Program) (w : World) (K : PySem.W.Frag) (mg : Str → Option Value) (base : Heap) (N : List Str) (q : Str) (scope : Scope) (cl : List (Str × Addr)) (f c' : Addr) (A : Around) (outer : List Env) (s : Shared) (H : Hp) (E : XK) : Cx :=
  let env := PySem.W.envX q scope s.heap.objs.size f (.ref c') cl
  { prog := P, w := w, K := K, mg := mg, base := base, A := A.deeper env, N := N, s_0 := s, H_0 := H, env := env, outer := outer, stack := env :: outer, ex := [], fn := fun _ => false, calm := true, pn := [],
    xe := fun e s' => wpAny (model P w) (A.deeper env) (leaving env e) (fun _ s2 => L2N.CX P w outer H s E e s2) (fun e2 s2 => L2N.CX P w outer H s E e2 s2) s' }
/-- which slot each captured name's cell holds -/
structure Held (N : List Str) (scope : Scope) (cl : List (Str × Addr)) (σ : L2.St) (H : Hp) : Prop where
  nd : N.Nodup
  len : σ.length = N.length
  has : ∀ y, scope.names.lookup y = some .free → ∃ c, cl.lookup y = some c
  at_ : ∀ y c, cl.lookup y = some c → ∃ (i : Nat) (x : V), N[i]? = some y ∧ σ[i]? = some (some x) ∧ H c = some (CellO c x)
  inj : ∀ y z c, cl.lookup y = some c → cl.lookup z = some c → y = z
theorem nd_at {N : List Str} (nd : N.Nodup) {i j : Nat} {y : Str} (h1 : N[i]? = some y) (h2 : N[j]? = some y) : i = j := by
  obtain ⟨l1, e1⟩ := List.getElem?_eq_some_iff.mp h1
  obtain ⟨l2, e2⟩ := List.getElem?_eq_some_iff.mp h2
  exact (List.getElem_inj nd).mp (e1.trans e2.symm)
theorem lookup_in {cl : List (Str × Addr)} {y : Str} {c : Addr} (h : cl.lookup y = some c) : c ∈ cl.map (·.2) := List.mem_map.mpr ⟨(y, c), PySem.mem_of_lookup h, rfl⟩
section
variable {P : Program} {w : World} {K : PySem.W.Frag} {mg : Str → Option Value} {base : Heap} {A : Around} {outer : List Env} {s : Shared} {H : Hp} {N : List Str} {q : Str} {scope : Scope} {cl : List (Str × Addr)} {f c' : Addr} {σ : L2.St} {E : XK}
theorem clo_start {h₁ : Heap} {tk : Nat} (S : FreeS scope) (e0 : Env0 P w K mg base A outer s H) (hd : A.handled = none) (D : Held N scope cl σ H) (hc : AllCells (cl.map (·.2)) H)
    (hns : h₁.Ns s.heap.objs.size fun y => ([] : List (Str × Value)).reverse.lookup y) (kp : ∀ b o, s.heap.get? b = some o → h₁.get? b = some o) :
    Inv (cloCx P w K mg base N q scope cl f c' A outer s (hide (cl.map (·.2)) H) E) [] σ (hide (cl.map (·.2)) H) { s with heap := h₁, toks := tk } := by
  have okH := hide_ok hc e0.hok
  have cellAt : ∀ {y c}, cl.lookup y = some c → ∃ (i : Nat) (x : V) (u : Value), N[i]? = some y ∧ σ[i]? = some (some x) ∧ RelV x u ∧ h₁.IsCell c (some u) := fun {y c} e => by
    obtain ⟨i, x, h1, h2, h3⟩ := D.at_ y c e
    obtain ⟨⟨u, r, o, ho, hd⟩, _, _⟩ := e0.hok c _ h3
    exact ⟨i, x, u, h1, h2, r, o, kp c o ho, hd⟩
  have free : ∀ {y}, Vis scope y → scope.names.lookup y = some .free := fun {y} v => by
    rcases v with v | v | v
    · exact absurd rfl (S.own _ (PySem.mem_of_lookup v)).1
    · exact absurd rfl (S.own _ (PySem.mem_of_lookup v)).2
    · exact v
  refine ⟨⟨e0.mod, S.kind, rfl, rfl, Nat.le_refl _, D.inj, fun y hy => ?_, fun y c z _ => ?_, fun _ => hd, Around.frames_deeper e0.frames, .inr ⟨rfl, rfl⟩, (fun b z => nomatch z), fun b o e => ⟨(e0.bs b o e).1, ?_⟩, e0.bsz, (fun b _ _ z => nomatch z), (fun b z => nomatch z), e0.funs, fun b hb => ?_⟩,
    rfl, e0.bare, Un.kept kp, ⟨_, hns, fun i y v h1 h2 h3 => ?_⟩, fun y c e => ?_, okH.fresh (Nat.le_refl _), fun y c e => hide_in (lookup_in e), (fun p hp => nomatch hp), okH.kept kp, D.len⟩
  · have hy : scope.names.lookup y = some .cell ∨ scope.names.lookup y = some .free := hy
    rcases hy with hy | hy
    · exact absurd rfl (S.own _ (PySem.mem_of_lookup hy)).2
    · exact D.has y hy
  · have z : false = true := z
    cases z
  · have n := (e0.bs b o e).2
    by_cases m : b ∈ cl.map (·.2)
    · exact hide_in m
    · exact (hide_out m).trans n
  · have n := e0.frf b hb
    by_cases m : b ∈ cl.map (·.2)
    · exact hide_in m
    · exact (hide_out m).trans n
  · have fr := free h3
    obtain ⟨c, hcl⟩ := D.has y fr
    obtain ⟨j, x, u, g1, g2, r, ic⟩ := cellAt hcl
    have e := nd_at D.nd g1 h1
    subst e
    rw [h2] at g2
    cases g2
    exact ⟨u, r, .inr ⟨.inr fr, c, hcl, ic⟩⟩
  · obtain ⟨_, _, u, _, _, _, ic⟩ := cellAt e
    exact ⟨some u, ic⟩
/-- THE CALL of a lambda that is tracked -/
theorem clo_run {params : Arguments} {body : Expr} {pm ctv : Value} {k : Nat} {t : XK → TE} {Q : VK} (hr : Room (k + 1) A) (e0 : Env0 P w K mg base A outer s H) (S : FreeS scope) (D : Held N scope cl σ H) (hc : AllCells (cl.map (·.2)) H)
    (hf : H f = some (ObjO f (PySem.W.kla_obj "<lambda>" q params body scope cl pm c' ctv))) (hco : H c' = some (CodeO c' q))
    (hbind : bindArgs (PySem.W.kla_fn "<lambda>" q params body scope cl pm (.ref c') ctv) ⟨[], []⟩ = pure [])
    (hbody : ∀ (A : Around) (outer : List Env) (s : Shared) (H : Hp) (E : XK), Room k (A.deeper (PySem.W.envX q scope s.heap.objs.size f (.ref c') cl)) → PE (cloCx P w K mg base N q scope cl f c' A outer s H E) body (t E))
    (ht : t (fun cls d H' => E cls d (back (cl.map (·.2)) H H')) σ (hide (cl.map (·.2)) H) fun v H' => Q v (back (cl.map (·.2)) H H')) :
    codeAny (model P w) A (.call (.ref f) ⟨[], []⟩) (CR (L2N.CX P w) outer P w H s Q E) s := by
  obtain ⟨of1, _, _⟩ := e0.hok f _ hf
  have of1 : s.heap.get? f = some (PySem.W.kla_obj "<lambda>" q params body scope cl pm c' ctv) := of1
  obtain ⟨⟨oc, vs, tk0, hoc, hdc, hvc⟩, _, _⟩ := e0.hok c' _ hco
  have lim : s.heap.NoLimit := e0.mod.nolimit.keeps fun b o e => (e0.bs b o e).1
  have inCs : ∀ c ∈ cl.map (·.2), c ∉ frs outer := fun c m hb => by
    obtain ⟨x, e⟩ := hc c m
    rw [e0.frf c hb] at e
    cases e
  refine PySem.W.kla_callFunE hr.depth of1 rfl S.co S.gen rfl ⟨c', oc, vs, tk0, rfl, hoc, hdc, hvc⟩ ?_
  rw [hbind]
  refine wpAny_pure (wpAny_newFunctionEnv (fun y hy => (S.own y hy).2) (fun y hy => nomatch hy) (fun h₁ hns hsb => ⟨lim.fresh _ hsb, ?_⟩) S.kind)
  show codeAny _ _ (.expr body (PySem.W.envX q scope s.heap.objs.size f (.ref c') cl)) _ _
  have kp : ∀ b o, s.heap.get? b = some o → h₁.get? b = some o := fun b o e => hsb.extBut b o (Nat.ne_of_lt (Heap.lt_size e)) (Heap.get?_push_of_some _ e)
  have J := clo_start (q := q) (f := f) (c' := c') (E := fun cls d H' => E cls d (back (cl.map (·.2)) H H')) (tk := s.toks + ([] : List (Str × Value)).length) S e0 hr.hd D hc hns kp
  have endX : ∀ e s', L2N.CX P w outer (hide (cl.map (·.2)) H) s (fun cls d H' => E cls d (back (cl.map (·.2)) H H')) e s' → L2N.CX P w outer H s E e s' := by
    rintro e s' ⟨a, B, H', cls, d, rfl, fl, hB, ub, na, os, bare, z⟩
    refine ⟨a, B, back (cl.map (·.2)) H H', cls, d, rfl, fl, back_ok hc e0.hok hB (fun c m => ?_) (fun c m o eo => ub.keep c o eo (hide_in m) (inCs c m)), ub_back hc ub, ?_, os, bare, z⟩
    · obtain ⟨o, eo⟩ := hc.there e0.hok m
      exact ub.free c o eo (hide_in m)
    · by_cases m : a ∈ cl.map (·.2)
      · obtain ⟨o, eo⟩ := hc.there e0.hok m
        have z1 := ub.keep a o eo (hide_in m) (inCs a m)
        rw [fl.2.1] at z1
        cases z1
      · rw [back_out m]
        exact na
  refine PySem.W.kla_codeExpr (wpAny_mono ((hbody A outer s _ _ (hr.deeper _)).run [] _ σ _ _ J ht) (fun v s' hq => ?_) fun e s' hq => ?_)
  · obtain ⟨x, H', J', rv, z⟩ := hq
    have un : Un (frs outer) [] (hide (cl.map (·.2)) H) H' s.heap s'.heap := J'.base
    refine ⟨x, back (cl.map (·.2)) H H', J'.os, J'.bare, un_back hc un, back_ok hc e0.hok J'.hok (fun c m => ?_) (fun c m o eo => un.keep c o eo (hide_in m) (inCs c m) (fun z => nomatch z)), rv, z⟩
    obtain ⟨o, eo⟩ := hc.there e0.hok m
    exact un.free c o eo (hide_in m) fun z => nomatch z
  · exact wpAny_mono hq (fun _ s2 z => endX e s2 z) fun e2 s2 z => endX e2 s2 z
end
end Au
namespace Au
open PySem PySem.Spec PyProof.Rows L2 LamX
/-- f, called without arguments, gives what Q says or raises what E says -/
structure CloOk (P : Program) (w : World) (K : PySem.W.Frag) (mg : Str → Option Value) (base : Heap) (k : Nat) (f : Addr) (H : Hp) (Q : VK) (E : XK) : Prop where
  ob : ∃ fd, H f = some (ObjO f { cls := .type "function", data := .func fd })
  run : ∀ (A : Around) (outer : List Env) (s : Shared), Room k A → Env0 P w K mg base A outer s H → codeAny (model P w) A (.call (.ref f) ⟨[], []⟩) (CR (L2N.CX P w) outer P w H s Q E) s
/-- x(), x a name of the def that holds such an f; what it raises is wished for at W -/
def tClo (P : Program) (w : World) (K : PySem.W.Frag) (mg : Str → Option Value) (base : Heap) (k i : Nat) (W : WX) : TE := fun σ H Q => ∃ (f : Addr) (E : XK), σ[i]? = some (some (.ref f)) ∧ (∀ cls d H', E cls d H' → W cls d σ H') ∧ CloOk P w K mg base k f H Q E
section
variable {X : Cx} {W : WX} {k i : Nat} {x : Str} {p pos : Pos}
theorem pe_clo (tk : L2N.Takes X W) (hr : Room k X.A) (hN : X.N[i]? = some x) (hv : Vis X.env.scope x) (hdb : (x == ("__debug__" : Str)) = false := by decide) (hcd : (x == ("__classdict__" : Str)) = false := by decide) :
    PE X (.Call (.Name x p) [] [] pos) (tClo X.prog X.w X.K X.mg X.base k i W) := by
  refine ⟨fun pins s σ H Q I h => ?_⟩
  obtain ⟨f, E, hs, hW, C⟩ := h
  refine wpAny_Call_Name_kw (thn ((pe_var (pos := p) hN hv hdb hcd).run pins s σ H (fun v H1 => v = .ref f ∧ H1 = H) I ⟨.ref f, hs, rfl, rfl⟩) fun u s1 ⟨v, H1, I1, r1, q1⟩ => ?_)
  obtain ⟨rfl, rfl⟩ := q1
  obtain rfl : u = Value.ref f := r1
  obtain ⟨fd, hf⟩ := C.ob
  obtain ⟨of1, _, _⟩ := I1.hok f _ hf
  refine PySem.W.callWith_F0 ⟨_, _, _, _, of1⟩ ?_
  refine wpAny_call (codeAny_mono (C.run X.A X.stack s1 hr I1.env0) fun r s' hq => ?_)
  cases r with
  | error e => exact tk e s' ((L2N.XE.of_call (E := E) I1 (fun cls d H' h => hW cls d H' h) hq))
  | ok fl =>
    cases fl with
    | ret u => exact I1.after hq
    | next => exact False.elim hq
    | brk => exact False.elim hq
    | cont => exact False.elim hq
end
/-! ### made -/
/-- the making of a lambda: its code object new or found in the table at P; the lambda itself tracked -/
def tMakeL (T : List (Addr × Str)) (q : Str) (params : Arguments) (body : Expr) (scope : Scope) (cl : List (Str × Addr)) : TE := fun _ H Q => Tabs T H ∧ ∀ (f c' : Addr) (pm ctv : Value) (H1 : Hp), ExtN H H1 → Tabs T H1 → H1 f = none → H1 c' = some (CodeO c' q) →
  Q (.ref f) (upd H1 f (ObjO f (PySem.W.kla_obj "<lambda>" q params body scope cl pm c' ctv)))
section
variable {X : Cx}
theorem tabs_new {T : List (Addr × Str)} {H : Hp} {f : Addr} {o : HO} (t : Tabs T H) (n : H f = none) : Tabs T (upd H f o) := t.ext fun b u e => by
  rw [upd_ne (ne_of_none e n)]
  exact e
theorem pe_lam {T : List (Addr × Str)} {c P : Addr} {params : Arguments} {body : Expr} {scope : Scope} {pos : Pos} (TB : TabB X.base X.mg c P) (hcode : X.env.code = .ref c) (hm : (P, X.env.qual ++ "<lambda>") ∈ T) (hu : ∀ p ∈ T, p.1 = P → p.2 = X.env.qual ++ "<lambda>")
    (hdef : defaultsOf params X.env = ([], [])) (hfree : ∀ y ∈ scope.names, y.2 = .free → X.env.scope.names.lookup y.1 = some .cell ∨ X.env.scope.names.lookup y.1 = some .free) :
    PE X (.Lambda params body scope pos) (tMakeL T (X.env.qual ++ "<lambda>") params body scope (cloFrom X.env.cells scope.names [])) := by
  refine ⟨fun pins s σ H Q I h => ?_⟩
  obtain ⟨hT, h⟩ := h
  obtain ⟨ps, hP, ht, ha⟩ := hT _ hm
  have hfree : ∀ y ∈ scope.names, y.2 = .free → ∃ c, X.env.cells.lookup y.1 = some c := fun y hy e => I.ok.has _ (hfree y hy e)
  have bP : s.heap.BuiltinsAt X.mg P := TB.bm.keeps I.bk
  have hP' : s.heap.get? P = some { cls := .none, data := .fields ps } := I.hok P _ hP
  have new : ∀ (h' : Heap) (ob : Obj) (H2 : Hp), ob.isFreed = false → ObjOk X.prog X.w H2 (h'.push ob) h'.objs.size (ObjO h'.objs.size ob) := fun h' ob H2 fr =>
    ⟨Heap.get?_push_size _ fr, ⟨ob, Heap.get?_push_size _ fr⟩, fun h1 h2 e st => st _ e⟩
  refine PySem.W.kla_eval hdef ?_
  cases hc : codeAmong pos ps.toList with
  | none =>
    refine PySem.W.kla_makeFunction (mg := X.mg) (c := c) (P := P) (ps := ps) (closure_ok hfree) I.ok.glob (I.mod.glob.keeps I.bk) hcode (TB.code.keeps I.bk) hP' ht hc TB.gP bP fun c' ctv h' tk hx hge hlt hrec htb => ?_
    obtain ⟨c2, oc, vs, t, e2, hoc, hd, hv⟩ := hrec
    cases e2
    have nC : H c' = none := I.hok.fresh hge
    have hsz : s.heap.objs.size ≤ h'.objs.size := Nat.le_trans hge (Nat.le_of_lt hlt)
    have I1 := inv_table (t' := tk) (q := X.env.qual ++ "<lambda>") (more := #[rawInt pos.line, rawInt pos.col, .ref c']) (h' := h') I hP (fun b o hb e => hx b o hb e) htb hge ⟨oc, vs, t, hoc, hd, hv⟩
    have hE : ExtN H (upd (upd H P (.tbl (ps ++ #[rawInt pos.line, rawInt pos.col, .ref c']))) c' (CodeO c' (X.env.qual ++ "<lambda>"))) := fun b o e n => by
      have n1 : b ≠ c' := ne_of_none e nC
      have n2 : b ≠ P := fun z => by
        subst z
        rw [hP] at e
        exact n ps (Option.some.inj e).symm
      rw [upd_ne n1, upd_ne n2]
      exact e
    have eL : (ps ++ #[rawInt pos.line, rawInt pos.col, .ref c']).toList = ps.toList ++ [rawInt pos.line, rawInt pos.col, .ref c'] := by simp
    have T1 : Tabs T (upd (upd H P (.tbl (ps ++ #[rawInt pos.line, rawInt pos.col, .ref c']))) c' (CodeO c' (X.env.qual ++ "<lambda>"))) := fun p hp => by
      by_cases hb : p.1 = P
      · rw [hu p hp hb, hb]
        refine ⟨_, by rw [upd_ne (ne_of_none hP nC), upd_same], by rw [eL]; exact PySem.TriplesOk_snoc _ _ _ _ ht, fun p' cv hcv => ?_⟩
        rw [eL] at hcv
        rcases among_app _ ht hcv with z | z
        · obtain ⟨c0, e1, e3⟩ := ha p' cv z
          exact ⟨c0, e1, hE _ _ e3 codeO_ne⟩
        · exact ⟨c', z, upd_same⟩
      · obtain ⟨qs, a1, a2, a3⟩ := hT p hp
        refine ⟨qs, by rw [upd_ne (ne_of_none a1 nC), upd_ne hb]; exact a1, a2, fun p' cv hcv => ?_⟩
        obtain ⟨c0, e1, e3⟩ := a3 p' cv hcv
        exact ⟨c0, e1, hE _ _ e3 codeO_ne⟩
    have fr := I1.hok.fresh (Nat.le_refl h'.objs.size)
    exact ⟨.ref h'.objs.size, _, I1.laid (t' := tk) (fun b o e => Heap.get?_push_of_some _ e) (Nat.le_refl _) (new h' _ _ rfl), rfl, h h'.objs.size c' _ ctv _ hE T1 fr upd_same⟩
  | some cv =>
    obtain ⟨c', e, hco⟩ := ha pos cv hc
    subst e
    refine PySem.W.kla_makeFunctionHit (mg := X.mg) (c := c) (P := P) (ps := ps) (closure_ok hfree) I.ok.glob (I.mod.glob.keeps I.bk) hcode (TB.code.keeps I.bk) hP' ht hc bP fun ctv h' tk hx hsz => ?_
    have I1 : Inv X pins σ H { s with heap := h', toks := tk } := I.kept hx
    have fr := I1.hok.fresh (Nat.le_refl h'.objs.size)
    exact ⟨.ref h'.objs.size, _, I1.laid (t' := tk) (fun b o e => Heap.get?_push_of_some _ e) (Nat.le_refl _) (new h' _ _ rfl), rfl, h h'.objs.size c' _ ctv H (ExtN.refl H) hT fr hco⟩
end
end Au
namespace Au
open PySem PySem.Spec PyProof.Rows L2 LamX
/-! ### a def that gives lambdas out: its cells are tracked behind it -/
structure PSsG (X : Cx) (ss : List Stmt) (t : (V → L2.St → Hp → Prop) → L2.St → Hp → Prop) : Prop where
  run : ∀ (s : Shared) (σ : L2.St) (H : Hp) (R : V → L2.St → Hp → Prop), Inv X [] σ H s → t R σ H → wpAny (model X.prog X.w) X.A (execs ss X.env) (fun fl s' => ∃ (u : Value) (v : V) (σ' : L2.St) (H' : Hp), fl = .ret u ∧ Inv X [] σ' H' s' ∧ RelV v u ∧ R v σ' H') X.xe s
section
variable {X : Cx} {st : Stmt} {rest : List Stmt} {t : TS} {u : (V → L2.St → Hp → Prop) → L2.St → Hp → Prop} {e : Expr} {te : TE} {pos : Pos}
theorem psg_cons (h1 : L2.PS X st t) (h2 : PSsG X rest u) : PSsG X (st :: rest) (fun R σ H => t { nx := u R, rt := fun _ _ => False } σ H) := by
  refine ⟨fun s σ H R I h => ?_⟩
  refine wpAny_execs_cons (thn (h1.run [] s σ H _ I h) fun f s1 q => ?_)
  cases f with
  | next =>
    obtain ⟨σ', H', I', q⟩ := q
    exact h2.run s1 σ' H' R I' q
  | ret v =>
    obtain ⟨_, _, _, _, _, z⟩ := q
    exact z.elim
  | brk =>
    obtain ⟨_, _, _, z⟩ := q
    exact z.elim
  | cont =>
    obtain ⟨_, _, _, z⟩ := q
    exact z.elim
theorem psg_ret (he : PE X e te) : PSsG X [.Return (some e) pos] (fun R σ H => te σ H fun v H1 => R v σ H1) := by
  refine ⟨fun s σ H R I h => ?_⟩
  refine wpAny_execs_cons (wpAny_Return_some (thn (he.run [] s σ H _ I h) fun v s1 ⟨x, H1, I1, r1, q1⟩ => ?_))
  exact ⟨v, x, σ, H1, rfl, I1, r1, q1⟩
end
/-- the cells of the slots at own, tracked one by one -/
def Trk (cells : List (Str × Addr)) (σ : L2.St) (q : Hp → Prop) : List (Nat × Str) → Hp → Prop
  | [], H => (∀ y z c, cells.lookup y = some c → cells.lookup z = some c → y = z) → q H
  | (i, y) :: r, H => ∃ x, σ[i]? = some (some x) ∧ ∀ C, cells.lookup y = some C → H C = none → Trk cells σ q r (upd H C (CellO C x))
section
variable {P : Program} {w : World} {K : PySem.W.Frag} {mg : Str → Option Value} {base : Heap}
theorem trk_end {X : Cx} {σ : L2.St} {s' : Shared} {q : Hp → Prop} {h0 : Heap} {H0 : Hp} {H1 : Hp} (I : Inv X [] σ H1 s') (hs : h0.objs.size ≤ X.s_0.heap.objs.size) (hfn : ∀ y, X.fn y = true) :
    ∀ (own : List (Nat × Str)) (H : Hp), (∀ p ∈ own, X.N[p.1]? = some p.2 ∧ X.env.scope.names.lookup p.2 = some .cell) → (own.map (·.2)).Nodup → (∀ p ∈ own, ∀ C, X.env.cells.lookup p.2 = some C → H C = none) → HOk X.prog X.w H s'.heap → Un X.fs [] H0 H h0 s'.heap → Trk X.env.cells σ q own H →
      ∃ H', HOk X.prog X.w H' s'.heap ∧ Un X.fs [] H0 H' h0 s'.heap ∧ q H'
  | [], H, _, _, _, k, u, z => ⟨H, k, u, z I.ok.inj⟩
  | (i, y) :: r, H, hN, nd, hn, k, u, z => by
    obtain ⟨x, hx, z⟩ := z
    obtain ⟨n1, n2⟩ := hN (i, y) List.mem_cons_self
    obtain ⟨C, hC⟩ := I.ok.has y (.inl n2)
    have nC := hn (i, y) List.mem_cons_self C hC
    obtain ⟨m, hm, hl⟩ := I.loc
    obtain ⟨v, rv, lk⟩ := hl i y x n1 hx (.inr (.inl n2))
    have ic : s'.heap.IsCell C (some v) := by
      rcases lk with ⟨k1, _⟩ | ⟨_, c, e, ic⟩
      · rw [show X.env.kindOf y = _ from n2] at k1
        cases k1
      · rw [hC] at e
        cases e
        exact ic
    have k1 : HOk X.prog X.w (upd H C (CellO C x)) s'.heap := fun b o e => by
      by_cases hb : b = C
      · subst hb
        rw [upd_same] at e
        cases e
        obtain ⟨o, ho, hd⟩ := ic
        exact ⟨⟨v, rv, o, ho, hd⟩, ⟨o, ho⟩, fun h1 h2 ⟨v', r', o', a, b⟩ st => ⟨v', r', o', st _ a, b⟩⟩
      · rw [upd_ne hb] at e
        refine (k b o e).stay (fun _ _ _ q => q) (fun d q => ?_) fun d xs q => ?_
        · rw [upd_ne (ne_of_none q nC)]
          exact q
        · rw [upd_ne (ne_of_none q nC)]
          exact q
    have newC : ∀ b o, h0.get? b = some o → b ≠ C := fun b o e z => by
      subst z
      exact Nat.lt_irrefl _ (Nat.lt_of_lt_of_le (Heap.lt_size e) (Nat.le_trans hs (I.ok.cab y b (hfn y) hC)))
    have u1 : Un X.fs [] H0 (upd H C (CellO C x)) h0 s'.heap := ⟨u.keep, u.slot, fun b o e n hx => by rw [upd_ne (newC b o e)]; exact u.free b o e n hx, u.there, fun b xs e => by rw [upd_ne (ne_of_none (u.tups b xs e) nC)]; exact u.tups b xs e,
      fun b o v e => by rw [upd_ne (ne_of_none (u.frzs b o v e) nC)]; exact u.frzs b o v e, fun b ps e => by
        obtain ⟨more, e2⟩ := u.tbls b ps e
        exact ⟨more, by rw [upd_ne (ne_of_none e2 nC)]; exact e2⟩⟩
    refine trk_end I hs hfn r _ (fun p hp => hN p (List.mem_cons_of_mem _ hp)) (List.nodup_cons.mp nd).2 (fun p hp C2 e => ?_) k1 u1 (z C hC nC)
    have ne : C2 ≠ C := fun z => by
      subst z
      have := I.ok.inj _ _ _ e hC
      exact (List.nodup_cons.mp nd).1 (List.mem_map.mpr ⟨p, hp, this⟩)
    rw [upd_ne ne]
    exact hn p (List.mem_cons_of_mem _ hp) C2 e
theorem maker_ok {x qual : Str} {st : Stmt} {f : Addr} {N ps : List Str} {k : Nat} {sp : Sp} {cdv : Value} (own : List (Nat × Str)) {oc : Value} {od an : Option Addr} {osl : Array (Option Value)} {kV doc pm ct : Value}
    (lk : K.lookup f = some ⟨oc, od, .func (PySem.W.fnOf x qual (defArgs st) (defBody st) (defScope st) .none kV doc pm an cdv ct), osl⟩) (hcd : PySem.W.codeIn K cdv qual = true) (S : FnScope N ps (defScope st))
    (hN : ∀ p ∈ own, N[p.1]? = some p.2 ∧ (defScope st).names.lookup p.2 = some .cell) (nd : (own.map (·.2)).Nodup) (len : ∀ vs H Q E, sp vs H Q E → vs.length = ps.length)
    (hbody : ∀ (A : Around) (outer : List Env) (s : Shared) (H : Hp) (vs : List V) (Q : VK) (E : XK), Room k (A.deeper (envOfC qual (defScope st) s.heap.objs.size f cdv)) → sp vs H Q E →
      ∃ t, PSsG (cxOf CX0 P w K mg base N qual (defScope st) f cdv A outer s H E) (defBody st) t ∧ t (fun v σ' H' => Trk (cxOf CX0 P w K mg base N qual (defScope st) f cdv A outer s H E).env.cells σ' (Q v) own H') (L2.start N vs) H) :
    FnOk P w K mg base CX0 (k + 1) f (PySem.W.fnOf x qual (defArgs st) (defBody st) (defScope st) .none kV doc pm an cdv ct) ps sp := by
  refine ⟨len, fun A outer s H args us vs Q E hr e0 hb r hsp => ?_⟩
  have hl := len _ _ _ _ hsp
  have KX : K.In s.heap := e0.mod.kin.keeps fun b o e => (e0.bs b o e).1
  have lim : s.heap.NoLimit := e0.mod.nolimit.keeps fun b o e => (e0.bs b o e).1
  have hkind : ∀ y ∈ ps.zip us, (defScope st).names.lookup y.1 = some .local ∨ ((defScope st).names.lookup y.1 = some .cell ∧ ((cellsFrom (s.heap.objs.size + 1) (defScope st).names []).lookup y.1).isSome = true) := fun ⟨n, v⟩ hy => by
    rcases S.par n (List.of_mem_zip hy).1 with q | q
    · exact .inl q
    · exact .inr ⟨q, PySem.W.cellsFrom_some _ _ _ (.inl q)⟩
  refine codeAny_call_function hr.depth (KX _ _ lk) rfl S.co S.gen rfl (PySem.W.codeRec_of KX hcd) (hb _ _ _ _ ?_)
  refine wpAny_newFunctionEnv_cells S.kind hkind fun env he s1 x1 => ?_
  subst he
  refine ⟨lim.keeps x1.toInCall.keep, codeAny_func ?_⟩
  obtain ⟨t, ht, hq⟩ := hbody A outer s H vs Q E (hr.deeper _) hsp
  have I : Inv (cxOf CX0 P w K mg base N qual (defScope st) f cdv A outer s H E) [] (L2.start N vs) H s1 := inv_start S hr.hd e0 hl r x1
  refine wpAny_mono (ht.run s1 _ H _ I hq) (fun fl s' hs => ?_) fun e s' hs => hs
  obtain ⟨u, v, σ', H', rfl, J, rv, z⟩ := hs
  obtain ⟨H2, k2, u2, q2⟩ := trk_end (h0 := s.heap) (H0 := H) J (Nat.le_refl _) (fun _ => rfl) own H' hN nd (fun p hp C e => J.freeC p.2 C e) J.hok J.base z
  exact ⟨v, H2, J.os, J.bare, u2, k2, rv, q2⟩
end
end Au
set_option maxHeartbeats 2000000
/-! Walks and comprehensions while an exception is handled. -/
namespace AuH
open PySem PySem.Spec PyProof.Rows HotX
section
variable {prog : Program} {w : World} {A : Around} {E : Value → Shared → Prop} {s : Shared} {x1 : Addr}
theorem hot_up {h h' : Heap} (t : HotAt A x1 h) (k : ∀ o, h.get? x1 = some o → h'.get? x1 = some o) : HotAt A x1 h' := by
  obtain ⟨e, o, vs, a, b, c⟩ := t
  exact ⟨e, o, vs, k o a, b, c⟩
/-- the handled exception is no object of another form -/
theorem hot_ne {h : Heap} {b : Addr} {o : Obj} (t : HotAt A x1 h) (hb : h.get? b = some o) (n : ∀ vs : Array Value, o.data = .fields vs → vs[2]? ≠ some .none) : b ≠ x1 := by
  rintro rfl
  obtain ⟨_, o2, vs, a, d, c⟩ := t
  rw [hb] at a
  cases a
  exact n vs d c
/-- a new StopIteration is raised -/
theorem stop_hot {α : Type} {Q : α → Shared → Prop} (hot : HotAt A x1 s.heap) (q : ∀ h' e, (∀ b o, s.heap.get? b = some o → h'.get? b = some o) → (∃ o, h'.get? e = some o ∧ o.cls = .type "StopIteration") → E (.ref e) { s with heap := h' }) :
    wpAny (model prog w) A ((newExc (.type "StopIteration") [] : Sem Value) >>= fun e => (raiseNew e : Sem α)) Q E s := by
  refine wpAny_bind ?_
  simp only [newExc, newTuple]
  refine wpAny_bind (wpAny_newObj_type (wpAny_bind (m := firstArgMember _ _) (wpAny_of_eq (a := Value.none) (by first | rfl | (simp only [firstArgMember]; rfl)) (wpAny_newObj_type ?_ (by size_fits)))) (by size_fits))
  obtain ⟨hh, o1, vs1, g1, d1, c1⟩ := hot
  refine raiseNew_hot ⟨hh, o1, vs1, Heap.get?_push_of_some _ (Heap.get?_push_of_some _ g1), d1, c1⟩ (Nat.ne_of_lt (Heap.lt_size (Heap.get?_push_of_some _ g1))) (Heap.get?_push_size _ rfl) rfl (by first | (simp; done) | (simp; omega)) ?_
  refine q _ _ (fun b o e => ?_) ⟨_, Heap.get?_update_self _ (Heap.get?_push_size _ rfl) rfl, rfl⟩
  have lt := Heap.lt_size (Heap.get?_push_of_some { cls := .type "tuple", data := .seq #[] } e)
  exact (Heap.get?_update_other _ _ (Nat.ne_of_gt lt)).trans (Heap.get?_push_of_some _ (Heap.get?_push_of_some _ e))
/-- the iterator of a list that has no item left, asked within another's next -/
theorem nextOf_hot {it l : Addr} {i : Nat} {items} {Q : Value → Shared → Prop} (hot : HotAt A x1 s.heap) (hit : s.heap.IsListIter it l i) (hl : s.heap.IsList l items) (no : items[i]? = none)
    (q : ∀ h' e, Heap.ExtBut it s.heap h' → (∃ o, h'.get? e = some o ∧ o.cls = .type "StopIteration") → E (.ref e) { s with heap := h' }) : wpAny (model prog w) A (Builtin.SmallTypes.nextOf (.ref it)) Q E s := by
  obtain ⟨io, hO, hC, hD⟩ := id hit
  obtain ⟨lo, hLo, _, ln, hLd⟩ := hl
  have ne : it ≠ x1 := hot_ne hot hO fun vs e z => by
    rw [hD] at e
    cases e
    simp at z
  unfold Builtin.SmallTypes.nextOf
  refine wpAny_bind (wpAny_callSpecial?_slot (name := Str.ofString "__next__") hit.typeIs slot_listiter_next (wpAny_call_entry slot_listiter_next hit.typeIs entry_listiter_next ?_ (args_listiter_next _)))
  refine wpAny_bind (m := field (.ref it) 0) (wpAny_field hO hD (x := .ref l) rfl ?_)
  rw [if_neg (show ¬ ((Value.ref l == Value.none) = true) from Bool.false_ne_true)]
  refine wpAny_bind (m := field (.ref it) 1) (wpAny_field hO hD (x := .int i 0) rfl (wpAny_bind (m := seqItems? (.ref l)) (wpAny_seqItems hLo hLd ?_)))
  simp only [Int.toNat_natCast, no]
  refine wpAny_bind (wpAny_rule (wpAny_bind (wpAny_setField hO hD (by simp) ?_)))
  refine stop_hot (x1 := x1) (hot_up (A := A) hot fun o e => (Heap.get?_update_other _ _ ne).trans e) fun h' e k so => q h' e (fun b o hb eo => k b o ((Heap.SameBut.update ..).extBut b o hb eo)) so
/-- a tuple's iterator at its end -/
theorem tuple_end_hot {it t : Addr} {i : Nat} {items} {Q : Option Value → Shared → Prop} (hot : HotAt A x1 s.heap) (hit : IsTupIter s.heap it t i) (ht : IsTup s.heap t items) (no : items[i]? = none)
    (q : ∀ h', Heap.ExtBut it s.heap h' → Q none { s with heap := h' }) : wpAny (model prog w) A (pyNext (.ref it)) Q E s := by
  obtain ⟨io, hO, hC, hD⟩ := id hit
  obtain ⟨lo, hLo, _, ln, hLd⟩ := ht
  have ne : it ≠ x1 := hot_ne hot hO fun vs e z => by
    rw [hD] at e
    cases e
    simp at z
  unfold pyNext
  refine wpAny_bind (wpAny_attempt (wpAny_callSpecial?_slot (name := Str.ofString "__next__") hit.typeIs slot_tupleiter_next (wpAny_call_entry slot_tupleiter_next hit.typeIs entry_tupleiter_next ?_ (args_tupleiter_next _))))
  refine wpAny_bind (m := field (.ref it) 0) (wpAny_field hO hD (x := .ref t) rfl ?_)
  rw [if_neg (show ¬ ((Value.ref t == Value.none) = true) from Bool.false_ne_true)]
  refine wpAny_bind (m := field (.ref it) 1) (wpAny_field hO hD (x := .int i 0) rfl (wpAny_bind (m := seqItems? (.ref t)) (wpAny_seqItems hLo hLd ?_)))
  simp only [Int.toNat_natCast, no]
  refine wpAny_bind (wpAny_rule (wpAny_bind (wpAny_setField hO hD (by simp) ?_)))
  refine stop_hot (x1 := x1) (hot_up (A := A) hot fun o e => (Heap.get?_update_other _ _ ne).trans e) fun h' e k so => ?_
  obtain ⟨oe, e1, e2⟩ := so
  exact wpAny_bind (wpAny_isInstance (T := "StopIteration") (b := true) ⟨oe, e1, e2⟩ isSubtype_stop (wpAny_pure (q h' fun b o hb eo => k b o ((Heap.SameBut.update ..).extBut b o hb eo))))
/-- zip of two lists, the first of which has no item left -/
theorem zip_end_hot {z TI TO i1 i2 l1 l2 : Addr} {k1 : Nat} {xs : Array Value} {a b : Value} {Q : Option Value → Shared → Prop} (hot : HotAt A x1 s.heap) (D : ZipApart z TI TO i1 i2 l1 l2)
    (hz : IsZip s.heap z TI TO .none) (hTI : IsPair s.heap TI (.ref i1) (.ref i2)) (hTO : IsPair s.heap TO a b) (h1 : s.heap.IsListIter i1 l1 k1) (hl1 : s.heap.IsList l1 xs) (no : xs[k1]? = none)
    (q : ∀ h', (∀ c o, c ≠ z → c ≠ TO → c ≠ i1 → c ≠ i2 → s.heap.get? c = some o → h'.get? c = some o) → Q none { s with heap := h' }) : wpAny (model prog w) A (pyNext (.ref z)) Q E s := by
  have ty : s.TypeIs (.ref z) "zip" := ⟨_, hz, rfl⟩
  have nz : z ≠ x1 := hot_ne hot hz fun vs e y => by
    cases e
    simp at y
  unfold pyNext
  refine wpAny_bind (wpAny_attempt (wpAny_callSpecial?_slot (name := Str.ofString "__next__") ty F.slot_zip_next (wpAny_call_entry F.slot_zip_next ty F.entry_zip_next ?_ (F.args_zip_next_1 _))))
  refine wpAny_bind (m := field (.ref z) 2) (wpAny_field hz rfl (x := .bool false) rfl (wpAny_bind (m := field (.ref z) 3) (wpAny_field hz rfl (x := .ref TI) rfl (wpAny_bind (wpAny_seqItems hTI rfl (wpAny_bind (m := Builtin.SmallTypes.ownedTupleIsFree (.ref z)) ?_))))))
  unfold Builtin.SmallTypes.ownedTupleIsFree
  refine wpAny_bind (wpAny_field hz rfl (x := .none) rfl (wpAny_pure ?_))
  simp only [if_true]
  refine wpAny_bind (wpAny_rule (wpAny_bind (wpAny_field hz rfl (x := .ref TO) rfl (wpAny_bind (wpAny_setField_rec hz (by simp) fun ha hza hsa => ?_)))))
  replace hza : IsZip ha z TI TO .ellipsis := hza
  refine wpAny_bind ?_
  simp only [List.zipIdx_cons, List.zipIdx_nil, List.forIn_cons, List.forIn_nil]
  have hot1 : HotAt A x1 ha := hot_up hot fun o e => hsa.extBut _ _ nz.symm e
  refine wpAny_bind (wpAny_bind (wpAny_onRaise (wpAny_bind (m := Builtin.SmallTypes.nextOf (.ref i1)) (nextOf_hot (x1 := x1) (s := { s with heap := ha }) hot1 (h1.extBut hsa.extBut D.i1z) (hl1.extBut hsa.extBut D.l1z) no fun hb e hsb so => ?_))))
  obtain ⟨oe, eo, ec⟩ := so
  have hzb : IsZip hb z TI TO .ellipsis := hsb _ _ D.i1z.symm hza
  have ez : e ≠ z := fun y => by
    subst y
    rw [hzb] at eo
    cases eo
    simp at ec
  refine wpAny_setField_rec hzb (by simp) fun hc _ hsc => ?_
  exact wpAny_bind (wpAny_isInstance (T := "StopIteration") (b := true) ⟨oe, hsc.extBut _ _ ez eo, ec⟩ isSubtype_stop (wpAny_pure (q hc fun c o c1 _ c3 _ y => hsc.extBut _ _ c1 (hsb _ _ c3 (hsa.extBut _ _ c1 y)))))
/-- a tuple stored to names -/
theorem unpack_hot {t : Addr} {items : Array Value} {targets : List (Bool × (Value → Sem Unit))} {Q : Unit → Shared → Prop} (hot : HotAt A x1 s.heap) (ht : IsTup s.heap t items) (hn : targets.length = items.size) (hst : targets.findIdx? (·.1) = none)
    (h : ∀ h', Heap.ExtBut s.heap.objs.size s.heap h' → wpAny (model prog w) A (assignInOrder (targets.map (·.2)) items.toList) Q E { s with heap := h' }) : wpAny (model prog w) A (unpack (.ref t) targets) Q E s := by
  have ne : t ≠ s.heap.objs.size := by
    obtain ⟨o, e, _⟩ := ht
    exact Nat.ne_of_lt (Heap.lt_size e)
  have nx : x1 ≠ s.heap.objs.size := by
    obtain ⟨_, o, _, e, _⟩ := hot
    exact Nat.ne_of_lt (Heap.lt_size e)
  unfold unpack
  rw [hn, hst]
  refine wpAny_bind (wpAny_holding ?_)
  show wpAny _ _ (unpackItems (.ref t) items.size none) _ _ _
  unfold unpackItems
  refine wpAny_bind ?_
  unfold notIterableAtAll
  refine wpAny_bind (wpAny_specialOf ht.typeIs slot_tuple_iter.lookup (wpAny_pure ?_))
  simp only [Bool.false_eq_true, if_false]
  refine wpAny_bind (wpAny_holding (iter_tuple ht (wpAny_bind (wpAny_holding (draw_tuple ne items.size 0 _ _ ⟨_, Heap.get?_push_size _ rfl, rfl, rfl⟩ (ht.push _) (by omega) fun ha hia hsa => ?_)))))
  have all : List.take items.size (List.drop 0 items.toList) = items.toList := by
    rw [List.drop_zero]
    exact List.take_of_length_le (by simp)
  rw [all, if_neg (by simp)]
  have hta : IsTup ha t items := (ht.push _).extBut hsa.extBut ne
  have hota : HotAt A x1 ha := hot_up hot fun o e => hsa.extBut _ _ nx (Heap.get?_push_of_some _ e)
  refine wpAny_bind (wpAny_holding (tuple_end_hot (s := { s with heap := ha }) hota hia hta (by simp) fun hb heb => ?_))
  simp only [Option.isSome_none, Bool.false_eq_true, if_false]
  exact wpAny_pure (h hb fun b o hb' e => heb b o hb' (hsa.extBut b o hb' (Heap.get?_push_of_some _ e)))
end
end AuH
namespace AuH
open PySem PySem.Spec PyProof.Rows HotX L2 L2H
/-- zip of two lists: done where the first has no item left -/
def ItzF (K : PySem.W.Frag) (a b : Addr) : It := ⟨(Itz K a b).go, (Itz K a b).yld, fun i H => ∃ xs : List V, SqL K H a xs ∧ xs.length ≤ i⟩
theorem turn_zipH {P : Program} {w : World} {K : PySem.W.Frag} {elts : List Expr} {kk : Nat} {tpos : Pos} {a b z TI TO i1 i2 : Addr} (D : ZipApart z TI TO i1 i2 a b) :
    TurnH P w K (.Tuple elts kk tpos) (ItzF K a b) [z, TI, TO, i1, i2] z (fun i h => IsZip h z TI TO .none ∧ IsPair h TI (.ref i1) (.ref i2) ∧ (∃ x y, IsPair h TO x y) ∧ h.IsListIter i1 a i ∧ h.IsListIter i2 b i) where
  mem := List.mem_cons_self
  obj := (turn_zip (P := P) (w := w) (K := K) (elts := elts) (kk := kk) (tpos := tpos) D).obj
  keep := (turn_zip (P := P) (w := w) (K := K) (elts := elts) (kk := kk) (tpos := tpos) D).keep
  item := by
    rintro X rfl rfl rfl _ i pins s σ H E I hf ⟨hz, hTI, ⟨x0, y0, hTO⟩, h1, h2⟩ ⟨xs, ys, x, y, qx, qy, ex, ey⟩
    obtain ⟨its, rv, pl, _⟩ := I.list qx
    obtain ⟨its2, rv2, pl2, _⟩ := I.list qy
    obtain ⟨u, hu, ru⟩ := rv.get ex
    obtain ⟨u2, hu2, ru2⟩ := rv2.get ey
    have ltz : z < s.heap.objs.size := Heap.lt_size hz
    refine wpAny_pyNext_zip_item D hz hTI hTO h1 h2 pl.isList pl2.isList (x := u) (y := u2) (by simpa using hu) (by simpa using hu2) fun h' za TOa h1a h2a hT _ hk => ⟨_, rfl, wpAny_letOwnedTupleGo_zip (s := { s with heap := h' }) za fun hb zb sb => ?_⟩
    have hTb : hb.get? s.heap.objs.size = some { cls := .type "tuple", data := .seq #[u, u2] } := (sb.2 _ (Nat.ne_of_gt ltz)).trans hT
    have new : ObjOk X.prog X.w (upd H s.heap.objs.size (.tup [x, y])) hb s.heap.objs.size (.tup [x, y]) := ⟨by show 2 ≤ sizeLine; decide, [u, u2], .cons ru (.cons ru2 .nil), ⟨_, hTb, rfl, _, rfl⟩⟩
    have out : ∀ c, c ∉ [z, TI, TO, i1, i2] → c ≠ z ∧ c ≠ TI ∧ c ≠ TO ∧ c ≠ i1 ∧ c ≠ i2 := fun c n => by simpa using n
    have J := I.turnedNew (t' := s.toks) (ch := [z, TI, TO, i1, i2]) (fun c o n q => (sb.2 c (out c n).1).trans (hk c o (out c n).1 (out c n).2.2.1 (out c n).2.2.2.1 (out c n).2.2.2.2 q)) hf (Nat.le_refl _) new
    refine ⟨.ref s.heap.objs.size, _, J, rfl, ⟨_, x, y, rfl, I.hok.fresh (Nat.le_refl _), rfl, fun l hl => by rw [I.list_inj hl qx]; exact ex, fun l hl => by rw [I.list_inj hl qy]; exact ey⟩, ⟨zb, (sb.2 _ D.TIz).trans (hk _ _ D.TIz D.TITO D.TIi1 D.TIi2 hTI), ⟨u, u2, (sb.2 _ D.TOz).trans TOa⟩, h1a.at fun o q => (sb.2 _ D.i1z).trans q, h2a.at fun o q => (sb.2 _ D.i2z).trans q⟩, fun c m => ?_⟩
    obtain ⟨o, e, _⟩ := (turn_zip (P := X.prog) (w := X.w) (K := X.K) (elts := elts) (kk := kk) (tpos := tpos) D).obj i s.heap ⟨hz, hTI, ⟨x0, y0, hTO⟩, h1, h2⟩ c m
    exact (upd_ne (Nat.ne_of_lt (Heap.lt_size e))).trans (hf c m).1
  done := by
    rintro X rfl rfl rfl hc i pins s σ H E I hf ⟨hz, hTI, ⟨x0, y0, hTO⟩, h1, h2⟩ ⟨xs, qx, lx⟩
    obtain ⟨its, rv, pl, _⟩ := I.list qx
    have ll := rv.length
    obtain ⟨x1, hot⟩ := hc.at I
    refine zip_end_hot hot D hz hTI hTO h1 pl.isList (by simp; omega) fun h' hk => ⟨rfl, I.turnedL (t' := s.toks) (ch := [z, TI, TO, i1, i2]) (fun c o n q => ?_) hf⟩
    have out : c ≠ z ∧ c ≠ TI ∧ c ≠ TO ∧ c ≠ i1 ∧ c ≠ i2 := by simpa using n
    exact hk c o out.1 out.2.2.1 out.2.2.2.1 out.2.2.2.2 q
  self := fun A i s Q E st h => wpAny_pyIter_zip st.1 h
def iZipH (K : PySem.W.Frag) (ta : TA) : TI := fun σ H R => ta σ H fun vs H1 => ∃ a b xs ys, vs = [.ref a, .ref b] ∧ SqL K H1 a xs ∧ SqL K H1 b ys ∧ R (ItzF K a b) H1
theorem pi_zipH {X : Cx} {e e2 : Expr} {ta : TA} {p pos tpos : Pos} {elts : List Expr} {kk : Nat} (hg : Gl X "zip") (hm : X.mg "zip" = none) (ha : PA X [e, e2] ta) (hs : starEach [e, e2] X.env = (false, eval e X.env) :: starEach [e2] X.env := by rfl)
    (hpl : (backTo pos (starEach [e2] X.env)).any (·.1) = false := by rfl) : PIH X (.Tuple elts kk tpos) (.Call (.Name "zip" p) [e, e2] [] pos) (iZipH X.K ta) := by
  refine ⟨fun pins s σ H R I h => Call_ (ld_blt I hg hm PyProof.Rows.boot_zip (PyProof.Rows.callWith_type1 (thn (ha.run pos pins s σ H _ I h) fun us s1 ⟨vs, H1, I1, r1, q1⟩ => ?_) hs hpl))⟩
  obtain ⟨a, b, xs, ys, rfl, qx, qy, q⟩ := q1
  cases r1 with
  | cons r rr =>
    cases rr with
    | cons r2 rr =>
      cases rr
      cases r
      cases r2
      obtain ⟨its, rv, pl, _⟩ := I1.list qx
      obtain ⟨its2, rv2, pl2, _⟩ := I1.list qy
      refine call_zip_2 pl.isList pl2.isList fun h' hz hTI hTO h1 h2 hsz hk => wpAny_pyIter_zip hz ⟨s1.heap.objs.size + 4, [s1.heap.objs.size + 4, s1.heap.objs.size + 2, s1.heap.objs.size + 3, s1.heap.objs.size, s1.heap.objs.size + 1], _, _, H1, rfl, I1.kept (t' := s1.toks) hk,
        turn_zipH (PySem.W.ktu_apart s1.heap.objs.size a b pl.lt pl2.lt), ⟨hz, hTI, ⟨_, _, hTO⟩, h1, h2⟩, fun c m => ?_, q⟩
      have le : s1.heap.objs.size ≤ c := by
        have z : c = s1.heap.objs.size + 4 ∨ c = s1.heap.objs.size + 2 ∨ c = s1.heap.objs.size + 3 ∨ c = s1.heap.objs.size ∨ c = s1.heap.objs.size + 1 := by simpa using m
        rcases z with e | e | e | e | e <;> (rw [e]; first | exact Nat.le_add_right _ _ | exact Nat.le_refl _)
      exact I1.fpOk le (I1.hok.fresh le)
/-- a, b = a tuple -/
theorem pg_tupH {X : Cx} {es : List Expr} {k n : Nat} {t : TGs} {pos : Pos} (hc : HotC X) (h : PGs X es t) (hn : (assignEach es X.env).length = n := by rfl) (hst : (assignEach es X.env).findIdx? (·.1) = none := by rfl) : PG X (.Tuple es k pos) (gTup X.K n t) := by
  refine ⟨fun pins s σ H v u Q I r hw => ?_⟩
  obtain ⟨a, xs, rfl, hq, hl, hw⟩ := hw
  cases r
  obtain ⟨its, rv, ht, hz⟩ := I.tuple hq
  obtain ⟨x1, hot⟩ := hc.at I
  rw [PyProof.Rows.assign_Tuple]
  refine wpAny_bind (wpAny_standAt (unpack_hot hot ht (by simp [hn, ← hl, rv.length]) hst fun h' hx => ?_))
  exact h.run pins _ σ H xs _ Q (I.kept (t' := s.toks) fun b o e => hx b o (Nat.ne_of_lt (Heap.lt_size e)) e) (by simpa using rv) hw
end AuH
namespace AuH
open PySem PySem.Spec PyProof.Rows HotX L2 L2H
/-- the context of a comprehension's block there: it bears the same pins -/
abbrev blkH (X : Cx) (s : Shared) (H : Hp) (scope : Scope) (cenv : Env) (fp : List Addr) : Cx := (X.blk s H scope cenv fp).tr X.pn (fun _ _ => False)
theorem blkH_hot {X : Cx} {s : Shared} {H : Hp} {scope : Scope} {cenv : Env} {fp : List Addr} (hc : HotC X) : HotC (blkH X s H scope cenv fp) := hc
/-- [elt for tg in iter if ..], one for, as a value -/
theorem pe_lcH {X : Cx} {elt tg iter : Expr} {ifs : List Expr} {scope : Scope} {own : List (Str × Nat)} {pos : Pos} {wi : TI} {g : TG} {tt : TT} {te : TE} (hc : HotC X) (hN : X.N.Nodup) (hi : PIH X tg iter wi) (ok : BlkOk X.N X.env.scope scope own)
    (hg : ∀ (s : Shared) (H : Hp) (C : Addr) (cl : List (Str × Addr)) (fp : List Addr), PG (blkH X s H scope (compEnvC scope cl C X.env) fp) tg g) (ht : ∀ (s : Shared) (H : Hp) (C : Addr) (cl : List (Str × Addr)) (fp : List Addr), PTs (blkH X s H scope (compEnvC scope cl C X.env) fp) ifs tt)
    (he : ∀ (s : Shared) (H : Hp) (C : Addr) (cl : List (Str × Addr)) (fp : List Addr), PE (blkH X s H scope (compEnvC scope cl C X.env) fp) elt te) (hs : ∀ x, foldedSetIterable iter X.env x = pure x := by intro _; rfl) :
    PE X (.ListComp elt [⟨tg, iter, ifs, 0⟩] scope pos) (tLc wi g tt te (own.map (·.2))) := by
  refine ⟨fun pins s σ H Q I h => ?_⟩
  have free : ∀ y ∈ scope.names, y.2 = .free → ∃ c, X.env.cells.lookup y.1 = some c := fun y hy e => (ok.free y hy e).elim (fun k => I.ok.has _ (.inl k)) fun k => I.ok.has _ (.inr k)
  rw [eval_ListComp]
  refine wpAny_comprehension_free (use := none) rfl hs (closure_ok free) ok.kind (fun y hy e => by rw [ok.uniq y hy, e]) (thn (hi.run pins s σ H _ I h) fun xv s1 h1 => thn h1 fun itv s2 h2 => ?_)
  obtain ⟨it, fp, tn, J, H2, rfl, I2, T, st2, f2, q⟩ := h2
  refine wpAny_newObj_type (newEnv_comp ?_) (by show 0 ≤ sizeLine; decide)
  generalize eD : s2.heap.objs.size = D
  obtain ⟨W, ⟨m0, w0⟩, turn⟩ := q D (I2.hok.fresh (Nat.le_of_eq eD))
  obtain ⟨s3, es3⟩ : ∃ s3 : Shared, s3 = { s2 with heap := s2.heap.push { cls := .type "list", data := .seq ([] : List Value).toArray } } := ⟨_, rfl⟩
  have h3 : s3.heap = s2.heap.push { cls := .type "list", data := .seq ([] : List Value).toArray } := by rw [es3]
  have grow : ∀ b o, s2.heap.get? b = some o → s3.heap.get? b = some o := fun b o e => by
    rw [h3]
    exact Heap.get?_push_of_some _ e
  have I3 : Inv X pins σ (upd H2 D (.lst [])) s3 := by
    rw [es3]
    refine I2.laid (t' := s2.toks) (fun b o e => Heap.get?_push_of_some _ e) (Nat.le_of_eq eD) ⟨Nat.zero_le _, [], 0, .nil, ?_⟩
    rw [← eD]
    exact Heap.get?_push_size _ rfl
  have f3 : ∀ b ∈ fp, FpOk X pins (upd H2 D (.lst [])) b ∧ b < s3.heap.objs.size := fun b hb => by
    obtain ⟨o, eo, _⟩ := T.obj _ _ st2 b hb
    have lt := Heap.lt_size eo
    refine ⟨⟨(upd_ne (by rw [← eD]; exact Nat.ne_of_lt lt)).trans (f2 b hb).1, (f2 b hb).2⟩, Heap.lt_size (grow b o eo)⟩
  have st3 : tn 0 s3.heap := T.keep _ _ _ st2 fun b _ o e => grow b o e
  have I4a := block_start I3 ok hN f3
  have pg := hg s3 (upd H2 D (.lst [])) s3.heap.objs.size (cellsFrom (s3.heap.objs.size + 1) scope.names (cloFrom X.env.cells scope.names [])) fp
  have pt := ht s3 (upd H2 D (.lst [])) s3.heap.objs.size (cellsFrom (s3.heap.objs.size + 1) scope.names (cloFrom X.env.cells scope.names [])) fp
  have pe := he s3 (upd H2 D (.lst [])) s3.heap.objs.size (cellsFrom (s3.heap.objs.size + 1) scope.names (cloFrom X.env.cells scope.names [])) fp
  have main : codeAny (model X.prog X.w) X.A (.compStart (.ListComp elt [⟨tg, iter, ifs, 0⟩] scope pos) 0 (.ref it) (.ref D) (compEnvC scope (cellsFrom (s3.heap.objs.size + 1) scope.names (cloFrom X.env.cells scope.names [])) s3.heap.objs.size X.env))
      (compPost (model X.prog X.w) X.A X.xe none (EP X pins σ Q) (.ref D) s3.heap.objs.size) { s3 with heap := pushCells (s3.heap.push { cls := .type "dict", data := .dict #[] }) scope.names } := by
    generalize hce : compEnvC scope (cellsFrom (s3.heap.objs.size + 1) scope.names (cloFrom X.env.cells scope.names [])) s3.heap.objs.size X.env = ce at I4a pg pt pe ⊢
    have cL : ce.locals = s3.heap.objs.size := by rw [← hce]; rfl
    have I4 := (I4a.pins_of (pins' := X.pn) fun p hp => by
      obtain ⟨g1, g2, g3, g4, g5⟩ := I3.pin p (List.mem_append_left _ hp)
      exact ⟨pushCells_keeps _ _ _ _ (Heap.get?_push_of_some _ g1), g2, fun z => Nat.ne_of_lt (Heap.lt_size g1) (z.trans cL), fun z => (List.mem_cons.mp (I3.stkSub _ z)).elim g3 g4, g5⟩).toTry (fun _ _ => False)
    have nfp : ∀ b ∈ fp, (upd H2 D (.lst [])) b = none := fun b hb => (f3 b hb).1.1
    generalize hH3 : upd H2 D (.lst []) = H3 at I3 I4 pg pt pe w0 nfp f3
    generalize hs4 : ({ s3 with heap := pushCells (s3.heap.push { cls := .type "dict", data := .dict #[] }) scope.names } : Shared) = s4 at I4 ⊢
    have st4 : tn 0 s4.heap := T.keep _ _ _ st3 fun b _ o e => by
      rw [← hs4]
      exact pushCells_keeps _ _ _ _ (Heap.get?_push_of_some _ e)
    have I4 : Inv (blkH X s3 H3 scope ce fp) [] (wipe σ (own.map (·.2))) H3 s4 := I4
    have npn : ∀ b ∈ fp, ∀ p ∈ X.pn, p.1 ≠ b := fun b hb p hp => (f3 b hb).1.2.2.2.2.2 p (List.mem_append_left _ hp)
    have stat : ∀ {σ' : L2.St} {H' : Hp} {s' : Shared}, Inv (blkH X s3 H3 scope ce fp) [] σ' H' s' → (∀ b ∈ fp, H' b = none) → ∀ b ∈ fp, FpOk (blkH X s3 H3 scope ce fp) [] H' b := fun {σ' H' s'} J' hn b hb =>
      ⟨hn b hb, (J'.ok.exf b hb).1, J'.ok.exfs b hb, .inl hb, fun x c e => (J'.ok.exf b hb).2 x c e, fun p hp => npn b hb p (by rw [List.append_nil] at hp; exact hp)⟩
    have hcB : HotC (blkH X s3 H3 scope ce fp) := hc
    have loop : codeAny (model X.prog X.w) X.A (.compLoop (.ListComp elt [⟨tg, iter, ifs, 0⟩] scope pos) 0 (.ref it) (.ref D) ce) (compPost (model X.prog X.w) X.A X.xe none (EP X pins σ Q) (.ref D) s3.heap.objs.size) s4 := by
      refine compLoop_any (fun n s' => ∃ i H', Inv (blkH X s3 H3 scope ce fp) [] (wipe σ (own.map (·.2))) H' s' ∧ tn i s'.heap ∧ (∀ b ∈ fp, H' b = none) ∧ W i n H') ?_ m0 ⟨0, H3, I4, st4, nfp, w0⟩
      rintro n s5 ⟨i, H5, I5, st5, n5, w5⟩
      rcases turn i n H5 w5 with ⟨stop, qq⟩ | ⟨go, Nx, hNx, step⟩
      · refine thnF (T.done (blkH X s3 H3 scope ce fp) rfl rfl rfl hcB i [] s5 _ H5 (fun _ _ => False) I5 (stat I5 n5) st5 stop) fun r s6 ⟨hr, I6⟩ => ?_
        subst hr
        have I7 : Inv X pins σ H5 s6 := I3.call' (ch := fp) I6.os I6.base I6.hok I6.bare fun b hb => ⟨(f3 b hb).1.2.2.2.1, (f3 b hb).1.2.1, (f3 b hb).1.2.2.2.2.1, (f3 b hb).1.2.2.2.2.2⟩
        have nC : H5 s3.heap.objs.size = none := by
          have z : H5 ce.locals = none := I6.free
          rw [cL] at z
          exact z
        obtain ⟨m, hn, _⟩ := I6.loc
        have hn : s6.heap.Ns ce.locals m := hn
        rw [cL] at hn
        obtain ⟨g0, g1, g2, g3, g4, g5⟩ := I3.fpOk (Nat.le_refl _) nC
        exact ⟨m, hn, fun h' sb => ⟨.ref D, H5, I7.turned (t' := s6.toks) (fun b o hb e => (sb.2 b hb).trans e) g0 g1 g3 g4 g5, rfl, qq⟩⟩
      · refine thnF (T.item (blkH X s3 H3 scope ce fp) rfl rfl rfl hcB i [] s5 _ H5 (fun _ _ => False) I5 (stat I5 n5) st5 go) fun r s6 ⟨u, hr, h6⟩ => ?_
        subst hr
        refine thnF h6 fun _ s7 ⟨x, H7, I7, r7, y7, st7, n7⟩ => ?_
        have J7 := I7.pinned (stat I7 n7) (T.obj _ _ st7)
        refine thnF (pg.run _ s7 _ H7 x u _ J7 r7 (step x H7 y7)) fun _ s8 ⟨σ8, H8, I8, hw8, q8⟩ => ?_
        refine thnF (pt.run _ s8 σ8 H8 _ I8 q8) fun b s9 ⟨H9, I9, q9⟩ => ?_
        have fin : ∀ {s' : Shared} {H' : Hp}, Inv (blkH X s3 H3 scope ce fp) ([] ++ pinsAt fp s7.heap) σ8 H' s' → Nx H' → ∃ m, m < n ∧ ∃ i H', Inv (blkH X s3 H3 scope ce fp) [] (wipe σ (own.map (·.2))) H' s' ∧ tn i s'.heap ∧ (∀ b ∈ fp, H' b = none) ∧ W i m H' := fun {s' H'} K nx => by
          obtain ⟨m', lt, w'⟩ := hNx H' nx
          have at_ : ∀ b ∈ fp, ∀ o, s7.heap.get? b = some o → s'.heap.get? b = some o ∧ H' b = none := fun b hb o e =>
            have z := K.pin (b, o) (List.mem_append_right _ (List.mem_append_right _ (mem_pinsAt hb e)))
            ⟨z.1, z.2.1⟩
          refine ⟨m', lt, i + 1, H', (K.unpinned (pins := [])).weak (by rw [← hw8, wipe_length]) (fun j v e => ?_), T.keep _ _ _ st7 fun b hb o e => (at_ b hb o e).1, fun b hb => ?_, w'⟩
          · rw [← hw8] at e
            exact (wipe_some e).1
          · obtain ⟨o, e, _⟩ := T.obj _ _ st7 b hb
            exact (at_ b hb o e).2
        cases b with
        | false =>
          simp only [Bool.false_eq_true, if_false] at q9 ⊢
          exact fin I9 q9
        | true =>
          simp only [if_true] at q9 ⊢
          refine thnF (pe.run _ s9 σ8 H9 _ I9 q9) fun z s10 ⟨yv, H10, I10, r10, acc, hD10, hz10, nx⟩ => ?_
          exact app_ok (X := blkH X s3 H3 scope ce fp) I10 hD10 hz10 r10 fun s11 I11 => fin I11 nx
    exact codeAny_compStart_list loop (T.self X.A 0 _ _ _ st4 loop)
  rw [es3] at main
  exact main
end AuH
set_option maxHeartbeats 2000000
/-! A def that is handed the exception while it is handled; isinstance of it there. -/
namespace AuH
open PySem PySem.Spec PyProof.Rows HotX L2 L2H
/-- its promise, told of the handled exception p -/
structure FnE (P : Program) (w : World) (K : PySem.W.Frag) (mg : Str → Option Value) (base : Heap) (k : Nat) (f : Addr) (fd : FuncData) (ps : List Str) (sp : Addr × Obj → List V → Hp → VK → Prop) : Prop where
  len : ∀ p vs H Q, sp p vs H Q → vs.length = ps.length
  run : ∀ (A : Around) (outer : List Env) (s : Shared) (H : Hp) (args : Args) (us : List Value) (vs : List V) (Q : VK) (p : Addr × Obj), RoomH k A → Hot1 A p → PinOk outer H s p → Env0 P w K mg base A outer s H → BindsTo s fd args (ps.zip us) → Vals vs us → sp p vs H Q →
    codeAny (model P w) A (.call (.ref f) args) (CR CX0 outer P w H s Q (fun _ _ _ => False)) s
section
variable {P : Program} {w : World} {K : PySem.W.Frag} {mg : Str → Option Value} {base : Heap}
theorem fnE_of {x qual : Str} {st : Stmt} {f : Addr} {fd : FuncData} {N ps : List Str} {k : Nat} {sp : Addr × Obj → List V → Hp → VK → Prop} (F : L2.Fun K x qual st f fd) (S : FnScope N ps (defScope st)) (len : ∀ p vs H Q, sp p vs H Q → vs.length = ps.length)
    (hbody : ∀ (cdv : Value) (A : Around) (outer : List Env) (s : Shared) (H : Hp) (vs : List V) (Q : VK) (p : Addr × Obj), Hot1 A p → RoomH k (A.deeper (envOfC qual (defScope st) s.heap.objs.size f cdv)) → sp p vs H Q →
      ∃ t, PSs (cxH CX0 P w K mg base N qual (defScope st) f cdv A outer s H (fun _ _ _ => False) p) (defBody st) t ∧ t { nx := fun _ H' => Q .non H', rt := Q } (L2.start N vs) H) : FnE P w K mg base (k + 1) f fd ps sp := by
  obtain ⟨oc, od, kV, doc, pm, an, cdv, ct, osl, rfl, lk, hcd⟩ := F.ex
  refine ⟨len, fun A outer s H args us vs Q p hr hot hpin e0 hb r hsp => ?_⟩
  have inK : K.In s.heap := e0.mod.kin.keeps fun b o e => (e0.bs b o e).1
  have lim0 : s.heap.NoLimit := e0.mod.nolimit.keeps fun b o e => (e0.bs b o e).1
  have kinds : ∀ y ∈ ps.zip us, (defScope st).names.lookup y.1 = some .local ∨ ((defScope st).names.lookup y.1 = some .cell ∧ ((cellsFrom (s.heap.objs.size + 1) (defScope st).names []).lookup y.1).isSome = true) := by
    rintro ⟨n, v⟩ m
    exact (S.par n (List.of_mem_zip m).1).elim .inl fun q => .inr ⟨q, PySem.W.cellsFrom_some _ _ _ (.inl q)⟩
  refine codeAny_call_function hr.depth (inK _ _ lk) rfl S.co S.gen rfl (PySem.W.codeRec_of inK hcd) (hb _ _ _ _ (wpAny_newFunctionEnv_cells S.kind kinds fun env he s1 y1 => ?_))
  subst he
  refine ⟨lim0.keeps y1.toInCall.keep, codeAny_func ?_⟩
  obtain ⟨t, ht, hq⟩ := hbody cdv A outer s H vs Q p hot (hr.deeper _) hsp
  have J0 := inv_startH (CX := CX0) (E := fun _ _ _ => False) (cd := cdv) S hpin e0 (len _ _ _ _ hsp) r y1
  refine wpAny_mono (ht.run [] s1 _ H _ J0 hq) (fun fl s' z => ?_) fun _ _ z => z
  cases fl with
  | ret u =>
    obtain ⟨v, σ', H', J, rv, z⟩ := z
    exact ⟨v, H', J.os, J.bare, J.base, J.hok, rv, z⟩
  | next =>
    obtain ⟨σ', H', J, z⟩ := z
    exact ⟨.non, H', J.os, J.bare, J.base, J.hok, rfl, z⟩
  | brk =>
    obtain ⟨_, _, _, z⟩ := z
    exact z.elim
  | cont =>
    obtain ⟨_, _, _, z⟩ := z
    exact z.elim
end
section
variable {X : Cx} {k : Nat} {f : Addr} {fd : FuncData} {ps : List Str} {sp : Addr × Obj → List V → Hp → VK → Prop} {x : Str} {e : Expr} {es : List Expr} {t : TA} {q pos : Pos}
/-- its call, in a context that bears p -/
theorem pe_callE {p : Addr × Obj} (F : FnE X.prog X.w X.K X.mg X.base k f fd ps sp) (hr : RoomH k X.A) (hot : Hot1 X.A p) (hp : p ∈ X.pn) (hg : Gl X x) (hm : X.mg x = some (.ref f)) (hk : PySem.W.keepIn X.K (.ref f) = true) (hb : Binds X.K fd ps []) (ha : PA X (e :: es) t)
    (hdb : (x == ("__debug__" : Str)) = false := by decide) (he : starEach (e :: es) X.env = (false, eval e X.env) :: starEach es X.env := by rfl) (hpl : (backTo pos (starEach es X.env)).any (·.1) = false := by rfl) :
    PE X (.Call (.Name x q) (e :: es) [] pos) (fun σ H Q => t σ H fun vs H1 => sp p vs H1 Q) := by
  refine ⟨fun pins s σ H Q I h => wpAny_Call_Name_kw (ld_glob I hg hm (PySem.W.callWith_K (h₀ := X.base) I.ok.mod.kin hk (thn (ha.run pos pins s σ H _ I h) fun us s1 ⟨vs, H1, I1, r, z⟩ => ⟨I1.kIn, ?_⟩) he hpl) hdb)⟩
  have b := hb s1 us I1.kIn (by rw [List.append_nil, ← r.length]; exact F.len _ _ _ _ z)
  rw [List.append_nil] at b
  obtain ⟨p1, p2, p3, p4, p5⟩ := I1.pin p (List.mem_append_left _ hp)
  refine wpAny_call (codeAny_mono (F.run X.A X.stack s1 H1 ⟨us, []⟩ us vs Q p hr hot ⟨p1, p2, fun m => (List.mem_cons.mp (I1.stkSub p.1 m)).elim p3 p4, p5⟩ I1.env0 b r z) fun r s' hq => ?_)
  cases r with
  | error e => exact False.elim hq
  | ok fl =>
    cases fl with
    | ret u => exact I1.after hq
    | next => exact False.elim hq
    | brk => exact False.elim hq
    | cont => exact False.elim hq
/-- isinstance(e, c), e the exception that the context bears -/
theorem call_isP {a D : Addr} {oe : Obj} (C : ExcC X.K D) (hp : (a, oe) ∈ X.pn) (hz : Zc (.ref D) none oe) (hf : ∃ vs, oe.data = .fields vs) : CallR X (.builtin "isinstance") (rIsE X.K D a) := by
  rintro pins s σ H xs us Q I r ⟨c, cv, b, rfl, hcv, e, z⟩
  cases r with
  | cons rx rr =>
    cases rr with
    | cons rt rr =>
      cases rr
      cases rx
      cases hcv _ rt
      have get := (I.pin (a, oe) (List.mem_append_left _ hp)).1
      obtain ⟨vs, hv⟩ := hf
      have J : PySem.W.InstAt s.heap a oe D none := by
        obtain ⟨oc, od, da, sl⟩ := oe
        obtain ⟨rfl, rfl⟩ := hz
        cases hv
        exact ⟨get, rfl, rfl, trivial⟩
      exact PySem.W.kia_one (PySem.W.handS_kitx_exc C.hg C.hk C.hs C.hd C.ha C.hn C.ht C.hm) I.kIn J e (fun z => nomatch z) fun tk => ⟨.bl b, H, I.kept (t' := tk) fun _ _ z => z, rfl, z⟩
end
/-- the suite bears its exception -/
theorem suite_hot {X : Cx} {a : Addr} {oe : Obj} {pn : List (Addr × Obj)} {cls : Value} {d : Option Addr} (hz : L2N.Zn cls d oe) (hf : ∃ vs, oe.data = .fields vs) : Hot1 (X.suite a ((a, oe) :: pn)).A (a, oe) := by
  obtain ⟨vs, e⟩ := hf
  exact ⟨rfl, vs, e, hz.2.2 vs e⟩
end AuH
set_option maxHeartbeats 2000000
/-! Words for defs that raise, by the layer that knows the context of an exception to be None. -/
namespace Au
open PySem PySem.Spec PyProof.Rows L2
/-- a block that is never come to -/
theorem pss_any {X : Cx} {sts : List Stmt} : PSs X sts (fun _ _ _ => False) := ⟨fun _ _ _ _ _ _ h => h.elim⟩
/-- a class of errors of the text: made with one text -/
structure ErrC (K : PySem.W.Frag) (mg : Str → Option Value) (x : Str) (C : Addr) : Prop where
  g : mg x = some (.ref C)
  x : PySem.W.excIn K C [.type "ValueError", .type "Exception", .type "BaseException", .type "object"] "ValueError.__new__" = true
  k : PySem.W.keepIn K (.ref C) = true
  b : PySem.W.subIn K (.ref C) (.type "BaseException") = some true
  t : PySem.W.typeIn K (.ref C) = some (.type "type")
/-- raise x('..') -/
theorem ps_err {X : Cx} {W : WX} {x m : Str} {C : Addr} {j : Nat} {p p2 pos rpos : Pos} (tk : L2N.Takes X W) (e : ErrC X.K X.mg x C) (hc : X.calm = true := by rfl) (hg : Gl X x := by rfl) (hdb : (x == ("__debug__" : Str)) = false := by decide) :
    L2.PS X (.Raise (some (.Call (.Name x p) [.Constant (.str m) j p2] [] pos)) none rpos) (fun _ σ H => W (.ref C) none σ H) :=
  L2N.ps_raise hc tk (L2N.pmk_own PySem.F.excBase_ValueError e.x e.g e.k (raises_own e.b e.t) hg hdb)
section
variable {P : Program} {w : World} {K : PySem.W.Frag} {mg : Str → Option Value} {base : Heap}
/-- a def's promise where it may raise -/
structure CalX (P : Program) (w : World) (K : PySem.W.Frag) (mg : Str → Option Value) (base : Heap) (k : Nat) (x : Str) (sp : Sp) : Prop where
  ex : ∃ (f : Addr) (fd : FuncData) (ps : List Str), FnOk P w K mg base (L2N.CX P w) k f fd ps sp ∧ mg x = some (.ref f) ∧ PySem.W.keepIn K (.ref f) = true ∧ Binds K fd ps []
theorem calX_of {x : Str} {st : Stmt} {N ps : List Str} {k : Nat} {sp : Sp} (D : DefT K mg x st ps) (S : FnScope N ps (defScope st)) (len : ∀ vs H Q E, sp vs H Q E → vs.length = ps.length)
    (hbody : ∀ (f : Addr) (cdv : Value) (A : Around) (outer : List Env) (s : Shared) (H : Hp) (vs : List V) (Q : VK) (E : XK), Room k (A.deeper (envOfC x (defScope st) s.heap.objs.size f cdv)) → L2N.Takes (cxOf (L2N.CX P w) P w K mg base N x (defScope st) f cdv A outer s H E) (fun cls d _ H' => E cls d H') → sp vs H Q E →
      ∃ t, PSs (cxOf (L2N.CX P w) P w K mg base N x (defScope st) f cdv A outer s H E) (defBody st) t ∧ t { nx := fun _ H' => Q .non H', rt := Q } (L2.start N vs) H) : CalX P w K mg base (k + 1) x sp := by
  obtain ⟨f, fd, F, hm, b⟩ := D.ex
  obtain ⟨oc, od, kV, doc, pm, an, cdv, ct, osl, rfl, lk, hcd⟩ := F.ex
  exact ⟨f, _, ps, fn_of lk hcd S len fun A outer s H vs Q E hr z => hbody f cdv A outer s H vs Q E hr (L2N.takes_of rfl rfl rfl rfl) z, hm, F.kp, b⟩
theorem calX_mono {j k : Nat} {x : Str} {sp : Sp} (c : CalX P w K mg base j x sp) (h : j ≤ k) : CalX P w K mg base k x sp := by
  obtain ⟨f, fd, ps, F, r⟩ := c.ex
  exact ⟨f, fd, ps, F.mono h, r⟩
end
/-- its call, where what it raises is wished for at W -/
def tX (sp : Sp) (W : WX) (t : TA) : TE := fun σ H Q => t σ H fun vs H1 => sp vs H1 Q (fun cls d H' => W cls d σ H')
theorem pe_cX {X : Cx} {W : WX} {j k : Nat} {x : Str} {sp : Sp} {e : Expr} {es : List Expr} {t : TA} {p pos : Pos} (c : CalX X.prog X.w X.K X.mg X.base j x sp) (tk : L2N.Takes X W) (hr : Room k X.A) (hj : j ≤ k) (hg : Gl X x) (ha : PA X (e :: es) t)
    (hdb : (x == ("__debug__" : Str)) = false := by decide) (he : starEach (e :: es) X.env = (false, eval e X.env) :: starEach es X.env := by rfl) (hpl : (backTo pos (starEach es X.env)).any (·.1) = false := by rfl) : PE X (.Call (.Name x p) (e :: es) [] pos) (tX sp W t) := by
  obtain ⟨f, fd, ps, F, hm, hk, b⟩ := c.ex
  exact pe_callS F (hr.mono hj) hg hm hk b (fun σ => L2N.passAt tk σ) ha hdb he hpl
/-- raises the class at C, all kept -/
def Rz (C : Addr) (H : Hp) (E : XK) : Prop := ∀ H', Same H H' → E (.ref C) none H'
theorem Rz.up {C : Addr} {H H1 : Hp} {E : XK} (r : Rz C H E) (s : Same H H1) : Rz C H1 E := fun H' s1 => r H' (s.trans s1)
theorem cxUpN {P : Program} {w : World} : StX.CXUp (L2N.CX P w) := by
  rintro outer s H s2 H2 E e s' un kp ho ⟨a, B, H', cls, d, rfl, fl, hok, ub, na, os, bare, z⟩
  have none2 : ∀ b o, s.heap.get? b = some o → H b = none → H2 b = none := fun b o q n => un.free b o q n (fun z => nomatch z)
  refine ⟨a, B, H', cls, d, rfl, fl, hok, ⟨fun b o q n m => ub.keep b o (kp b o q) (none2 b o q n) m, fun b o q m => ub.slot b o (kp b o q) m, fun b o q n => ub.free b o (kp b o q) (none2 b o q n), fun b o q m => ub.there b o (kp b o q) m, fun b xs q => ub.tups b xs (un.tups b xs q), fun b o v q => ub.frzs b o v (un.frzs b o v q), fun b ps q => ?_⟩, na, os.trans ho, bare, z⟩
  obtain ⟨m1, e1⟩ := un.tbls b ps q
  obtain ⟨m2, e2⟩ := ub.tbls b _ e1
  exact ⟨m1 ++ m2, by rw [e2, Array.append_assoc]⟩
/-- a def's promise by the positional values of its call -/
structure CalR (P : Program) (w : World) (K : PySem.W.Frag) (mg : Str → Option Value) (base : Heap) (k : Nat) (x : Str) (sp : Sp) : Prop where
  ex : ∃ f : Addr, FnR P w K mg base (L2N.CX P w) k f sp ∧ mg x = some (.ref f) ∧ PySem.W.keepIn K (.ref f) = true
section
variable {P : Program} {w : World} {K : PySem.W.Frag} {mg : Str → Option Value} {base : Heap}
theorem fnR_of {k : Nat} {f : Addr} {fd : FuncData} {ps : List Str} {sp : Sp} {dvs : List V} {ds : List Value} (F : FnOk P w K mg base (L2N.CX P w) k f fd ps sp) (b : Binds K fd ps ds) (rd : Vals dvs ds) : FnR P w K mg base (L2N.CX P w) k f (fun vs H Q E => sp (vs ++ dvs) H Q E) := by
  intro A outer s H us vs Q E hr e0 r h
  have r2 := r.append rd
  have inK : K.In s.heap := e0.mod.kin.keeps fun b o e => (e0.bs b o e).1
  exact F.run A outer s H ⟨us, []⟩ (us ++ ds) (vs ++ dvs) Q E hr e0 (b s us inK (by rw [← r2.length]; exact F.len _ _ _ _ h)) r2 h
theorem fnR_imp {k : Nat} {f : Addr} {sp sp' : Sp} (F : FnR P w K mg base (L2N.CX P w) k f sp) (h : ∀ vs H Q E, sp' vs H Q E → sp vs H Q E) : FnR P w K mg base (L2N.CX P w) k f sp' := fun A outer s H us vs Q E hr e0 r z => F A outer s H us vs Q E hr e0 r (h _ _ _ _ z)
theorem calR_of {k : Nat} {x : Str} {sp : Sp} (c : CalX P w K mg base k x sp) : CalR P w K mg base k x sp := by
  obtain ⟨f, fd, ps, F, hm, hk, b⟩ := c.ex
  exact ⟨f, fnR_imp (fnR_of F b .nil) fun vs H Q E z => by rw [List.append_nil]; exact z, hm, hk⟩
end
theorem pe_cR {X : Cx} {W : WX} {j k : Nat} {x : Str} {sp : Sp} {e : Expr} {es : List Expr} {t : TA} {p pos : Pos} (c : CalR X.prog X.w X.K X.mg X.base j x sp) (tk : L2N.Takes X W) (hr : Room k X.A) (hj : j ≤ k) (hg : Gl X x) (ha : PA X (e :: es) t)
    (hdb : (x == ("__debug__" : Str)) = false := by decide) (he : starEach (e :: es) X.env = (false, eval e X.env) :: starEach es X.env := by rfl) (hpl : (backTo pos (starEach es X.env)).any (·.1) = false := by rfl) : PE X (.Call (.Name x p) (e :: es) [] pos) (tX sp W t) := by
  obtain ⟨f, F, hm, hk⟩ := c.ex
  refine ⟨fun pins s σ H Q I h => wpAny_Call_Name_kw (ld_glob I hg hm (PySem.W.callWith_K (h₀ := X.base) I.ok.mod.kin hk (thn (ha.run pos pins s σ H _ I h) fun us s1 ⟨vs, H1, I1, r, z⟩ => ⟨I1.kIn, ?_⟩) he hpl) hdb)⟩
  refine wpAny_call (codeAny_mono (F X.A X.stack s1 H1 us vs Q _ (hr.mono hj) I1.env0 r z) fun r s' hq => ?_)
  cases r with
  | error e => exact tk e s' (L2N.XE.of_call I1 (fun _ _ _ h => h) hq)
  | ok fl =>
    cases fl with
    | ret u => exact I1.after hq
    | next => exact False.elim hq
    | brk => exact False.elim hq
    | cont => exact False.elim hq
/-- a class of the text is made, its __init__ may raise -/
theorem pe_mkX {X : Cx} {W : WX} {k : Nat} {C f : Addr} {fd : FuncData} {ps : List Str} {sp : Sp} {x : Str} {e : Expr} {es : List Expr} {t : TA} {p pos : Pos} (M : Mk X.K C f) (F : FnOk X.prog X.w X.K X.mg X.base (L2N.CX X.prog X.w) k f fd ps sp) (tk : L2N.Takes X W) (hr : Room (k + 1) X.A) (hg : Gl X x) (hm : X.mg x = some (.ref C)) (hb : Binds X.K fd ps [])
    (ha : PA X (e :: es) t) {E : XK} (hW : ∀ cls d σ H, E cls d H → W cls d σ H) (hdb : (x == ("__debug__" : Str)) = false := by decide) (he : starEach (e :: es) X.env = (false, eval e X.env) :: starEach es X.env := by rfl) (hpl : (backTo pos (starEach es X.env)).any (·.1) = false := by rfl) :
    PE X (.Call (.Name x p) (e :: es) [] pos) (tMake C sp [] E t) := pe_make M F hr hg hm hb .nil (L2N.passes_call tk hW) ha hdb he hpl
end Au
set_option maxHeartbeats 4000000
/-! list(g()) of a generator def that raises ahead of its first yield. -/
namespace Au
open PySem PySem.Spec PyProof.Rows L2
structure GenX (P : Program) (w : World) (K : PySem.W.Frag) (mg : Str → Option Value) (base : Heap) (k : Nat) (x : Str) (sp : Sp) : Prop where
  ex : ∃ (f : Addr) (params : Arguments) (body : List Stmt) (scope : Scope) (oc : Value) (od : Option Addr) (kV doc pm : Value) (an : Option Addr) (cdv ct : Value) (osl : Array (Option Value)) (N ps : List Str),
    K.lookup f = some ⟨oc, od, .func (PySem.W.fnOf x x params body scope .none kV doc pm an cdv ct), osl⟩ ∧ PySem.W.codeIn K cdv x = true ∧ PySem.W.keepIn K (.ref f) = true ∧ mg x = some (.ref f) ∧ GScope N ps scope ∧
    Binds K (PySem.W.fnOf x x params body scope .none kV doc pm an cdv ct) ps [] ∧ (∀ vs H Q E, sp vs H Q E → vs.length = ps.length) ∧
    ∀ (A : Around) (outer : List Env) (s : Shared) (H : Hp) (vs : List V) (Q : VK) (E : XK), Room k (A.deeper (envOfC x scope s.heap.objs.size f cdv)) → sp vs H Q E →
      ∀ H0, ∃ t, PSs (cxOf (L2N.CX P w) P w K mg base N x scope f cdv A outer s H0 E) body t ∧ t { nx := fun _ _ => False, rt := fun _ _ => False } (L2.start N vs) H
  up : ∃ C : Addr, PySem.W.subIn K (.ref C) (.type "StopIteration") = some false ∧ ∀ vs H H' Q E, Same H H' → sp vs H Q E → sp vs H' Q fun cls d H2 => cls = .ref C ∧ E cls d H2 ∧ Same H' H2
theorem notStopN {P : Program} {w : World} {K : PySem.W.Frag} {outer : List Env} {H : Hp} {s s' : Shared} {E : XK} {e : Value} (hE : NoStop K E) (kin : K.In s'.heap) (c : L2N.CX P w outer H s E e s') : NotStop (model P w) e s'.heap := by
  obtain ⟨a, B, H', cls, d, rfl, fl, _, _, _, _, _, hW⟩ := c
  obtain ⟨oe, vs, he, hz, _⟩ := fl.there
  have L := PySem.W.looks_subIn (M := model P w) kin (hE cls d H' hW)
  intro A Q E' s2 hs hq
  simp only [isInstance]
  refine wpAny_bind (wpAny_typeOf_ref (o := oe) (by rw [hs]; exact he) ?_)
  rw [hz.1]
  exact L A Q E' s2 (fun b o z => by rw [hs]; exact z) hq
/-- the first next of a generator whose body raises at once -/
theorem next_raises {P : Program} {w : World} {A : Around} {s : Shared} {a : Addr} {g : Nat} {body : List Stmt} {env : Env} {Er : Value → Shared → Prop} {Q : Option Value → Shared → Prop} {E : Value → Shared → Prop} (hh : A.handled = none) (lim : s.heap.NoLimit) (room : A.depth < recursionLimit)
    (hg : s.heap.IsGen a g) (hgs : s.gens[g]? = some (.fresh (.func body env)))
    (run : wpAny (model P w) (A.in1.deeper env) (execs body env) (fun _ _ => False) (fun e s' => wpAny (model P w) (A.in1.deeper env) (leaving env e) (fun _ s2 => Er e s2) (fun e2 s2 => Er e2 s2) s') (s.setGen g .running))
    (hE : ∀ e s1, Er e s1 → s1.heap.IsGen a g ∧ NotStop (model P w) e s1.heap ∧ E e (s1.setGen g .finished)) : wpAny (model P w) A (pyNext (.ref a)) Q E s := by
  refine next_genG (n := 0) (F := fun _ _ _ => False) (Er := Er) (Y := fun _ _ _ _ _ => False) hh lim room hg hgs ⟨rfl, ?_⟩ (fun _ _ _ _ z => z.elim) (fun _ z => z.elim) hE
  refine seg_func (seg_wrap ?_)
  rw [GenW.over_func]
  refine wpAny_mono run (fun _ _ z => z.elim) fun e s' z => seg_wrap ?_
  rw [GenW.over_func]
  exact wpAny_mono z (fun _ s2 q => seg_end (.error e) (.inr ⟨e, rfl, q⟩)) fun e2 s2 q => seg_end (.error e2) (.inr ⟨e2, rfl, q⟩)
end Au
namespace Au
open PySem PySem.Spec PyProof.Rows L2
/-- list(g): up to the first next, which raises -/
theorem list_raises {P : Program} {w : World} {A : Around} {s : Shared} {a : Addr} {g : Nat} {Q : Value → Shared → Prop} {E : Value → Shared → Prop} (lim : s.heap.NoLimit) (hg : s.heap.IsGen a g) (al : a < s.heap.objs.size)
    (next : ∀ h2 : Heap, (∀ b o, s.heap.get? b = some o → h2.get? b = some o) → wpAny (model P w) A.in1.in1 (pyNext (.ref a)) (fun _ _ => False) E { s with heap := h2 }) : wpAny (model P w) A (call (.type "list") [.ref a]) Q E s := by
  have ne : s.heap.objs.size ≠ a := Nat.ne_of_gt al
  refine callType_codes (Q₁ := fun ob s1 => ob = .ref s.heap.objs.size ∧ s1 = { s with heap := s.heap.push { cls := .type "list", data := .seq #[] } }) F.called_list (F.typeCall_list_1 _) F.entry_list_init (code_list_new _ ⟨rfl, rfl⟩) ?_
  rintro ob s1 ⟨rfl, rfl⟩
  have o1 : (s.heap.push { cls := .type "list", data := .seq #[] }).get? s.heap.objs.size = some { cls := .type "list", data := .seq #[] } := Heap.get?_push_size _ rfl
  have old : ∀ (h : Heap) (f : Obj → Obj), (∀ b o, s.heap.get? b = some o → h.get? b = some o) → ∀ b o, s.heap.get? b = some o → (h.update s.heap.objs.size f).get? b = some o := fun h f k b o e =>
    (Heap.get?_update_other _ _ (Nat.ne_of_gt (Heap.lt_size e))).trans (k b o e)
  have k1 : ∀ b o, s.heap.get? b = some o → (s.heap.push { cls := .type "list", data := .seq #[] }).get? b = some o := fun b o e => Heap.get?_push_of_some _ e
  have k2 := old _ (Obj.mapSeq (fun _ => (#[] : Array Value))) k1
  have o2 := Heap.get?_update_self (Obj.mapSeq (fun _ => (#[] : Array Value))) o1 rfl
  have k3 := old _ (Obj.mapSeq (·.push Value.none)) k2
  have o3 := Heap.get?_update_self (Obj.mapSeq (·.push Value.none)) o2 rfl
  have k4 := old _ (Obj.mapSeq (·.pop)) k3
  have isg : ∀ {h : Heap}, (∀ b o, s.heap.get? b = some o → h.get? b = some o) → h.IsGen a g := fun k => hg.keeps k
  refine ⟨⟨_, o1, rfl⟩, F.args_list_init_2 _ _, ?_⟩
  refine wpAny_bind (m := Builtin.List.listItems (.ref s.heap.objs.size)) ?_
  unfold Builtin.List.listItems
  refine wpAny_bind (wpAny_seqItems o1 rfl (wpAny_pure (wpAny_bind (m := updateSeq s.heap.objs.size fun _ => #[]) (wpAny_updateSeq o1 rfl (wpAny_bind (m := letGo (#[] : Array Value).toList.reverse) (wpAny_letGo ?_))))))
  show wpAny _ A.in1.in1 (Builtin.List.listExtendWith (.ref s.heap.objs.size) (.ref a) .none) _ _ _
  unfold Builtin.List.listExtendWith
  refine wpAny_bind (wpAny_typeOf (Heap.IsGen.typeIs (s := { s with heap := _ }) (isg k2)) ?_)
  simp only [show Builtin.List.listSameRef (.ref s.heap.objs.size) (.ref a) = false by simp [Builtin.List.listSameRef, ne], show (Value.type "generator" == Value.type "list") = false by decide, show (Value.type "generator" == Value.type "tuple") = false by decide, Bool.or_false, Bool.false_eq_true, if_false]
  refine wpAny_bind (wpAny_pyIter_gen (s := { s with heap := _ }) (isg k2) (wpAny_bind (wpAny_holding ?_)))
  unfold Builtin.List.listLengthHint
  refine wpAny_bind (wpAny_specialOf (Heap.IsGen.typeIs (s := { s with heap := _ }) (isg k2)) F.gen_no_len (wpAny_bind (m := specialOf (Value.ref a) (Str.ofString "__length_hint__")) (wpAny_specialOf (Heap.IsGen.typeIs (s := { s with heap := _ }) (isg k2)) F.gen_no_hint (wpAny_pure ?_))))
  refine wpAny_bind (m := rule "list.extend.makes-room") (wpAny_rule (wpAny_bind (m := Builtin.List.listTouch (.ref s.heap.objs.size)) ?_))
  refine wpAny_bind (m := updateSeq s.heap.objs.size (·.push .none)) (wpAny_updateSeq o2 rfl (wpAny_updateSeq (hz := by seq_fits) o3 rfl (wpAny_pure ⟨plainId_quiet F.plain_extend_loop _, ?_⟩)))
  refine codeAny_builtin F.entry_extend_loop ?_
  rw [Around.under_plainId F.plain_extend_loop _]
  exact wpAny_bind (wpAny_mono (next _ k4) (fun _ _ z => z.elim) fun _ _ z => z)
end Au
namespace Au
open PySem PySem.Spec PyProof.Rows L2
theorem pe_listGen {X : Cx} {W : WX} {j k : Nat} {nm x : Str} {sp : Sp} {e : Expr} {es : List Expr} {t : TA} {p p2 pos pos2 : Pos} (c : GenX X.prog X.w X.K X.mg X.base j x sp) (tk : L2N.Takes X W) (hr : Room k X.A) (hj : j + 3 ≤ k) (hgL : Gl X nm) (hmL : X.mg nm = none) (hv : bootBuiltins nm = some (.type "list")) (hg : Gl X x) (ha : PA X (e :: es) t)
    (hnm : nm ≠ "__name__" := by decide) (hdb : (nm == ("__debug__" : Str)) = false := by decide) (hdb2 : (x == ("__debug__" : Str)) = false := by decide) (he : starEach (e :: es) X.env = (false, eval e X.env) :: starEach es X.env := by rfl) (hpl : (backTo pos2 (starEach es X.env)).any (·.1) = false := by rfl)
    (heL : starEach [.Call (.Name x p2) (e :: es) [] pos2] X.env = (false, eval (.Call (.Name x p2) (e :: es) [] pos2) X.env) :: starEach [] X.env := by rfl) : PE X (.Call (.Name nm p) [.Call (.Name x p2) (e :: es) [] pos2] [] pos) (tX sp W t) := by
  obtain ⟨⟨f, params, body, scope, oc, od, kV, doc, pm, an, cdv, ct, osl, N, ps, lk, hcd, hk, hm, S, hb, len, hbody⟩, C, noS, up⟩ := c
  refine ⟨fun pins s σ H Q I h => wpAny_Call_Name_kw (ld_blt I hgL hmL hv ?_ hnm hdb)⟩
  refine PyProof.Rows.callWith_type1 ?_ heL rfl
  rw [heL]
  refine Calls.spliced_cons (wpAny_Call_Name_kw (ld_glob I hg hm (PySem.W.callWith_K (h₀ := X.base) I.ok.mod.kin hk (thn (ha.run pos2 pins s σ H _ I h) fun us s1 ⟨vs, H1, I1, r, z⟩ => ⟨I1.kIn, ?_⟩) he hpl) hdb2))
  have hl : vs.length = ps.length := len _ _ _ _ z
  have hlu : us.length = ps.length := by rw [← r.length]; exact hl
  have b0 := hb s1 us I1.kIn (by rw [List.append_nil]; exact hlu)
  rw [List.append_nil] at b0
  have e0 := I1.env0
  have inK : X.K.In s1.heap := I1.kIn
  have lim0 : s1.heap.NoLimit := I1.nolimit
  have kinds : ∀ y ∈ ps.zip us, scope.names.lookup y.1 = some .local ∨ (scope.names.lookup y.1 = some .cell ∧ ((cellsFrom (s1.heap.objs.size + 1) scope.names []).lookup y.1).isSome = true) := by
    rintro ⟨n, v⟩ m
    exact (S.par n (List.of_mem_zip m).1).elim .inl fun q => .inr ⟨q, PySem.W.cellsFrom_some _ _ _ (.inl q)⟩
  have room : Room (j + 3) X.A := hr.mono hj
  refine wpAny_call (codeAny_call_generator room.depth (inK _ _ lk) rfl S.co S.gen rfl (PySem.W.codeRec_of inK hcd) (b0 _ _ _ _ (wpAny_newFunctionEnv_cells S.kind kinds fun env hev s2 y1 => ?_)))
  subst hev
  have keep1 : ∀ b o, s1.heap.get? b = some o → s2.heap.get? b = some o := y1.toInCall.keep
  have lim1 : s2.heap.NoLimit := lim0.keeps keep1
  refine ⟨lim1, ?_⟩
  obtain ⟨h1, tk1, es2, _⟩ := y1.done
  have os2 : s2.os = s1.os := by rw [es2]
  have gens2 : s2.gens = s1.gens := by rw [es2]
  refine Calls.spliced_nil ?_
  have push : ∀ b o, s2.heap.get? b = some o → (s2.heap.push { cls := .type "generator", data := .fields #[.int s2.gens.size 0, .str x s2.toks, .str x (s2.toks + 1)] }).get? b = some o := fun b o e => Heap.get?_push_of_some _ e
  have isg : (s2.heap.push { cls := .type "generator", data := .fields #[.int s2.gens.size 0, .str x s2.toks, .str x (s2.toks + 1)] }).IsGen s2.heap.objs.size s2.gens.size := ⟨_, _, _, Heap.get?_push_size _ rfl, rfl, rfl, rfl⟩
  have szlt : s2.heap.objs.size < (s2.heap.push { cls := .type "generator", data := .fields #[.int s2.gens.size 0, .str x s2.toks, .str x (s2.toks + 1)] }).objs.size := by
    rw [Heap.size_push]
    exact Nat.lt_succ_self _
  refine list_raises (g := s2.gens.size) (lim1.keeps push) isg szlt fun h2 k2 => ?_
  have keep2 : ∀ b o, s2.heap.get? b = some o → h2.get? b = some o := fun b o e => k2 b o (push b o e)
  have bare2 : AllBare s2.gens := by
    rw [gens2]
    exact I1.bare
  have goH := k2 _ _ (Heap.get?_push_size s2.heap (o := { cls := .type "generator", data := .fields #[.int s2.gens.size 0, .str x s2.toks, .str x (s2.toks + 1)] }) rfl)
  have lt1 : s1.heap.objs.size < s2.heap.objs.size := y1.toInCall.ns.lt
  have newA : H1 s2.heap.objs.size = none := e0.hok.fresh (Nat.le_of_lt lt1)
  refine next_raises (g := s2.gens.size) (body := body) (env := envOfC x scope s1.heap.objs.size f cdv)
    (Er := fun e s' => L2N.CX X.prog X.w X.stack H1 s1 (fun cls d H2 => cls = .ref C ∧ W cls d σ H2 ∧ Same (upd H1 s2.heap.objs.size (ObjO s2.heap.objs.size { cls := .type "generator", data := .fields #[.int s2.gens.size 0, .str x s2.toks, .str x (s2.toks + 1)] })) H2) e s')
    room.hd (lim1.keeps keep2) (by have := room.dp; show X.A.depth < _; omega) (isg.keeps k2) (Array.getElem?_push_size ..) ?_ fun e s' cx => ?_
  · have rW : Room j (X.A.in1.in1.in1.deeper (envOfC x scope s1.heap.objs.size f cdv)) := by
      refine ⟨room.hd, ?_, ?_⟩
      · have := room.dp
        show X.A.depth + 1 + 3 * j + 5 < _
        omega
      · have := room.un
        show X.A.units + 1 + 1 + 1 + 3 + 16 * j + 200 < _
        omega
    have e0w : Env0 X.prog X.w X.K X.mg X.base X.A.in1.in1.in1 X.stack s1 H1 := ⟨e0.frames, e0.mod, e0.bs, e0.bsz, e0.funs, e0.frf, e0.hok, e0.bare⟩
    have zz := up vs H1 _ Q _ (same_new (o := ObjO s2.heap.objs.size { cls := .type "generator", data := .fields #[.int s2.gens.size 0, .str x s2.toks, .str x (s2.toks + 1)] }) newA) z
    obtain ⟨tb, ht, hq⟩ := hbody X.A.in1.in1.in1 X.stack s1 _ vs Q _ rW zz H1
    have J0 := inv_startG (P := X.prog) (w := X.w) (f := f) (cd := cdv) (qual := x) (E := fun cls d H2 => cls = .ref C ∧ W cls d σ H2 ∧ Same (upd H1 s2.heap.objs.size (ObjO s2.heap.objs.size { cls := .type "generator", data := .fields #[.int s2.gens.size 0, .str x s2.toks, .str x (s2.toks + 1)] })) H2) S (show X.A.in1.in1.in1.handled = none from room.hd) e0w hl r y1
    have J1 : Inv _ [] (L2.start N vs) (upd H1 s2.heap.objs.size (ObjO s2.heap.objs.size { cls := .type "generator", data := .fields #[.int s2.gens.size 0, .str x s2.toks, .str x (s2.toks + 1)] })) _ :=
      J0.call' (s' := ({ s2 with gens := s2.gens.push (.fresh (.func body (envOfC x scope s1.heap.objs.size f cdv))), toks := s2.toks + 1 + 1, heap := h2 } : Shared).setGen s2.gens.size .running) (ch := []) rfl
        (Un.laid keep2 (Nat.le_refl _) newA) (J0.hok.laid keep2 (Nat.le_refl _) ⟨goH, ⟨_, goH⟩, fun g1 g2 e st => st _ e⟩) (allBare_setGen (s := { s2 with gens := s2.gens.push (.fresh (.func body (envOfC x scope s1.heap.objs.size f cdv))), toks := s2.toks + 1 + 1, heap := h2 }) (AllBare.push bare2 rfl) rfl) fun b hb => nomatch hb
    exact wpAny_mono (ht.run [] _ _ _ _ (J1.toTry _) hq) (fun fl s' q => by
      cases fl with
      | next => obtain ⟨_, _, _, q⟩ := q; exact q.elim
      | ret u => obtain ⟨_, _, _, _, _, q⟩ := q; exact q.elim
      | brk => obtain ⟨_, _, _, q⟩ := q; exact q.elim
      | cont => obtain ⟨_, _, _, q⟩ := q; exact q.elim) fun _ _ q => q
  · obtain ⟨ea, B, H', cls, d, rfl, fl, okB, ub, na, os, bare, hc, hW, hS⟩ := id cx
    have stand := hS _ _ upd_same
    obtain ⟨at_, _, _⟩ := okB _ _ stand
    have inK2 : X.K.In s'.heap := I1.ok.mod.kin.keeps fun b o eb => fl.1 b o (ub.keep b o (I1.bs b o eb).1 (I1.bs b o eb).2 fun hm => by
      rcases List.mem_cons.mp (I1.stkSub b hm) with q | q
      · have g1 := Heap.lt_size eb
        rw [q] at g1
        exact Nat.lt_irrefl _ (Nat.lt_of_lt_of_le g1 (Nat.le_trans I1.ok.bsz I1.ok.above))
      · exact I1.ok.nofr eb q)
    refine ⟨⟨_, _, _, fl.1 _ _ at_, rfl, rfl, rfl⟩, notStopN (fun cls d H2 q => by rw [q.1]; exact noS) inK2 cx, tk _ _ (L2N.XE.of_call (E := fun cls d H2 => cls = .ref C ∧ W cls d σ H2 ∧ _) I1 (fun _ _ _ q => q.2.1) ⟨ea, B, H', cls, d, rfl, fl, okB, ub, na, os, allBare_setGen bare rfl, hc, hW, hS⟩)⟩
end Au
set_option maxHeartbeats 4000000
/-! Lists of lambdas. -/
namespace Au
open PySem PySem.Spec PyProof.Rows L2 LamX
section
variable {X : Cx}
theorem PE.imp {e : Expr} {t t' : TE} (h : PE X e t) (i : ∀ σ H Q, t' σ H Q → t σ H Q) : PE X e t' := ⟨fun pins s σ H Q I q => h.run pins s σ H Q I (i _ _ _ q)⟩
theorem PA.imp {es : List Expr} {t t' : TA} (h : PA X es t) (i : ∀ σ H Q, t' σ H Q → t σ H Q) : PA X es t' := ⟨fun pos pins s σ H Q I q => h.run pos pins s σ H Q I (i _ _ _ q)⟩
end
/-- a lambda whose body, called, does what t says: N its captured names -/
structure LamOk (P : Program) (w : World) (K : PySem.W.Frag) (mg : Str → Option Value) (base : Heap) (k : Nat) (N : List Str) (q : Str) (t : XK → TE) (params : Arguments) (body : Expr) (scope : Scope) : Prop where
  free : FreeS scope
  bind : ∀ (cl : List (Str × Addr)) (pm cv ctv : Value), bindArgs (PySem.W.kla_fn "<lambda>" q params body scope cl pm cv ctv) ⟨[], []⟩ = pure []
  names : ∀ y ∈ scope.names, y.2 = .free → y.1 ∈ N
  body : ∀ (cl : List (Str × Addr)) (f c' : Addr) (A : Around) (outer : List Env) (s : Shared) (H : Hp) (E : XK), Room k (A.deeper (PySem.W.envX q scope s.heap.objs.size f (.ref c') cl)) → PE (cloCx P w K mg base N q scope cl f c' A outer s H E) body (t E)
/-- such a lambda stands at f; cells: where its maker's cells are -/
def MadeAt (P : Program) (w : World) (K : PySem.W.Frag) (mg : Str → Option Value) (base : Heap) (k : Nat) (N : List Str) (q : Str) (t : XK → TE) (cells : List (Str × Addr)) (H : Hp) (f : Addr) : Prop :=
  ∃ (params : Arguments) (body : Expr) (scope : Scope) (pm : Value) (c' : Addr) (ctv : Value), LamOk P w K mg base k N q t params body scope ∧ H f = some (ObjO f (PySem.W.kla_obj "<lambda>" q params body scope (cloFrom cells scope.names []) pm c' ctv)) ∧ H c' = some (CodeO c' q)
theorem objO_ne {f : Addr} {ob : Obj} (ps : Array Value) : ObjO f ob ≠ .tbl ps := fun z => by
  unfold ObjO at z
  cases z
theorem cellO_ne {C : Addr} {x : V} (ps : Array Value) : CellO C x ≠ .tbl ps := fun z => by
  unfold CellO at z
  cases z
section
variable {P : Program} {w : World} {K : PySem.W.Frag} {mg : Str → Option Value} {base : Heap} {k : Nat} {N : List Str} {q : Str} {t : XK → TE} {cells : List (Str × Addr)} {H H' : Hp} {f : Addr}
theorem MadeAt.ext (m : MadeAt P w K mg base k N q t cells H f) (e : ExtN H H') : MadeAt P w K mg base k N q t cells H' f := by
  obtain ⟨params, body, scope, pm, c', ctv, ok, h1, h2⟩ := m
  exact ⟨params, body, scope, pm, c', ctv, ok, e _ _ h1 objO_ne, e _ _ h2 codeO_ne⟩
/-- called: the captured names are the cells that are tracked -/
theorem MadeAt.clo {Q : VK} {E : XK} {σ : L2.St} (m : MadeAt P w K mg base k N q t cells H f) (nd : N.Nodup) (len : σ.length = N.length) (inj : ∀ y z c, cells.lookup y = some c → cells.lookup z = some c → y = z)
    (at_ : ∀ (i : Nat) (y : Str), N[i]? = some y → ∃ C x, cells.lookup y = some C ∧ σ[i]? = some (some x) ∧ H C = some (CellO C x))
    (ht : ∀ cs : List Addr, AllCells cs H → t (fun cls d H' => E cls d (back cs H H')) σ (hide cs H) fun v H' => Q v (back cs H H')) : CloOk P w K mg base (k + 1) f H Q E := by
  obtain ⟨params, body, scope, pm, c', ctv, ok, h1, h2⟩ := m
  have cm : ∀ y c, (cloFrom cells scope.names []).lookup y = some c → y ∈ N ∧ cells.lookup y = some c := fun y c e => by
    rcases cloFrom_mem (PySem.mem_of_lookup e) with hm | ⟨g1, g2⟩
    · cases hm
    · have yN := ok.names _ g1 rfl
      obtain ⟨i, hi⟩ := List.mem_iff_getElem?.mp yN
      obtain ⟨C, x, e1, _, _⟩ := at_ i y hi
      refine ⟨yN, ?_⟩
      rw [e1] at g2
      rw [e1]
      exact congrArg some g2.symm
  have all : AllCells ((cloFrom cells scope.names []).map (·.2)) H := fun c hc => by
    obtain ⟨⟨y, c2⟩, hm, rfl⟩ := List.mem_map.mp hc
    rcases cloFrom_mem hm with hm | ⟨g1, g2⟩
    · cases hm
    · obtain ⟨i, hi⟩ := List.mem_iff_getElem?.mp (ok.names _ g1 rfl)
      obtain ⟨C, x, e1, _, e3⟩ := at_ i y hi
      have g2 : c2 = (cells.lookup y).getD 0 := g2
      rw [e1] at g2
      cases g2
      exact ⟨x, e3⟩
  refine ⟨⟨_, h1⟩, fun A outer s hr e0 => ?_⟩
  refine clo_run (N := N) (σ := σ) (t := t) hr e0 ok.free ⟨nd, len, fun y hy => mem_lookup (cloFrom_has (cells := cells) (acc := []) (PySem.mem_of_lookup hy)), fun y c e => ?_, fun y z c e1 e2 => inj y z c (cm y c e1).2 (cm z c e2).2⟩ all h1 h2 (ok.bind _ _ _ _) (fun A outer s H E r => ok.body _ _ _ A outer s H E r) (ht _ all)
  obtain ⟨yN, e1⟩ := cm y c e
  obtain ⟨i, hi⟩ := List.mem_iff_getElem?.mp yN
  obtain ⟨C, x, g1, g2, g3⟩ := at_ i y hi
  rw [e1] at g1
  cases g1
  exact ⟨i, x, hi, g2, g3⟩
end
/-- a written lambda that the maker X may make -/
def MkOk (X : Cx) (k : Nat) (N : List Str) (t : XK → TE) (e : Expr) : Prop := ∃ (params : Arguments) (body : Expr) (scope : Scope) (pos : Pos), e = .Lambda params body scope pos ∧ defaultsOf params X.env = ([], []) ∧
  (∀ y ∈ scope.names, y.2 = .free → X.env.scope.names.lookup y.1 = some .cell ∨ X.env.scope.names.lookup y.1 = some .free) ∧ LamOk X.prog X.w X.K X.mg X.base k N (X.env.qual ++ "<lambda>") t params body scope
def tLams (X : Cx) (T : List (Addr × Str)) (k : Nat) (N : List Str) (t : XK → TE) : TA := fun _ H Q => Tabs T H ∧ ∀ (fs : List Addr) (H1 : Hp), ExtN H H1 → Tabs T H1 → (∀ f ∈ fs, MadeAt X.prog X.w X.K X.mg X.base k N (X.env.qual ++ "<lambda>") t X.env.cells H1 f) → fs.length ≤ 60 → Q (fs.map V.ref) H1
theorem extN_new {H : Hp} {p : Addr} {o : HO} (h : H p = none) : ExtN H (upd H p o) := fun b u e _ => by
  rw [upd_ne (ne_of_none e h)]
  exact e
theorem pa_lams {X : Cx} {T : List (Addr × Str)} {c P : Addr} {k : Nat} {N : List Str} {t : XK → TE} (TB : TabB X.base X.mg c P) (hcode : X.env.code = .ref c) (hm : (P, X.env.qual ++ "<lambda>") ∈ T) (hu : ∀ p ∈ T, p.1 = P → p.2 = X.env.qual ++ "<lambda>") :
    ∀ (es : List Expr), es.length ≤ 60 → (∀ e ∈ es, MkOk X k N t e) → PA X es (tLams X T k N t) := by
  have gen : ∀ es : List Expr, (∀ e ∈ es, MkOk X k N t e) → PA X es fun _ H Q => Tabs T H ∧ ∀ (fs : List Addr) (H1 : Hp), ExtN H H1 → Tabs T H1 → (∀ f ∈ fs, MadeAt X.prog X.w X.K X.mg X.base k N (X.env.qual ++ "<lambda>") t X.env.cells H1 f) → fs.length = es.length → Q (fs.map V.ref) H1 := by
    intro es
    induction es with
    | nil => exact fun _ => PA.imp pa_nil fun σ H Q h => h.2 [] H (ExtN.refl H) h.1 (fun f hf => nomatch hf) rfl
    | cons e es ih =>
      intro all
      obtain ⟨params, body, scope, pos, rfl, hdef, hfree, ok⟩ := all e List.mem_cons_self
      refine PA.imp (pa_cons (pe_lam TB hcode hm hu hdef hfree) (ih fun e he => all e (List.mem_cons_of_mem _ he))) fun σ H Q h => ?_
      obtain ⟨hT, h⟩ := h
      refine ⟨hT, fun f c' pm ctv H1 x1 T1 n1 k1 => ⟨tabs_new T1 n1, fun fs H2 x2 T2 m2 l2 => ?_⟩⟩
      refine h (f :: fs) H2 ((x1.trans (extN_new n1)).trans x2) T2 (fun g hg => ?_) (congrArg (· + 1) l2)
      rcases List.mem_cons.mp hg with rfl | hg
      · exact MadeAt.ext ⟨params, body, scope, pm, c', ctv, ok, upd_same, by rw [upd_ne (ne_of_none k1 n1)]; exact k1⟩ x2
      · exact m2 g hg
  intro es l all
  exact PA.imp (gen es all) fun σ H Q h => ⟨h.1, fun fs H1 x T1 m l1 => h.2 fs H1 x T1 m (by rw [l1]; exact l)⟩
end Au
set_option maxHeartbeats 4000000
/-! Makers of lambdas: what stands where; data behind hidden cells. -/
namespace Au
open PySem PySem.Spec PyProof.Rows L2 LamX
/-- lists, tuples, locked things stand as they stood -/
def SeqO : HO → Prop
  | .lst _ => True
  | .tup _ => True
  | .frz _ _ => True
  | _ => False
def Seqs (H H' : Hp) : Prop := ∀ b o, H b = some o → SeqO o → H' b = some o
theorem seqs_ext {H H' : Hp} (e : ExtN H H') : Seqs H H' := fun b o h n => e b o h fun ps z => by
  subst z
  exact n
theorem seqs_same {H H' : Hp} (s : Same H H') : Seqs H H' := fun b o h _ => s b o h
theorem seqs_hide {cs : List Addr} {H : Hp} (a : AllCells cs H) : Seqs H (hide cs H) := fun b o h n => by
  rw [hide_out (not_cell (x := .non) a h fun x z => by subst z; exact n)]
  exact h
theorem seqL_move {K : PySem.W.Frag} {H H' : Hp} (s : Seqs H H') {a : Addr} {xs : List V} (h : SqL K H a xs) : SqL K H' a xs := by
  rcases h with (h | ⟨o, h⟩) | h
  · exact .inl (.inl (s _ _ h trivial))
  · exact .inl (.inr ⟨o, s _ _ h trivial⟩)
  · exact .inr h
theorem seqT_move {K : PySem.W.Frag} {H H' : Hp} (s : Seqs H H') {a : Addr} {xs : List V} (h : SqT K H a xs) : SqT K H' a xs := by
  rcases h with (h | ⟨o, h⟩) | h
  · exact .inl (.inl (s _ _ h trivial))
  · exact .inl (.inr ⟨o, s _ _ h trivial⟩)
  · exact .inr h
mutual
theorem dp_move {K : PySem.W.Frag} {H H' : Hp} (s : Seqs H H') : ∀ {v : V} {d : PyData}, Dp K H v d → Dp K H' v d
  | _, _, .non => .non
  | _, _, .bl b => .bl b
  | _, _, .int i => .int i
  | _, _, .str x => .str x
  | _, _, .lst h a => .lst (seqL_move s h) (dps_move s a)
  | _, _, .tup h a => .tup (seqT_move s h) (dps_move s a)
theorem dps_move {K : PySem.W.Frag} {H H' : Hp} (s : Seqs H H') : ∀ {vs : List V} {ds : List PyData}, DpAll K H vs ds → DpAll K H' vs ds
  | _, _, .nil => .nil
  | _, _, .cons h t => .cons (dp_move s h) (dps_move s t)
end
theorem rz_back {C : Addr} {cs : List Addr} {H : Hp} {E : XK} (r : Rz C H E) : Rz C (hide cs H) fun cls d H' => E cls d (back cs H H') := fun H' s => r _ fun b o h => by
  by_cases m : b ∈ cs
  · rw [back_in m]
    exact h
  · rw [back_out m]
    exact s b o (by rw [hide_out m]; exact h)
/-! ### a list of lambdas, made longer -/
/-- at p a list of lambdas that are good -/
structure Lams (X : Cx) (T : List (Addr × Str)) (k : Nat) (N : List Str) (t : XK → TE) (H : Hp) (p : Addr) (fs : List Addr) (n : Nat) : Prop where
  at_ : H p = some (.lst (fs.map V.ref))
  tabs : Tabs T H
  made : ∀ f ∈ fs, MadeAt X.prog X.w X.K X.mg X.base k N (X.env.qual ++ "<lambda>") t X.env.cells H f
  len : fs.length ≤ 60 * n
theorem small_n {n m : Nat} (h : n ≤ 60 * m) (l : m ≤ 20) : n ≤ sizeLine := Nat.le_trans (show n ≤ 1200 by omega) (by decide)
theorem lams_first {X : Cx} {T : List (Addr × Str)} {k : Nat} {N : List Str} {t : XK → TE} {σ : L2.St} {H : Hp} {Q : VK} (hT : Tabs T H) (q : ∀ p fs H', ExtN H H' → Lams X T k N t H' p fs 1 → Q (.ref p) H') : tLst (tLams X T k N t) σ H Q := by
  refine ⟨hT, fun fs H1 x T1 m l => ⟨?_, fun p hp => q p fs _ (x.trans (extN_new hp)) ⟨upd_same, tabs_new T1 hp, fun f hf => (m f hf).ext (extN_new hp), by omega⟩⟩⟩
  rw [List.length_map]
  exact small_n (m := 1) (by omega) (by decide)
theorem lams_more {X : Cx} {T : List (Addr × Str)} {k n i : Nat} {N : List Str} {t : XK → TE} {σ : L2.St} {H : Hp} {Q : VK} {p : Addr} {fs : List Addr} (hs : σ[i]? = some (some (.ref p))) (g : Lams X T k N t H p fs n) (hn : n ≤ 15)
    (q : ∀ p fs H', ExtN H H' → Lams X T k N t H' p fs (n + 1) → Q (.ref p) H') : tOp rCat (tVar i) (tLst (tLams X T k N t)) σ H Q := by
  refine ⟨_, hs, g.tabs, fun gs H1 x T1 m l => ?_⟩
  have g1 : H1 p = some (.lst (fs.map V.ref)) := x _ _ g.at_ fun ps z => nomatch z
  have le := g.len
  refine ⟨?_, fun p2 hp2 => ⟨p, p2, fs.map V.ref, gs.map V.ref, rfl, rfl, ?_, upd_same, ?_, fun p3 hp3 => ?_⟩⟩
  · rw [List.length_map]
    exact small_n (m := 1) (by omega) (by decide)
  · rw [upd_ne (ne_of_none g1 hp2)]
    exact g1
  · rw [List.length_map, List.length_map]
    exact small_n (m := n + 1) (by omega) (by omega)
  · have x2 := (extN_new (o := .lst (gs.map V.ref)) hp2).trans (extN_new (o := .lst (fs.map V.ref ++ gs.map V.ref)) hp3)
    refine q p3 (fs ++ gs) _ (x.trans x2) ⟨by rw [upd_same, List.map_append], tabs_new (tabs_new T1 hp2) hp3, fun f hf => ?_, by rw [List.length_append]; omega⟩
    rcases List.mem_append.mp hf with hf | hf
    · exact (g.made f hf).ext (x.trans x2)
    · exact (m f hf).ext x2
theorem all2 {α : Type} {L : List α} {d : α} {P : α → Prop} (l : L.length = 2) (h0 : P (L.getD 0 d)) (h1 : P (L.getD 1 d)) : ∀ e ∈ L, P e := by
  match L, l with
  | [a, b], _ =>
    intro e he
    rcases List.mem_cons.mp he with rfl | he
    · exact h0
    · rw [List.mem_singleton.mp he]
      exact h1
theorem all3 {α : Type} {L : List α} {d : α} {P : α → Prop} (l : L.length = 3) (h0 : P (L.getD 0 d)) (h1 : P (L.getD 1 d)) (h2 : P (L.getD 2 d)) : ∀ e ∈ L, P e := by
  match L, l with
  | [a, b, c], _ =>
    intro e he
    rcases List.mem_cons.mp he with rfl | he
    · exact h0
    · rcases List.mem_cons.mp he with rfl | he
      · exact h1
      · rw [List.mem_singleton.mp he]
        exact h2
end Au
set_option maxHeartbeats 2000000
/-! sorted(t), t a tuple of ints. -/
namespace Au
open PySem PySem.Spec PyProof.Rows L2
def rSortedT (K : PySem.W.Frag) : List V → Hp → VK → Prop := fun xs H Q => ∃ (a : Addr) (ns : List Int), xs = [.ref a] ∧ SqT K H a (ns.map V.int) ∧ ∀ (ys : List Int) (p : Addr), ys.Perm ns → ys.Pairwise (· ≤ ·) → H p = none → Q (.ref p) (upd H p (.lst (ys.map V.int)))
theorem cr_sortedT {X : Cx} : CallR X (.builtin "sorted") (rSortedT X.K) := by
  intro pins s σ H xs us Q I r h
  obtain ⟨a, ns, rfl, hs, q⟩ := h
  obtain ⟨its, rv, ht, hz⟩ := I.tuple hs
  rw [Vals.ref1 r]
  have hi := rv.ints
  have lz : its.length ≤ sizeLine := by rw [← rv.length]; exact hz
  obtain ⟨o, ho, hc, n, hd⟩ := ht
  refine Calls.call_function_entry PyProof.Rows.kind_sorted PyProof.Rows.plain_sorted PyProof.Rows.entry_sorted (PyProof.Rows.args_sorted1 _) ?_
  unfold Builtin.«sorted»
  refine wpAny_bind (m := checkCount "sorted" 1 1 _) (wpAny_pure ?_)
  refine wpAny_bind (wpAny_collect_seq a (.inr rfl) ho hc hd (fun h' hk => ?_) (by simpa using lz))
  have I1 : Inv X pins σ H { s with heap := h' } := I.kept (t' := s.toks) hk
  refine wpAny_bind (wpAny_newList ?_ (by simpa using lz))
  have hoL : (h'.push (seqObj "list" its.toArray 0)).get? h'.objs.size = some (seqObj "list" its.toArray 0) := Heap.get?_push_size _ rfl
  show wpAny _ _ _ _ _ { s with heap := h'.push (seqObj "list" its.toArray 0) }
  refine wpAny_bind (wpAny_holding (wpAny_call_entry PyProof.Rows.slot_list_sort ⟨_, hoL, rfl⟩ PyProof.Rows.entry_list_sort
    (SrtO.list_sort_ord SrtO.swo_int hoL lz (fun h2 => SrtO.ints_sortable hi h2) fun out h1 h2 => ⟨_, rfl, ?_⟩) (PyProof.Rows.args_list_sort _)))
  obtain ⟨k1, k2, k3⟩ := SrtO.ints_out hi h1 h2
  obtain ⟨e', he'⟩ := PyProof.Rows.sortedHeap_at (vs := its) (out := out.toArray) hoL
  have hlen : ((out.map SrtO.iv).map V.int).length ≤ sizeLine := by
    rw [List.length_map, k2.length_eq]
    rw [List.length_map] at hz
    exact hz
  refine wpAny_pure ⟨_, rfl, .ref h'.objs.size, upd H h'.objs.size (.lst ((out.map SrtO.iv).map V.int)), I1.laid (t' := s.toks) (fun b u e => ?_) (Nat.le_refl _)
    ⟨hlen, out, e', vals_of_ints k1, he'⟩, rfl, q _ _ k2 k3 (I1.hok.fresh (Nat.le_refl _))⟩
  have hb : b < h'.objs.size := Heap.lt_size e
  rw [PyProof.Rows.sortedHeap_old (Nat.ne_of_lt hb) (by rw [size_push']; exact Nat.lt_succ_of_lt hb)]
  exact Heap.get?_push_of_some _ e
end Au
set_option maxHeartbeats 4000000
/-! The text by its places; in_range, is_rule, is_log. -/
namespace Au
open PySem PySem.Spec PyProof.Rows L2
def topS (i : Nat) : Stmt := PySem.Challenge.pw_autosaves_k01_rules_and_logs_checked.main.body.getD i (.Pass ⟨0, 0, 0, 0⟩)
abbrev s_in_range : Stmt := topS 17
abbrev N_in_range : List Str := ["value", "low", "high"]
theorem sc_in_range : FnScope N_in_range ["value", "low", "high"] (defScope s_in_range) := ⟨rfl, rfl, rfl, by decide +kernel, rfl, by decide +kernel, by decide +kernel⟩
abbrev s_is_rule : Stmt := topS 18
abbrev N_is_rule : List Str := ["value"]
theorem sc_is_rule : FnScope N_is_rule ["value"] (defScope s_is_rule) := ⟨rfl, rfl, rfl, by decide +kernel, rfl, by decide +kernel, by decide +kernel⟩
abbrev s_is_log : Stmt := topS 19
abbrev N_is_log : List Str := ["value", "time", "later"]
theorem sc_is_log : FnScope N_is_log ["value"] (defScope s_is_log) := ⟨rfl, rfl, rfl, by decide +kernel, rfl, by decide +kernel, by decide +kernel⟩
abbrev s_law_well : Stmt := topS 81
abbrev N_law_well : List Str := ["_law_cell", "_law_turn"]
theorem sc_law_well : FnScope N_law_well ["_law_cell", "_law_turn"] (defScope s_law_well) := ⟨rfl, rfl, rfl, by decide +kernel, rfl, by decide +kernel, by decide +kernel⟩
abbrev s_law_take : Stmt := topS 82
abbrev N_law_take : List Str := ["_law_bag", "_law_many", "_law_found", "_law_p", "_law_n"]
theorem sc_law_take : FnScope N_law_take ["_law_bag", "_law_many"] (defScope s_law_take) := ⟨rfl, rfl, rfl, by decide +kernel, rfl, by decide +kernel, by decide +kernel⟩
abbrev s_law_bags : Stmt := topS 83
abbrev N_law_bags : List Str := ["_law_script", "_law_most", "_law_k", "_law_cell"]
theorem sc_law_bags : FnScope N_law_bags ["_law_script", "_law_most"] (defScope s_law_bags) := ⟨rfl, rfl, rfl, by decide +kernel, rfl, by decide +kernel, by decide +kernel⟩
abbrev s_law_same : Stmt := topS 84
abbrev N_law_same : List Str := ["_law_a", "_law_b", "_law_x", "_law_y"]
theorem sc_law_same : FnScope N_law_same ["_law_a", "_law_b"] (defScope s_law_same) := ⟨rfl, rfl, rfl, by decide +kernel, rfl, by decide +kernel, by decide +kernel⟩
abbrev s_law_in : Stmt := topS 85
abbrev N_law_in : List Str := ["_law_x", "_law_low", "_law_high"]
theorem sc_law_in : FnScope N_law_in ["_law_x", "_law_low", "_law_high"] (defScope s_law_in) := ⟨rfl, rfl, rfl, by decide +kernel, rfl, by decide +kernel, by decide +kernel⟩
abbrev s_law_rule : Stmt := topS 89
abbrev N_law_rule : List Str := ["_law_bag", "_law_count"]
theorem sc_law_rule : FnScope N_law_rule ["_law_bag"] (defScope s_law_rule) := ⟨rfl, rfl, rfl, by decide +kernel, rfl, by decide +kernel, by decide +kernel⟩
abbrev s_law_log : Stmt := topS 90
abbrev N_law_log : List Str := ["_law_bag", "_law_most", "_law_rule_here", "_law_found", "_law_time", "_law_turn", "_law_near"]
theorem sc_law_log : FnScope N_law_log ["_law_bag", "_law_most", "_law_rule_here"] (defScope s_law_log) := ⟨rfl, rfl, rfl, by decide +kernel, rfl, by decide +kernel, by decide +kernel⟩
/-- the built-in names stand; the constants of the modules -/
structure Blt (mg : Str → Option Value) : Prop where
  m_isinstance : mg "isinstance" = none
  m_int : mg "int" = none
  m_bool : mg "bool" = none
  m_str : mg "str" = none
  m_list : mg "list" = none
  m_tuple : mg "tuple" = none
  m_len : mg "len" = none
  m_all : mg "all" = none
  m_zip : mg "zip" = none
  m_enumerate : mg "enumerate" = none
  m_range : mg "range" = none
  m_max : mg "max" = none
  m_sorted : mg "sorted" = none
  g_MOST_COUNT : ∃ u, mg "MOST_COUNT" = some u ∧ RelV (.int 20) u
  g_MOST_IDLE : ∃ u, mg "MOST_IDLE" = some u ∧ RelV (.int 1000) u
  g_MOST_EDITS : ∃ u, mg "MOST_EDITS" = some u ∧ RelV (.int 60) u
  g_LAST : ∃ u, mg "LAST" = some u ∧ RelV (.int 1000000) u
  g_FAR : ∃ u, mg "FAR" = some u ∧ RelV (.int 1000000000) u

/-- an int that is no bool, from lo to hi -/
def inRD (d : PyData) (lo hi : Int) : Bool := match d with
  | .int i => decide (lo ≤ i) && decide (i ≤ hi)
  | _ => false
section
variable {P : Program} {w : World} {K : PySem.W.Frag} {mg : Str → Option Value} {base : Heap}
def spInRange (K : PySem.W.Frag) : Sp := fun vs H Q _ => ∃ (x : V) (d : PyData) (lo hi : Int), vs = [x, .int lo, .int hi] ∧ Dp K H x d ∧ Q (.bl (inRD d lo hi)) H
theorem ok_in_range (B : Blt mg) (D : DefT K mg "in_range" s_in_range ["value", "low", "high"]) : C8.Cal P w K mg base 1 "in_range" (spInRange K) [] := by
  refine cal_of D sc_in_range (fun vs H Q E h => ?_) (fun f cdv A outer s H vs Q E hr h => ?_)
  · obtain ⟨x, d, lo, hi, rfl, _⟩ := h
    rfl
  · obtain ⟨x, d, lo, hi, rfl, dp, q⟩ := h
    refine ⟨_, pss_one (ps_ret (pe_and (pe_isi (T := "int") B.m_isinstance B.m_int (by decide +kernel) (pv 0)) (pe_and (pe_not (pe_isi (T := "bool") B.m_isinstance B.m_bool (by decide +kernel) (pv 0))) (pe_one (pe_chain op_le op_le (pv 1) (pv 0) (pv 2)))))), ?_⟩
    cases dp with
    | int i =>
      refine ⟨_, rfl, _, _, _, _, true, rfl, .ty _, tyx_int, kit_ty (by decide +kernel), _, rfl, iteT ⟨_, rfl, _, _, _, _, false, rfl, .ty _, tyx_int, kit_ty (by decide +kernel), _, rfl, _, rfl, iteT ?_⟩⟩
      refine ⟨_, rfl, _, rfl, _, _, rfl, rfl, _, rfl, ?_⟩
      refine ite2 (fun c => ?_) (fun c => ?_)
      · refine ⟨_, rfl, _, _, rfl, rfl, ?_⟩
        have e : inRD (.int i) lo hi = decide (i ≤ hi) := by
          show (decide (lo ≤ i) && decide (i ≤ hi)) = _
          rw [c, Bool.true_and]
        rw [e] at q
        exact q
      · have e : inRD (.int i) lo hi = false := by
          show (decide (lo ≤ i) && decide (i ≤ hi)) = _
          rw [Bool.eq_false_iff.mpr c, Bool.false_and]
        rw [e] at q
        exact q
    | bl b => exact ⟨_, rfl, _, _, _, _, true, rfl, .ty _, tyx_bl, kit_ty (by decide +kernel), _, rfl, iteT ⟨_, rfl, _, _, _, _, true, rfl, .ty _, tyx_bl, kit_ty (by decide +kernel), _, rfl, _, rfl, iteF q⟩⟩
    | non => exact ⟨_, rfl, _, _, _, _, false, rfl, .ty _, tyx_non, kit_ty (by decide +kernel), _, rfl, iteF q⟩
    | str z => exact ⟨_, rfl, _, _, _, _, false, rfl, .ty _, tyx_str, kit_ty (by decide +kernel), _, rfl, iteF q⟩
    | lst h _ => exact ⟨_, rfl, _, _, _, _, false, rfl, .ty _, tyx_lst h, kit_ty (by decide +kernel), _, rfl, iteF q⟩
    | tup h _ => exact ⟨_, rfl, _, _, _, _, false, rfl, .ty _, tyx_tup h, kit_ty (by decide +kernel), _, rfl, iteF q⟩

/-- what is_rule tells -/
def ruleD : PyData → Bool
  | .tuple [a, b] => inRD a 1 20 && inRD b 1 1000
  | _ => false
theorem ruleD_not {ds : List PyData} (h : ds.length ≠ 2) : ruleD (.tuple ds) = false := by
  match ds, h with
  | [], _ => rfl
  | [_], _ => rfl
  | [_, _], h => exact absurd rfl h
  | _ :: _ :: _ :: _, _ => rfl
theorem two_of {α : Type} {l : List α} (h : l.length = 2) : ∃ a b, l = [a, b] := by
  match l, h with
  | [a, b], _ => exact ⟨a, b, rfl⟩
def spIsRule (K : PySem.W.Frag) : Sp := fun vs H Q _ => ∃ (x : V) (d : PyData), vs = [x] ∧ Dp K H x d ∧ Q (.bl (ruleD d)) H
theorem ok_is_rule (B : Blt mg) (D : DefT K mg "is_rule" s_is_rule ["value"]) (c_in_range : C8.Cal P w K mg base 1 "in_range" (spInRange K) []) : C8.Cal P w K mg base 2 "is_rule" (spIsRule K) [] := by
  refine cal_of D sc_is_rule (fun vs H Q E h => ?_) (fun f cdv A outer s H vs Q E hr h => ?_)
  · obtain ⟨x, d, rfl, _⟩ := h
    rfl
  · obtain ⟨x, d, rfl, dp, q⟩ := h
    refine ⟨_, pss_cons (ps_if (PW.pt (pw_or (pt_not (pt_val (pe_isi (T := "tuple") B.m_isinstance B.m_tuple (by decide +kernel) (pv 0)))) (pw_or1 (pt_cmpR op_ne (pe_callB call_len_seq (by rfl) B.m_len (by decide +kernel) (pa_cons (pv 0) pa_nil)) pe_int (nomark _))))) (pss_one (ps_ret pe_bl)) (pss_nil))
      (pss_one (ps_ret (pe_and (C8.pe_c c_in_range hr (by decide) (by rfl) (pa_cons (pe_ix ix_tup (pv 0) pe_int (fun _ _ => rfl)) (pa_cons pe_int (pa_cons (C8.pe_gc (by rfl) B.g_MOST_COUNT) pa_nil)))) (pe_one (C8.pe_c c_in_range hr (by decide) (by rfl) (pa_cons (pe_ix ix_tup (pv 0) pe_int (fun _ _ => rfl)) (pa_cons pe_int (pa_cons (C8.pe_gc (by rfl) B.g_MOST_IDLE) pa_nil)))))))), ?_⟩
    cases dp with
    | int i => exact ⟨_, rfl, _, _, _, _, false, rfl, .ty _, tyx_int, kit_ty (by decide +kernel), _, rfl, iteT (iteT q)⟩
    | bl b => exact ⟨_, rfl, _, _, _, _, false, rfl, .ty _, tyx_bl, kit_ty (by decide +kernel), _, rfl, iteT (iteT q)⟩
    | non => exact ⟨_, rfl, _, _, _, _, false, rfl, .ty _, tyx_non, kit_ty (by decide +kernel), _, rfl, iteT (iteT q)⟩
    | str z => exact ⟨_, rfl, _, _, _, _, false, rfl, .ty _, tyx_str, kit_ty (by decide +kernel), _, rfl, iteT (iteT q)⟩
    | lst h _ => exact ⟨_, rfl, _, _, _, _, false, rfl, .ty _, tyx_lst h, kit_ty (by decide +kernel), _, rfl, iteT (iteT q)⟩
    | @tup a xs ds h ha =>
      refine ⟨_, rfl, _, _, _, _, true, rfl, .ty _, tyx_tup h, kit_ty (by decide +kernel), _, rfl, iteF ⟨_, rfl, _, _, rfl, .inr h, rfl, _, rfl, ?_⟩⟩
      have ln := dps_len ha
      refine ite2 (fun c => ?_) (fun c => ?_)
      · have hn : ds.length ≠ 2 := fun e => by
          rw [ln, e] at c
          exact absurd c (by decide)
        rw [ruleD_not hn] at q
        exact q
      · have hn : ds.length = 2 := by
          cases hd : decide (V.int (xs.length : Int) = V.int 2) with
          | false =>
            rw [hd] at c
            exact absurd rfl c
          | true =>
            have c2 := V.int.inj (of_decide_eq_true hd)
            omega
        obtain ⟨d1, d2, rfl⟩ := two_of hn
        cases ha with
        | @cons x1 _ _ _ h1 r =>
          cases r with
          | @cons x2 _ _ _ h2 r2 =>
            cases r2
            refine ⟨_, rfl, _, _, _, _, rfl, rfl, h, atI_nat (j := 0) rfl, x1, d1, 1, 20, rfl, h1, _, rfl, ite2 (fun c1 => ?_) (fun c1 => ?_)⟩
            · refine ⟨_, rfl, _, _, _, _, rfl, rfl, h, atI_nat (j := 1) rfl, x2, d2, 1, 1000, rfl, h2, ?_⟩
              have e : ruleD (.tuple [d1, d2]) = inRD d2 1 1000 := by
                show (inRD d1 1 20 && inRD d2 1 1000) = _
                rw [c1, Bool.true_and]
              rw [e] at q
              exact q
            · have e : ruleD (.tuple [d1, d2]) = false := by
                show (inRD d1 1 20 && inRD d2 1 1000) = _
                rw [Bool.eq_false_iff.mpr c1, Bool.false_and]
              rw [e] at q
              exact q
/-- what is_log tells -/
def valD : PyData → Int
  | .int i => i
  | _ => 0
def logD : PyData → Bool
  | .tuple ds => decide (ds.length ≤ 60) && ds.all (fun d => inRD d 0 1000000) && (ds.zip (ds.drop 1)).all (fun p => decide (valD p.1 ≤ valD p.2))
  | _ => false
theorem inR_int {d : PyData} {lo hi : Int} (h : inRD d lo hi = true) : ∃ i, d = .int i ∧ lo ≤ i ∧ i ≤ hi := by
  cases d with
  | int i =>
    have h' : (decide (lo ≤ i) && decide (i ≤ hi)) = true := h
    rw [Bool.and_eq_true, decide_eq_true_eq, decide_eq_true_eq] at h'
    exact ⟨i, rfl, h'.1, h'.2⟩
  | _ => cases h
theorem zip_at {ds : List PyData} {i : Nat} {a b : PyData} (h1 : ds[i]? = some a) (h2 : (ds.drop 1)[i]? = some b) : (ds.zip (ds.drop 1))[i]? = some (a, b) := by
  rw [List.getElem?_zip_eq_some]
  exact ⟨h1, h2⟩
def spIsLog (K : PySem.W.Frag) : Sp := fun vs H Q _ => ∃ (x : V) (d : PyData), vs = [x] ∧ Dp K H x d ∧ ∀ H', Same H H' → Q (.bl (logD d)) H'
theorem ok_is_log (B : Blt mg) (D : DefT K mg "is_log" s_is_log ["value"]) (c_in_range : C8.Cal P w K mg base 1 "in_range" (spInRange K) []) : C8.Cal P w K mg base 2 "is_log" (spIsLog K) [] := by
  refine cal_of D sc_is_log (fun vs H Q E h => ?_) (fun f cdv A outer s H vs Q E hr h => ?_)
  · obtain ⟨x, d, rfl, _⟩ := h
    rfl
  · obtain ⟨x, d, rfl, dp, q⟩ := h
    refine ⟨_, pss_cons (ps_if (PW.pt (pw_or (pt_not (pt_val (pe_isi (T := "tuple") B.m_isinstance B.m_tuple (by decide +kernel) (pv 0)))) (pw_or1 (pt_cmpR op_gt (pe_callB call_len_seq (by rfl) B.m_len (by decide +kernel) (pa_cons (pv 0) pa_nil)) (C8.pe_gc (by rfl) B.g_MOST_EDITS) (nomark _))))) (pss_one (ps_ret pe_bl)) (pss_nil))
      (pss_cons (ps_if (pt_not (pt_val (pe_callB (cr_all rfl) (by rfl) B.m_all (by decide +kernel) (pa_cons (pe_lc (own := [("time", 1)]) (g := gName 1) rfl sc_is_log.nd (pi_tup (pv 0)) (blkOk_by (N := N_is_log) (sc := defScope s_is_log) (by decide +kernel)) (fun _ _ _ _ _ => pg_name (i := 1) sc_is_log.nd rfl (Or.inl rfl)) (fun _ _ _ _ _ => pts_nil) (fun _ _ _ _ _ => C8.pe_c c_in_range hr (by decide) (by rfl) (pa_cons (pv 1) (pa_cons pe_int (pa_cons (C8.pe_gc (by rfl) B.g_LAST) pa_nil))))) pa_nil)))) (pss_one (ps_ret pe_bl)) (pss_nil))
      (pss_one (ps_ret (pe_callB (cr_all rfl) (by rfl) B.m_all (by decide +kernel) (pa_cons (pe_lc (own := [("time", 1), ("later", 2)]) (g := gTup K 2 (gCons (gName 1) (gCons (gName 2) gNil))) rfl sc_is_log.nd (RZ.pi_zipA (by rfl) B.m_zip (pa_cons (pv 0) (pa_cons (pe_slice sl_tail (pv 0) (po_some pe_int) po_none) pa_nil))) (blkOk_by (N := N_is_log) (sc := defScope s_is_log) (by decide +kernel)) (fun _ _ _ _ _ => pg_tup (by rfl) (pgs_cons (pg_name (i := 1) sc_is_log.nd rfl (Or.inl rfl)) (pgs_cons (pg_name (i := 2) sc_is_log.nd rfl (Or.inl rfl)) pgs_nil))) (fun _ _ _ _ _ => pts_nil) (fun _ _ _ _ _ => pe_cmpR op_le (pv 1) (pv 2) (nomark _))) pa_nil))))), ?_⟩
    cases dp with
    | int i => exact ⟨_, rfl, _, _, _, _, false, rfl, .ty _, tyx_int, kit_ty (by decide +kernel), _, rfl, iteT (iteT (q H (Same.refl H)))⟩
    | bl b => exact ⟨_, rfl, _, _, _, _, false, rfl, .ty _, tyx_bl, kit_ty (by decide +kernel), _, rfl, iteT (iteT (q H (Same.refl H)))⟩
    | non => exact ⟨_, rfl, _, _, _, _, false, rfl, .ty _, tyx_non, kit_ty (by decide +kernel), _, rfl, iteT (iteT (q H (Same.refl H)))⟩
    | str z => exact ⟨_, rfl, _, _, _, _, false, rfl, .ty _, tyx_str, kit_ty (by decide +kernel), _, rfl, iteT (iteT (q H (Same.refl H)))⟩
    | lst h _ => exact ⟨_, rfl, _, _, _, _, false, rfl, .ty _, tyx_lst h, kit_ty (by decide +kernel), _, rfl, iteT (iteT (q H (Same.refl H)))⟩
    | @tup a xs ds h ha =>
      have ln := dps_len ha
      refine ⟨_, rfl, _, _, _, _, true, rfl, .ty _, tyx_tup h, kit_ty (by decide +kernel), _, rfl, iteF ⟨_, rfl, _, _, rfl, .inr h, _, _, rfl, rfl, _, rfl, ?_⟩⟩
      refine ite2 (fun c => ?_) (fun c => ?_)
      · have e : logD (.tuple ds) = false := by
          have c' : (60 : Int) < xs.length := of_decide_eq_true c
          have c2 : decide (ds.length ≤ 60) = false := decide_eq_false (by omega)
          show (decide (ds.length ≤ 60) && _ && _) = false
          rw [c2, Bool.false_and, Bool.false_and]
        rw [e] at q
        exact q H (Same.refl H)
      · have l60 : ds.length ≤ 60 := by
          have c' : ¬ (60 : Int) < xs.length := fun z => c (decide_eq_true z)
          omega
        refine ⟨_, rfl, _, rfl, ⟨_, h⟩, fun L hL => ?_⟩
        refine lc_tup (K := K) (a := a) (xs := xs) (fun i H' => H' = upd H L (.lst ((ds.take i).map fun d => V.bl (inRD d 0 1000000)))) rfl (fun i H' _ e => ?_) ?_ ?_
        · subst e
          exact same_seqT (same_new hL) h
        · rintro i x H' hx rfl
          obtain ⟨d, hd, dx⟩ := dps_get ha hx
          refine ⟨rfl, _, rfl, x, d, 0, 1000000, rfl, dp_same (same_new hL) dx, _, upd_same, ?_, ?_⟩
          · rw [List.length_map, List.length_take]
            exact Nat.lt_of_le_of_lt (Nat.min_le_right _ _) (small1000 (by omega))
          · rw [upd_upd, take_more hd, List.map_append]
            rfl
        · rintro H' rfl
          rw [ln, List.take_length]
          have s1 : Same H (upd H L (.lst (ds.map fun d => V.bl (inRD d 0 1000000)))) := same_new hL
          refine ⟨L, ds.map fun d => inRD d 0 1000000, rfl, sqL_of (by rw [upd_same, List.map_map]; rfl), _, rfl, ?_⟩
          have ea : ((ds.map fun d => inRD d 0 1000000).all id) = ds.all fun d => inRD d 0 1000000 := by
            rw [List.all_map]
            rfl
          rw [ea]
          refine ite2 (fun c2 => ?_) (fun c2 => ?_)
          · have e : logD (.tuple ds) = false := by
              have c3 : (ds.all fun d => inRD d 0 1000000) = false := by simpa using c2
              show (_ && (ds.all fun d => inRD d 0 1000000) && _) = false
              rw [c3, Bool.and_false, Bool.false_and]
            rw [e] at q
            exact q _ s1
          · have c3 : (ds.all fun d => inRD d 0 1000000) = true := by simpa using c2
            have ad : ∀ d ∈ ds, ∃ i : Int, d = .int i := fun d hd => by
              obtain ⟨i, e, _⟩ := inR_int (List.all_eq_true.mp c3 d hd)
              exact ⟨i, e⟩
            have el : logD (.tuple ds) = (ds.zip (ds.drop 1)).all (fun p => decide (valD p.1 ≤ valD p.2)) := by
              show (decide (ds.length ≤ 60) && (ds.all fun d => inRD d 0 1000000) && _) = _
              rw [c3, decide_eq_true l60, Bool.true_and, Bool.true_and]
            rw [el] at q
            generalize hH1 : upd H L (.lst (ds.map fun d => V.bl (inRD d 0 1000000))) = H1 at s1
            have h1 : SqT K H1 a xs := same_seqT s1 h
            have ha1 : DpAll K H1 xs ds := dps_same s1 ha
            refine ⟨_, rfl, _, rfl, 1, rfl, a, xs, rfl, rfl, rfl, h1, fun b H2 s2 hb => ?_⟩
            have s12 : Same H H2 := s1.trans s2
            refine ⟨a, b, xs, xs.drop 1, rfl, .inr ⟨same_seqT s2 h1, hb, fun M hM => ?_⟩⟩
            refine lc_it (walk_zipTT (K := K) (a := a) (b := b) (xs := xs) (ys := xs.drop 1) rfl)
              (fun i H' => Same H2 H' ∧ H' M = some (.lst (((ds.zip (ds.drop 1)).take i).map fun p => V.bl (decide (valD p.1 ≤ valD p.2))))) ⟨same_new hM, upd_same⟩
              (fun i H' _ z => ⟨same_seqT z.1 (same_seqT s2 h1), same_seqT z.1 hb⟩) ?_ ?_
            · rintro i v H' H'' hi ⟨z1, z2⟩ ⟨T, x, y, rfl, hT, rfl, hx, hy⟩
              obtain ⟨d1, e1, p1⟩ := dps_get ha hx
              obtain ⟨d2, e2, p2⟩ : ∃ d, (ds.drop 1)[i]? = some d ∧ Dp K H y d := by
                have hy2 : (xs.drop 1)[i]? = some y := hy
                rw [List.getElem?_drop] at hy2
                obtain ⟨d, e, p⟩ := dps_get ha hy2
                exact ⟨d, by rw [List.getElem?_drop]; exact e, p⟩
              obtain ⟨i1, rfl⟩ := ad d1 (List.mem_of_getElem? e1)
              obtain ⟨i2, rfl⟩ := ad d2 (List.mem_of_mem_drop (List.mem_of_getElem? e2))
              cases p1
              cases p2
              have nM : M ≠ T := ne_of_none z2 hT
              refine ⟨T, _, rfl, sqT_of upd_same, rfl, _, _, rfl, _, _, rfl, rfl, rfl, _, rfl, _, rfl, i1, i2, rfl, rfl, _, (by rw [upd_ne nM]; exact z2), ?_, ?_, ?_⟩
              · rw [List.length_map, List.length_take, List.length_zip]
                exact Nat.lt_of_le_of_lt (Nat.min_le_right _ _) (small1000 (by omega))
              · exact same_mut (z1.trans (same_new hT)) hM
              · rw [upd_same, take_more (zip_at e1 e2), List.map_append]
                rfl
            · rintro H' ⟨z1, z2⟩
              have em : min xs.length (xs.drop 1).length = (ds.zip (ds.drop 1)).length := by
                rw [List.length_zip, List.length_drop, List.length_drop, ln]
              rw [em, List.take_length] at z2
              refine ⟨M, (ds.zip (ds.drop 1)).map fun p => decide (valD p.1 ≤ valD p.2), rfl, sqL_of (by rw [z2, List.map_map]; rfl), ?_⟩
              have ea : (((ds.zip (ds.drop 1)).map fun p => decide (valD p.1 ≤ valD p.2)).all id) = (ds.zip (ds.drop 1)).all fun p => decide (valD p.1 ≤ valD p.2) := by
                rw [List.all_map]
                rfl
              rw [ea]
              exact q _ (s12.trans z1)
end
end Au
set_option maxHeartbeats 4000000
/-! The law's draws: a bag of three numbers; equality by kinds. -/
namespace Au
open PySem PySem.Spec PyProof.Rows L2
/-! ### small -/
theorem iteP {c A B : Prop} [Decidable c] (hc : c) (h : A) : if c then A else B := by
  rw [if_pos hc]
  exact h
theorem iteQ {c A B : Prop} [Decidable c] (hc : ¬ c) (h : B) : if c then A else B := by
  rw [if_neg hc]
  exact h
/-- all but the object at g stand -/
def Keep (g : Addr) (H H' : Hp) : Prop := ∀ b o, b ≠ g → H b = some o → H' b = some o
theorem Keep.refl {g : Addr} (H : Hp) : Keep g H H := fun _ _ _ h => h
theorem Keep.trans {g : Addr} {H H1 H2 : Hp} (a : Keep g H H1) (b : Keep g H1 H2) : Keep g H H2 := fun c o n h => b c o n (a c o n h)
theorem Keep.of_same {g : Addr} {H H' : Hp} (s : Same H H') : Keep g H H' := fun b o _ h => s b o h
theorem Keep.new {g p : Addr} {H : Hp} {o : HO} (h : H p = none) : Keep g H (upd H p o) := .of_same (same_new h)
theorem Keep.tups {g : Addr} {H H' : Hp} {xs : List V} (k : Keep g H H') (h : H g = some (.lst xs)) : Tups H H' where
  tup := fun b x e => k b _ (ne_of e h (by intro z; cases z)) e
  frz := fun b o u e => k b _ (ne_of e h (by intro z; cases z)) e
/-- three numbers at g: what is left of a great number, a number, how often was drawn (at most n times) -/
def Bag (H : Hp) (g : Addr) (n : Int) : Prop := ∃ x y z : Int, H g = some (.lst [.int x, .int y, .int z]) ∧ (0 ≤ y ∧ y < 2305843009213693951) ∧ 0 ≤ z ∧ z ≤ n
theorem Bag.more {H : Hp} {g : Addr} {n m : Int} (b : Bag H g n) (h : n ≤ m) : Bag H g m := by
  obtain ⟨x, y, z, h1, h2, h3, h4⟩ := b
  exact ⟨x, y, z, h1, h2, h3, by omega⟩
theorem Bag.same {H H' : Hp} {g : Addr} {n : Int} (b : Bag H g n) (s : Same H H') : Bag H' g n := by
  obtain ⟨x, y, z, h1, h2⟩ := b
  exact ⟨x, y, z, s _ _ h1, h2⟩
theorem Bag.lst {H : Hp} {g : Addr} {n : Int} (b : Bag H g n) : ∃ xs, H g = some (.lst xs) := by
  obtain ⟨x, y, z, h1, h2⟩ := b
  exact ⟨_, h1⟩
theorem Bag.keep {H H' : Hp} {g b : Addr} {n : Int} (k : Keep b H H') (h : Bag H g n) (ne : g ≠ b) : Bag H' g n := by
  obtain ⟨x, y, z, h1, h2⟩ := h
  exact ⟨x, y, z, k _ _ ne h1, h2⟩
theorem small64p {x : Int} (h0 : 0 ≤ x) (h : x < 2305843009213693951) : x.natAbs < 2 ^ 64 := by omega

section
variable {P : Program} {w : World} {K : PySem.W.Frag} {mg : Str → Option Value} {base : Heap}
/-! ### a draw -/
def spTake : Sp := fun vs H Q _ => ∃ (g : Addr) (m n : Int), vs = [.ref g, .int m] ∧ Bag H g n ∧ n ≤ 1000000000 ∧ 1 ≤ m ∧ m ≤ 1000000000 ∧
  ∀ H' r, 0 ≤ r → r < m → Bag H' g (n + 1) → Keep g H H' → Q (.int r) H'
theorem keep_upd {g : Addr} {H : Hp} {o : HO} : Keep g H (upd H g o) := fun b u ne e => by
  rw [upd_ne ne]
  exact e
theorem ok_take (B : Blt mg) (D : DefT K mg "_law_take" s_law_take ["_law_bag", "_law_many"]) : C8.Cal P w K mg base 1 "_law_take" spTake [] := by
  refine cal_of D sc_law_take (fun vs H Q E h => ?_) (fun f cdv A outer s H vs Q E hr h => ?_)
  · obtain ⟨g, m, n, rfl, _⟩ := h
    rfl
  · obtain ⟨g, m, n, rfl, ⟨x, y, z, hg, hy, hz0, hz⟩, hn, hm1, hm2, q⟩ := h
    refine ⟨_, pss_cons (ps_if (pt_cmpR op_gt (pe_ix ix_list (pv 0) pe_int (fun _ _ => rfl)) pe_int (nomark _)) (pss_cons (ps_set (i := 2) sc_law_take.nd rfl (Or.inl rfl) (pe_op op_mod (pe_ix ix_list (pv 0) pe_int (fun _ _ => rfl)) (pv 1)))
      (pss_cons (ps_asg (pe_op op_fdivN (pe_ix ix_list (pv 0) pe_int (fun _ _ => rfl)) (pv 1)) (pg_sub (pv 0) pe_int set_list))
      (pss_one (ps_ret (pv 2))))) (pss_nil))
      (pss_cons (ps_asg (pe_op op_add (pe_ix ix_list (pv 0) pe_int (fun _ _ => rfl)) pe_int) (pg_sub (pv 0) pe_int set_list))
      (pss_cons (ps_set (i := 3) sc_law_take.nd rfl (Or.inl rfl) pe_int)
      (pss_cons (ps_set (i := 4) sc_law_take.nd rfl (Or.inl rfl) (pe_op op_mod (pe_op op_add (pe_ix ix_list (pv 0) pe_int (fun _ _ => rfl)) (pe_op op_mul pe_int (pe_ix ix_list (pv 0) pe_int (fun _ _ => rfl)))) (pv 3)))
      (pss_cons (ps_set (i := 4) sc_law_take.nd rfl (Or.inl rfl) (pe_op op_mod (pe_op op_add (pe_op op_add (pe_op op_mul (pv 4) (pv 4)) (pe_op op_mul pe_int (pe_op op_pow (pe_ix ix_list (pv 0) pe_int (fun _ _ => rfl)) pe_int))) pe_int) (pv 3)))
      (pss_one (ps_ret (pe_op op_mod (pe_op op_fdiv (pe_op op_mod (pe_op op_pow (pv 4) pe_int) (pv 3)) pe_int) (pv 1)))))))), ?_⟩
    have m30 : m < 1073741824 := by omega
    refine ⟨_, rfl, _, _, _, _, rfl, rfl, sqL_of hg, atI_nat (j := 0) rfl, _, _, rfl, rfl, _, rfl, ite2 (fun c => ?_) (fun c => ?_)⟩
    · -- found = bag[0] % many; bag[0] = bag[0] // many
      refine ⟨_, rfl, _, _, _, _, rfl, rfl, sqL_of hg, atI_nat (j := 0) rfl, _, rfl, _, _, rfl, rfl, (by show 0 < m; omega), ?_⟩
      refine ⟨_, rfl, _, _, _, _, rfl, rfl, sqL_of hg, atI_nat (j := 0) rfl, _, rfl, _, _, rfl, rfl, ⟨by omega, by omega⟩, ?_⟩
      refine ⟨_, rfl, g, _, 0, 0, rfl, rfl, hg, rfl, ?_⟩
      refine ⟨_, rfl, ?_⟩
      exact q _ _ (Int.emod_nonneg _ (by omega)) (Int.emod_lt_of_pos _ (by omega)) ⟨x.fdiv m, y, z, upd_same, hy, hz0, by omega⟩ keep_upd
    · -- bag[2] = bag[2] + 1
      refine ⟨_, rfl, _, _, _, _, rfl, rfl, sqL_of hg, atI_nat (j := 2) rfl, _, _, rfl, rfl, ?_⟩
      refine ⟨_, rfl, g, _, 2, 2, rfl, rfl, hg, rfl, ?_⟩
      have hg1 : (upd H g (.lst [.int x, .int y, .int (z + 1)])) g = some (.lst [.int x, .int y, .int (z + 1)]) := upd_same
      have bg : Bag (upd H g (.lst [.int x, .int y, .int (z + 1)])) g (n + 1) := ⟨x, y, z + 1, hg1, hy, by omega, by omega⟩
      have kp : Keep g H (upd H g (.lst [.int x, .int y, .int (z + 1)])) := keep_upd
      refine ⟨_, rfl, _, _, _, _, rfl, rfl, sqL_of hg1, atI_nat (j := 1) rfl, _, rfl, _, _, _, _, rfl, rfl, sqL_of hg1, atI_nat (j := 2) rfl, _, _, rfl, rfl, .inl ⟨by decide, by decide⟩, _, _, rfl, rfl, _, rfl, _, _, rfl, rfl, (by show (0 : Int) < 2305843009213693951; decide), ?_⟩
      refine ⟨_, rfl, _, rfl, _, _, rfl, rfl, .inl ⟨by omega, by omega⟩, _, rfl, _, _, _, _, rfl, rfl, sqL_of hg1, atI_nat (j := 2) rfl, _, _, rfl, rfl, ⟨by decide, by decide, by omega⟩, _, _, rfl, rfl, .inl ⟨by decide, by decide⟩, _, _, rfl, rfl, _, _, rfl, rfl, _, rfl, _, _, rfl, rfl, (by show (0 : Int) < 2305843009213693951; decide), ?_⟩
      refine ⟨_, rfl, _, _, rfl, rfl, ⟨by decide, by decide, small64p (Int.emod_nonneg _ (by decide)) (Int.emod_lt_of_pos _ (by decide))⟩, _, rfl, _, _, rfl, rfl, (by show (0 : Int) < 2305843009213693951; decide), _, _, rfl, rfl, ⟨by decide, by decide⟩, _, rfl, _, _, rfl, rfl, (by show 0 < m; omega), ?_⟩
      exact q _ _ (Int.emod_nonneg _ (by omega)) (Int.emod_lt_of_pos _ (by omega)) bg kp
/-! ### a bag made; the bags of a script -/
def spWell : Sp := fun vs H Q _ => ∃ (c t n : Int), vs = [.int c, .int t] ∧ 0 ≤ t ∧ t ≤ n ∧ ∀ H' p, H p = none → Same H H' → Bag H' p n → Q (.ref p) H'
theorem ok_well (B : Blt mg) (D : DefT K mg "_law_well" s_law_well ["_law_cell", "_law_turn"]) : C8.Cal P w K mg base 1 "_law_well" spWell [] := by
  refine cal_of D sc_law_well (fun vs H Q E h => ?_) (fun f cdv A outer s H vs Q E hr h => ?_)
  · obtain ⟨c, t, n, rfl, _⟩ := h
    rfl
  · obtain ⟨c, t, n, rfl, h0, h1, q⟩ := h
    refine ⟨_, pss_cons (ps_if (pt_cmpR op_ge (pv 0) (pe_op op_pow pe_int pe_int) (nomark _)) (pss_one (ps_ret (pe_lst (pa_cons (pe_op op_sub (pv 0) (pe_op op_pow pe_int pe_int)) (pa_cons (pe_op op_mod (pv 0) pe_int) (pa_cons (pv 1) pa_nil)))))) (pss_nil))
      (pss_one (ps_ret (pe_lst (pa_cons pe_int (pa_cons (pe_op op_mod (pv 0) pe_int) (pa_cons (pv 1) pa_nil)))))), ?_⟩
    refine ⟨_, rfl, _, _, rfl, rfl, ⟨by decide, by decide, by decide⟩, _, _, rfl, rfl, _, rfl, ite2 (fun _ => ?_) (fun _ => ?_)⟩
    · refine ⟨_, rfl, _, _, rfl, rfl, ⟨by decide, by decide, by decide⟩, _, _, rfl, rfl, _, rfl, _, _, rfl, rfl, (by show (0 : Int) < 2305843009213693951; decide), _, rfl, (by show 3 ≤ sizeLine; decide), fun p hp => ?_⟩
      exact q _ p hp (same_new hp) ⟨_, _, _, upd_same, ⟨Int.emod_nonneg _ (by decide), Int.emod_lt_of_pos _ (by decide)⟩, h0, h1⟩
    · refine ⟨_, rfl, _, _, rfl, rfl, (by show (0 : Int) < 2305843009213693951; decide), _, rfl, (by show 3 ≤ sizeLine; decide), fun p hp => ?_⟩
      exact q _ p hp (same_new hp) ⟨_, _, _, upd_same, ⟨Int.emod_nonneg _ (by decide), Int.emod_lt_of_pos _ (by decide)⟩, h0, h1⟩
/-- the bags at gs, apart from each other, new -/
structure Bags (H H' : Hp) (p : Addr) (gs : List Addr) (n : Int) : Prop where
  same : Same H H'
  free : H p = none
  lst : H' p = some (.lst (gs.map V.ref))
  nd : gs.Nodup
  np : p ∉ gs
  new : ∀ g ∈ gs, H g = none
  bag : ∀ g ∈ gs, Bag H' g n
def spBags (K : PySem.W.Frag) : Sp := fun vs H Q _ => ∃ (a : Addr) (ns : List Int) (m : Nat), vs = [.ref a, .int (m : Int)] ∧ SqL K H a (ns.map V.int) ∧ m ≤ 20 ∧ ns.length ≤ 63 ∧
  ∀ H' p gs, Bags H H' p gs 20000 → Q (.ref p) H'
theorem cut_to (xs : List V) (m : Nat) : (cutV xs none (some (m : Int))).length ≤ m := by
  have e : cutV xs none (some (m : Int)) = (xs.drop 0).take (min m xs.length - 0) := by
    unfold cutV
    rw [show HT.sIx xs.length xs.length (some (m : Int)) = min m xs.length from HT.sIx_nat xs.length xs.length m, HT.sIx_none]
  rw [e, List.length_take]
  omega
theorem cut_sub (xs : List V) (m : Nat) : ∀ x ∈ cutV xs none (some (m : Int)), x ∈ xs := by
  intro x hx
  unfold cutV at hx
  exact List.mem_of_mem_drop (List.mem_of_mem_take hx)
theorem nodup_snoc {α : Type} {l : List α} {x : α} (h : l.Nodup) (n : x ∉ l) : (l ++ [x]).Nodup := by
  rw [List.nodup_append]
  refine ⟨h, List.nodup_cons.mpr ⟨List.not_mem_nil, List.nodup_nil⟩, fun a ha b hb e => ?_⟩
  rw [List.mem_singleton] at hb
  subst hb
  exact n (e ▸ ha)
theorem ok_bags (B : Blt mg) (D : DefT K mg "_law_bags" s_law_bags ["_law_script", "_law_most"]) (c_law_well : C8.Cal P w K mg base 1 "_law_well" spWell []) : C8.Cal P w K mg base 2 "_law_bags" (spBags K) [] := by
  refine cal_of D sc_law_bags (fun vs H Q E h => ?_) (fun f cdv A outer s H vs Q E hr h => ?_)
  · obtain ⟨a, ns, m, rfl, _⟩ := h
    rfl
  · obtain ⟨a, ns, m, rfl, hS, hm, hlen, q⟩ := h
    refine ⟨_, pss_one (ps_ret (pe_lc (own := [("_law_k", 2), ("_law_cell", 3)]) (g := gTup K 2 (gCons (gName 2) (gCons (gName 3) gNil))) rfl sc_law_bags.nd (pi_enum (by rfl) B.m_enumerate (pa_cons (pe_op op_cat (pe_slice sl_list (pv 0) po_none (po_some (pv 1))) (pe_lst (pa_cons pe_int pa_nil))) pa_nil)) (blkOk_by (N := N_law_bags) (sc := defScope s_law_bags) (by decide +kernel)) (fun _ _ _ _ _ => pg_tup (by rfl) (pgs_cons (pg_name (i := 2) sc_law_bags.nd rfl (Or.inl rfl)) (pgs_cons (pg_name (i := 3) sc_law_bags.nd rfl (Or.inl rfl)) pgs_nil))) (fun _ _ _ _ _ => pts_nil) (fun _ _ _ _ _ => C8.pe_c c_law_well hr (by decide) (by rfl) (pa_cons (pv 3) (pa_cons (pe_op op_mul pe_int (pv 2)) pa_nil))))), ?_⟩
    refine ⟨_, rfl, _, rfl, (m : Int), rfl, a, _, rfl, hS, fun C hC => ?_⟩
    refine ⟨(by show 1 ≤ sizeLine; decide), fun Z hZ => ?_⟩
    have nCZ : C ≠ Z := fun e => by
      rw [← e, upd_same] at hZ
      cases hZ
    have lc := cut_to (ns.map V.int) m
    have sc := cut_sub (ns.map V.int) m
    generalize cutV (ns.map V.int) none (some (m : Int)) = cs at hZ lc sc
    refine ⟨C, Z, cs, _, rfl, rfl, by rw [upd_ne nCZ, upd_same], upd_same, by
      show cs.length + 1 ≤ sizeLine
      exact Nat.le_trans (show cs.length + 1 ≤ 1000 by omega) (Nat.le_of_lt (small1000 (Nat.le_refl _))), fun G hG => ?_⟩
    have s0 : Same H (upd (upd (upd H C (.lst cs)) Z (.lst [.int 0])) G (.lst (cs ++ [.int 0]))) := ((same_new hC).trans (same_new hZ)).trans (same_new hG)
    have hGl : (upd (upd (upd H C (.lst cs)) Z (.lst [.int 0])) G (.lst (cs ++ [.int 0]))) G = some (.lst (cs ++ [.int 0])) := upd_same
    generalize upd (upd (upd H C (.lst cs)) Z (.lst [.int 0])) G (.lst (cs ++ [.int 0])) = H1 at s0 hGl
    have hG0 : H G = none := ((same_new hC).trans (same_new hZ)).free hG
    have allI : ∀ x ∈ cs ++ [V.int 0], ∃ i : Int, x = V.int i := fun x hx => by
      rcases List.mem_append.mp hx with h | h
      · obtain ⟨i, _, e⟩ := List.mem_map.mp (sc x h)
        exact ⟨i, e.symm⟩
      · exact ⟨0, by simpa using h⟩
    refine ⟨G, _, rfl, sqL_of hGl, fun L hL => ?_⟩
    have nGL : G ≠ L := ne_of_none hGl hL
    refine lc_it (walk_enum (K := K) (a := G) (xs := cs ++ [V.int 0])) (fun i H' => ∃ gs : List Addr, Same H1 H' ∧ H' L = some (.lst (gs.map V.ref)) ∧ gs.Nodup ∧ L ∉ gs ∧ (∀ g ∈ gs, H1 g = none) ∧ (∀ g ∈ gs, Bag H' g 20000) ∧ gs.length = i)
      ⟨[], same_new hL, upd_same, List.nodup_nil, List.not_mem_nil, fun _ h => absurd h List.not_mem_nil, fun _ h => absurd h List.not_mem_nil, rfl⟩
      (fun i H' _ ⟨_, s, _⟩ => sqL_of (s _ _ hGl)) ?_ ?_
    · rintro i v H' H'' hi ⟨gs, s1, h1, h2, h3, h4, h5, h6⟩ ⟨T, x, y, rfl, hT, rfl, hx, hy⟩
      have ex : x = .int (i : Int) := (Option.some.inj hx).symm
      subst ex
      obtain ⟨z, rfl⟩ := allI y (List.mem_of_getElem? hy)
      have il : i ≤ 20 := by
        rw [List.length_append] at hi
        have : i < cs.length + 1 := hi
        omega
      refine ⟨T, _, rfl, sqT_of upd_same, rfl, _, _, rfl, _, _, rfl, rfl, rfl, _, rfl, _, rfl, _, _, rfl, rfl, .inl ⟨by decide, by decide⟩, z, 977 * (i : Int), 20000, rfl, by omega, by omega, fun H3 p hp s3 bg => ?_⟩
      have nLT : L ≠ T := ne_of_none h1 hT
      have hL3 : H3 L = some (.lst (gs.map V.ref)) := s3 _ _ (by rw [upd_ne nLT]; exact h1)
      have sT : Same H' H3 := (same_new hT).trans s3
      have hp1 : H' p = none := (same_new hT).free hp
      have npL : p ≠ L := fun e => by
        rw [e, h1] at hp1
        cases hp1
      have npg : p ∉ gs := fun hm => by
        obtain ⟨xs, e⟩ := (h5 p hm).lst
        rw [e] at hp1
        cases hp1
      refine ⟨_, hL3, ?_, gs ++ [p], ?_, ?_, nodup_snoc h2 npg, ?_, ?_, ?_, ?_⟩
      · rw [List.length_map, h6]
        exact small1000 (by omega)
      · exact same_mut (s1.trans sT) hL
      · rw [upd_same, List.map_append]
        rfl
      · intro hm
        rcases List.mem_append.mp hm with h | h
        · exact h3 h
        · exact npL (List.mem_singleton.mp h).symm
      · intro g hg
        rcases List.mem_append.mp hg with h | h
        · exact h4 g h
        · rw [List.mem_singleton.mp h]
          exact s1.free hp1
      · intro g hg
        have kL : Keep L H3 (upd H3 L (.lst (gs.map V.ref ++ [V.ref p]))) := keep_upd
        rcases List.mem_append.mp hg with h | h
        · exact Bag.keep kL ((h5 g h).same sT) fun e => h3 (e ▸ h)
        · rw [List.mem_singleton.mp h]
          exact Bag.keep kL bg npL
      · rw [List.length_append, h6]
        rfl
    · rintro H' ⟨gs, s1, h1, h2, h3, h4, h5, h6⟩
      exact q H' L gs ⟨s0.trans s1, s0.free hL, h1, h2, h3, fun g hg => s0.free (h4 g hg), h5⟩
/-! ### a rule -/
theorem atI3 {x y z r : Int} (h0 : 0 ≤ r) (h1 : r < 3) : atI [V.int x, V.int y, V.int z] r = some (.int (if r = 0 then x else if r = 1 then y else z)) := by
  have : r = 0 ∨ r = 1 ∨ r = 2 := by omega
  rcases this with e | e | e
  · subst e
    rfl
  · subst e
    rfl
  · subst e
    rfl
theorem atI4 {x y z w r : Int} (h0 : 0 ≤ r) (h1 : r < 4) : atI [V.int x, V.int y, V.int z, V.int w] r = some (.int (if r = 0 then x else if r = 1 then y else if r = 2 then z else w)) := by
  have : r = 0 ∨ r = 1 ∨ r = 2 ∨ r = 3 := by omega
  rcases this with e | e | e | e
  · subst e
    rfl
  · subst e
    rfl
  · subst e
    rfl
  · subst e
    rfl
def spRule (K : PySem.W.Frag) : Sp := fun vs H Q _ => ∃ (g : Addr) (n : Int), vs = [.ref g] ∧ Bag H g n ∧ n ≤ 100000000 ∧
  ∀ H' p c d, 1 ≤ c ∧ c ≤ 20 ∧ 1 ≤ d ∧ d ≤ 1000 → Bag H' g (n + 4) → Keep g H H' → H p = none → H' p = some (.tup [.int c, .int d]) → Q (.ref p) H'
theorem ok_rule (B : Blt mg) (D : DefT K mg "_law_rule" s_law_rule ["_law_bag"]) (c_law_take : C8.Cal P w K mg base 1 "_law_take" spTake []) : C8.Cal P w K mg base 2 "_law_rule" (spRule K) [] := by
  refine cal_of D sc_law_rule (fun vs H Q E h => ?_) (fun f cdv A outer s H vs Q E hr h => ?_)
  · obtain ⟨g, n, rfl, _⟩ := h
    rfl
  · obtain ⟨g, n, rfl, b0, hn, q⟩ := h
    refine ⟨_, pss_cons (ps_set (i := 1) sc_law_rule.nd rfl (Or.inl rfl) (pe_op op_add pe_int (C8.pe_c c_law_take hr (by decide) (by rfl) (pa_cons (pv 0) (pa_cons (pe_ix ix_list (pe_lst (pa_cons pe_int (pa_cons pe_int (pa_cons pe_int pa_nil)))) (C8.pe_c c_law_take hr (by decide) (by rfl) (pa_cons (pv 0) (pa_cons pe_int pa_nil))) (fun _ _ => rfl)) pa_nil)))))
      (pss_one (ps_ret (pe_tup (pa_cons (pv 1) (pa_cons (pe_op op_add pe_int (C8.pe_c c_law_take hr (by decide) (by rfl) (pa_cons (pv 0) (pa_cons (pe_ix ix_list (pe_lst (pa_cons pe_int (pa_cons pe_int (pa_cons pe_int pa_nil)))) (C8.pe_c c_law_take hr (by decide) (by rfl) (pa_cons (pv 0) (pa_cons pe_int pa_nil))) (fun _ _ => rfl)) pa_nil)))) pa_nil))))), ?_⟩
    refine ⟨_, rfl, (by show 3 ≤ sizeLine; decide), fun L hL => ?_⟩
    have nL : L ≠ g := fun e => by
      obtain ⟨xs, e2⟩ := b0.lst
      rw [e, e2] at hL
      cases hL
    have hL1 : (upd H L (.lst [.int 3, .int 6, .int 20])) L = some (.lst [.int 3, .int 6, .int 20]) := upd_same
    have b1 : Bag (upd H L (.lst [.int 3, .int 6, .int 20])) g n := b0.same (same_new hL)
    have k1 : Keep g H (upd H L (.lst [.int 3, .int 6, .int 20])) := .new hL
    generalize upd H L (.lst [.int 3, .int 6, .int 20]) = H1 at hL1 b1 k1
    refine ⟨_, rfl, g, 3, n, rfl, b1, by omega, by omega, by omega, fun H2 r r0 r3 b2 k2 => ⟨_, _, _, _, rfl, rfl, sqL_of (k2 _ _ nL hL1), atI3 r0 r3, ?_⟩⟩
    refine ⟨g, _, n + 1, rfl, b2, by omega, (by split <;> (try split) <;> omega), (by split <;> (try split) <;> omega), fun H3 c c0 c1 b3 k3 => ⟨_, _, rfl, rfl, ?_⟩⟩
    have hc : c < 20 := by
      split at c1
      · omega
      · split at c1 <;> omega
    refine ⟨_, rfl, _, rfl, (by show 3 ≤ sizeLine; decide), fun M hM => ?_⟩
    have nM : M ≠ g := fun e => by
      obtain ⟨xs, e2⟩ := b3.lst
      rw [e, e2] at hM
      cases hM
    have hM1 : (upd H3 M (.lst [.int 4, .int 30, .int 1000])) M = some (.lst [.int 4, .int 30, .int 1000]) := upd_same
    have b4 : Bag (upd H3 M (.lst [.int 4, .int 30, .int 1000])) g (n + 1 + 1) := b3.same (same_new hM)
    have k4 : Keep g H (upd H3 M (.lst [.int 4, .int 30, .int 1000])) := ((k1.trans k2).trans k3).trans (.new hM)
    generalize upd H3 M (.lst [.int 4, .int 30, .int 1000]) = H4 at hM1 b4 k4
    refine ⟨_, rfl, g, 3, n + 1 + 1, rfl, b4, by omega, by omega, by omega, fun H5 r' r0' r3' b5 k5 => ⟨_, _, _, _, rfl, rfl, sqL_of (k5 _ _ nM hM1), atI3 r0' r3', ?_⟩⟩
    refine ⟨g, _, n + 1 + 1 + 1, rfl, b5, by omega, (by split <;> (try split) <;> omega), (by split <;> (try split) <;> omega), fun H6 d d0 d1 b6 k6 => ⟨_, _, rfl, rfl, ?_⟩⟩
    have hd : d < 1000 := by
      split at d1
      · omega
      · split at d1 <;> omega
    have k7 : Keep g H H6 := (k4.trans k5).trans k6
    refine ⟨(by show 2 ≤ sizeLine; decide), fun p hp => ?_⟩
    have hp0 : H p = none := by
      cases e : H p with
      | none => rfl
      | some o =>
        have npg : p ≠ g := fun z => by
          obtain ⟨xs, e2⟩ := b6.lst
          rw [z, e2] at hp
          cases hp
        rw [k7 _ _ npg e] at hp
        cases hp
    exact q _ p (1 + c) (1 + d) ⟨by omega, by omega, by omega, by omega⟩ ((b6.same (same_new hp)).more (by omega)) (k7.trans (.new hp)) hp0 upd_same
end
end Au
set_option maxHeartbeats 4000000
/-! The law's logs; its comparison. -/
namespace Au
open PySem PySem.Spec PyProof.Rows L2
theorem keep_free {g p : Addr} {H H' : Hp} {n : Int} (k : Keep g H H') (b : Bag H' g n) (h : H' p = none) : H p = none := by
  cases e : H p with
  | none => rfl
  | some o =>
    have npg : p ≠ g := fun z => by
      obtain ⟨xs, e2⟩ := b.lst
      rw [z, e2] at h
      cases h
    rw [k _ _ npg e] at h
    cases h
theorem bag_ne {g p : Addr} {H : Hp} {n : Int} (b : Bag H g n) (h : H p = none) : p ≠ g := fun e => by
  obtain ⟨xs, e2⟩ := b.lst
  rw [e, e2] at h
  cases h
theorem Keep.sqT {K : PySem.W.Frag} {g a : Addr} {H H' : Hp} {n : Int} {xs : List V} (k : Keep g H H') (b : Bag H g n) (h : SqT K H a xs) : SqT K H' a xs := by
  obtain ⟨ys, e⟩ := b.lst
  exact (k.tups e).sq h
theorem getD_l {l r : List Int} {j : Nat} (h : j < l.length) : (l ++ r).getD j 0 = l.getD j 0 := by
  rw [List.getD_eq_getElem?_getD, List.getElem?_append_left h, ← List.getD_eq_getElem?_getD]
theorem getD_snoc {l : List Int} {x : Int} : (l ++ [x]).getD l.length 0 = x := by
  rw [List.getD_eq_getElem?_getD, List.getElem?_append_right (Nat.le_refl _), Nat.sub_self]
  rfl
/-! ### a log drawn: its edits so far, the time -/
structure LG (l : List Int) (t : Int) (i : Nat) : Prop where
  len : l.length = i
  rng : ∀ x ∈ l, 0 ≤ x ∧ x ≤ t
  up : ∀ j, j + 1 < l.length → l.getD j 0 ≤ l.getD (j + 1) 0
  t0 : 0 ≤ t
  t1 : t ≤ 8 + 1003 * (i : Int)
theorem LG.step {l : List Int} {t e : Int} {i : Nat} (h : LG l t i) (e0 : 0 ≤ e) (e1 : e ≤ 1003) : LG (l ++ [t + e]) (t + e) (i + 1) where
  len := by
    rw [List.length_append, h.len]
    rfl
  rng := fun x hx => by
    have := h.t0
    rcases List.mem_append.mp hx with m | m
    · have := h.rng x m
      omega
    · have := List.mem_singleton.mp m
      omega
  up := fun j hj => by
    rw [List.length_append] at hj
    have hj : j + 1 < l.length + 1 := hj
    by_cases c : j + 1 < l.length
    · have u := h.up j c
      rw [getD_l (by omega), getD_l c]
      exact u
    · have ej : j + 1 = l.length := by omega
      rw [getD_l (by omega), ej, getD_snoc]
      have m : l.getD j 0 ∈ l := List.mem_of_getElem? (at_getD (by omega))
      have := h.rng _ m
      omega
  t0 := by
    have := h.t0
    omega
  t1 := by
    have := h.t1
    omega
theorem LG.ok {l : List Int} {t : Int} {i : Nat} (h : LG l t i) (hi : i ≤ 60) : LogOk l where
  len := by rw [h.len]; exact hi
  rng := fun x hx => by
    have a := h.rng x hx
    have b := h.t1
    omega
  up := h.up
section
variable {P : Program} {w : World} {K : PySem.W.Frag} {mg : Str → Option Value} {base : Heap}
def spLog (K : PySem.W.Frag) : Sp := fun vs H Q _ => ∃ (g a : Addr) (m c d n : Int), vs = [.ref g, .int m, .ref a] ∧ Bag H g n ∧ SqT K H a [.int c, .int d] ∧ (1 ≤ d ∧ d ≤ 1000) ∧ n ≤ 100000000 ∧ 0 ≤ m ∧ m ≤ 60 ∧
  ∀ H' p ns, LogOk ns → (ns.length : Int) ≤ m → Bag H' g (n + 300) → Keep g H H' → SqT K H' p (ns.map V.int) → Q (.ref p) H'
theorem ok_log (B : Blt mg) (D : DefT K mg "_law_log" s_law_log ["_law_bag", "_law_most", "_law_rule_here"]) (c_law_take : C8.Cal P w K mg base 1 "_law_take" spTake []) : C8.Cal P w K mg base 2 "_law_log" (spLog K) [] := by
  refine cal_of D sc_law_log (fun vs H Q E h => ?_) (fun f cdv A outer s H vs Q E hr h => ?_)
  · obtain ⟨g, a, m, c, d, n, rfl, _⟩ := h
    rfl
  · obtain ⟨g, a, m, c, d, n, rfl, b0, hA, hd, hn, hm0, hm, q⟩ := h
    refine ⟨_, pss_cons (ps_par (i := 3) (j := 4) (by rfl) sc_law_log.nd rfl rfl (by decide) rfl rfl (pa_cons (pe_tup pa_nil) (pa_cons (C8.pe_c c_law_take hr (by decide) (by rfl) (pa_cons (pv 0) (pa_cons pe_int pa_nil))) pa_nil)) (by rfl))
      (pss_cons (ps_for PassesOwn.never rfl (pi_range1 (by rfl) B.m_range (pa_cons (C8.pe_c c_law_take hr (by decide) (by rfl) (pa_cons (pv 0) (pa_cons (pe_op op_add (pv 1) pe_int) pa_nil))) pa_nil)) (pg_name (i := 5) sc_law_log.nd rfl (Or.inl rfl))
        (pss_cons (ps_set (i := 6) sc_law_log.nd rfl (Or.inl rfl) (pe_callB (call_max2 rfl) (by rfl) B.m_max (by decide +kernel) (pa_cons pe_int (pa_cons (pe_op op_sub (pe_op op_add (pe_ix ix_tup (pv 2) pe_int (fun _ _ => rfl)) (C8.pe_c c_law_take hr (by decide) (by rfl) (pa_cons (pv 0) (pa_cons pe_int pa_nil)))) pe_int) pa_nil))))
      (pss_cons (ps_set (i := 4) sc_law_log.nd rfl (Or.inl rfl) (pe_op op_add (pv 4) (pe_ix ix_list (pe_lst (pa_cons pe_int (pa_cons (C8.pe_c c_law_take hr (by decide) (by rfl) (pa_cons (pv 0) (pa_cons pe_int pa_nil))) (pa_cons (pv 6) (pa_cons (C8.pe_c c_law_take hr (by decide) (by rfl) (pa_cons (pv 0) (pa_cons (pe_op op_add (pe_ix ix_tup (pv 2) pe_int (fun _ _ => rfl)) pe_int) pa_nil))) pa_nil))))) (C8.pe_c c_law_take hr (by decide) (by rfl) (pa_cons (pv 0) (pa_cons pe_int pa_nil))) (fun _ _ => rfl))))
      (pss_one (ps_set (i := 3) sc_law_log.nd rfl (Or.inl rfl) (pe_op op_catA (pv 3) (pe_tup (pa_cons (pv 4) pa_nil))))))))
      (pss_one (ps_ret (pv 3)))), ?_⟩
    refine ⟨Nat.zero_le _, fun F hF => ?_⟩
    have b1 : Bag (upd H F (.tup [])) g n := b0.same (same_new hF)
    have k1 : Keep g H (upd H F (.tup [])) := .new hF
    have f1 : SqT K (upd H F (.tup [])) F (([] : List Int).map V.int) := sqT_of upd_same
    generalize upd H F (.tup []) = H1 at b1 k1 f1
    refine ⟨_, rfl, g, 9, n, rfl, b1, by omega, by omega, by omega, fun H2 t t0 t9 b2 k2 => ⟨_, _, rfl, ?_⟩⟩
    have f2 := k2.sqT b1 f1
    refine ⟨_, rfl, _, rfl, _, _, rfl, rfl, g, m + 1, n + 1, rfl, b2, by omega, by omega, by omega, fun H3 r r0 r1 b3 k3 => ⟨r, rfl, by omega, by omega, ?_⟩⟩
    have f3 := k3.sqT b2 f2
    have hA3 : Keep g H H3 := (k1.trans k2).trans k3
    refine for_range (lo := 0) (n := r.toNat) (fun i σ H' => ∃ (F : Addr) (l : List Int) (t : Int) (y5 y6 : Option V), σ = [some (.ref g), some (.int m), some (.ref a), some (.ref F), some (.int t), y5, y6] ∧ Keep g H H' ∧ Bag H' g (n + 2 + 4 * (i : Int)) ∧
      SqT K H' F (l.map V.int) ∧ LG l t i) ⟨F, [], t, none, none, rfl, hA3, b3.more (by omega), f3, ⟨rfl, fun x h => absurd h List.not_mem_nil, fun j h => absurd h (Nat.not_lt_zero _), t0, by omega⟩⟩ ?_ ?_
    · rintro i σ H4 hi ⟨F, l, t, y5, y6, rfl, k4, b4, f4, lg⟩
      have hA4 := k4.sqT b0 hA
      have il : i < 61 := by omega
      refine ⟨_, rfl, _, _, _, _, rfl, rfl, hA4, atI_nat (j := 1) rfl, _, rfl, g, 5, _, rfl, b4, by omega, by omega, by omega, fun H5 u u0 u5 b5 k5 => ⟨_, _, rfl, rfl, _, _, rfl, rfl, _, _, rfl, ?_⟩⟩
      have hA5 := k5.sqT b4 hA4
      have f5 := k5.sqT b4 f4
      have near0 : 0 ≤ (if d + u - 2 > 0 then d + u - 2 else 0) ∧ (if d + u - 2 > 0 then d + u - 2 else 0) ≤ 1003 := by
        split <;> omega
      generalize (if d + u - 2 > 0 then d + u - 2 else 0) = near at near0
      refine ⟨_, rfl, _, rfl, g, 4, _, rfl, b5, by omega, by omega, by omega, fun H6 v1 v10 v11 b6 k6 => ⟨_, rfl, _, rfl, _, rfl, _, _, _, _, rfl, rfl, k6.sqT b5 hA5, atI_nat (j := 1) rfl, _, _, rfl, rfl, ?_⟩⟩
      refine ⟨g, d + 2, _, rfl, b6, by omega, by omega, by omega, fun H7 v2 v20 v21 b7 k7 => ⟨(by show 4 ≤ sizeLine; decide), fun L hL => ?_⟩⟩
      have f7 := k7.sqT b6 (k6.sqT b5 f5)
      have nL := bag_ne b7 hL
      have hL1 : (upd H7 L (.lst [.int 0, .int v1, .int near, .int v2])) L = some (.lst [.int 0, .int v1, .int near, .int v2]) := upd_same
      have b8 : Bag (upd H7 L (.lst [.int 0, .int v1, .int near, .int v2])) g _ := b7.same (same_new hL)
      have k8 : Keep g H (upd H7 L (.lst [.int 0, .int v1, .int near, .int v2])) := (((k4.trans k5).trans k6).trans k7).trans (.new hL)
      have f8 := same_seqT (same_new (o := .lst [.int 0, .int v1, .int near, .int v2]) hL) f7
      generalize upd H7 L (.lst [.int 0, .int v1, .int near, .int v2]) = H8 at hL1 b8 k8 f8
      refine ⟨_, rfl, g, 4, _, rfl, b8, by omega, by omega, by omega, fun H9 x x0 x4 b9 k9 => ⟨_, _, _, _, rfl, rfl, sqL_of (k9 _ _ nL hL1), atI4 x0 x4, _, _, rfl, rfl, ?_⟩⟩
      have e0 : 0 ≤ (if x = 0 then 0 else if x = 1 then v1 else if x = 2 then near else v2) ∧ (if x = 0 then 0 else if x = 1 then v1 else if x = 2 then near else v2) ≤ 1003 := by
        split
        · omega
        · split
          · omega
          · split <;> omega
      generalize (if x = 0 then 0 else if x = 1 then v1 else if x = 2 then near else v2) = e at e0
      have f9 := k9.sqT b8 f8
      have lg' := lg.step e0.1 e0.2
      refine ⟨_, rfl, _, rfl, (by show 1 ≤ sizeLine; decide), fun T hT => ?_⟩
      have bT : Bag (upd H9 T (.tup [.int (t + e)])) g _ := b9.same (same_new hT)
      have kT : Keep g H (upd H9 T (.tup [.int (t + e)])) := (k8.trans k9).trans (.new hT)
      have fT := same_seqT (same_new (o := .tup [.int (t + e)]) hT) f9
      have hTT : SqT K (upd H9 T (.tup [.int (t + e)])) T [.int (t + e)] := sqT_of upd_same
      generalize upd H9 T (.tup [.int (t + e)]) = HT at bT kT fT hTT
      refine ⟨F, T, _, _, rfl, rfl, fT, hTT, ?_, fun el => ?_, fun _ el => absurd el (List.cons_ne_nil _ _), fun _ _ p hp => ?_⟩
      · rw [List.length_map, lg.len]
        show i + 1 ≤ sizeLine
        exact Nat.le_of_lt (small1000 (by omega))
      · have el2 : l = [] := List.map_eq_nil_iff.mp el
        refine ⟨T, l ++ [t + e], t + e, _, _, rfl, kT, bT.more (by omega), ?_, lg'⟩
        rw [el2]
        exact hTT
      · refine ⟨p, l ++ [t + e], t + e, _, _, rfl, kT.trans (.new hp), (bT.same (same_new hp)).more (by omega), sqT_of ?_, lg'⟩
        rw [upd_same, List.map_append]
        rfl
    · rintro σ H4 ⟨F, l, t, y5, y6, rfl, k4, b4, f4, lg⟩
      refine ⟨_, rfl, q H4 F l (lg.ok (by omega)) (by rw [lg.len]; omega) (b4.more (by omega)) k4 f4⟩
/-! ### equality by kinds, of data that are alike -/
def leaf : PyData → Prop
  | .list _ => False
  | .tuple _ => False
  | _ => True
def okd : Nat → PyData → Prop
  | 0, _ => False
  | n + 1, .list ds => ds.length ≤ 5000 ∧ ∀ d ∈ ds, okd n d
  | n + 1, .tuple ds => ds.length ≤ 5000 ∧ ∀ d ∈ ds, okd n d
  | _ + 1, _ => True
def spSame (K : PySem.W.Frag) (n : Nat) : Sp := fun vs H Q _ => ∃ (x y : V) (d : PyData), vs = [x, y] ∧ Dp K H x d ∧ Dp K H y d ∧ okd n d ∧ ∀ H', Same H H' → Q (.bl true) H'
theorem kit3_no {K : PySem.W.Frag} {t : String} (h1 : kitB t "bool" = some false) (h2 : kitB t "list" = some false) (h3 : kitB t "tuple" = some false) : PySem.W.kitAny K (.type t) [.type "bool", .type "list", .type "tuple"] = some false :=
  kitAny_cons (kit_ty h1) (fun _ => kitAny_cons (kit_ty h2) (fun _ => kitAny_cons (kit_ty h3) (fun _ => kitAny_nil) (fun z => nomatch z)) (fun z => nomatch z)) (fun z => nomatch z)
theorem kit3_bool {K : PySem.W.Frag} : PySem.W.kitAny K (.type "bool") [.type "bool", .type "list", .type "tuple"] = some true :=
  kitAny_cons (kit_ty (by decide +kernel : kitB "bool" "bool" = some true)) (fun z => nomatch z) (fun _ => rfl)
theorem cls3 : Paired ClsV [.ty "bool", .ty "list", .ty "tuple"] [.type "bool", .type "list", .type "tuple"] := .cons (.ty _) (.cons (.ty _) (.cons (.ty _) .nil))
theorem vac_same (D : DefT K mg "_law_same" s_law_same ["_law_a", "_law_b"]) : C8.Cal P w K mg base 0 "_law_same" (spSame K 0) [] := by
  obtain ⟨f, fd, F, hm, b⟩ := D.ex
  refine ⟨f, fd, ["_law_a", "_law_b"], [], ⟨fun vs H Q E h => ?_, fun A outer s H args us vs Q E _ _ _ _ h => ?_⟩, hm, F.kp, b, .nil⟩
  · obtain ⟨x, y, d, rfl, _⟩ := h
    rfl
  · obtain ⟨x, y, d, _, _, _, o, _⟩ := h
    exact o.elim
theorem all_true (n : Nat) : (List.replicate n true).all id = true := by
  rw [List.all_eq_true]
  intro b hb
  exact (List.mem_replicate.mp hb).2
theorem ok_same (B : Blt mg) (D : DefT K mg "_law_same" s_law_same ["_law_a", "_law_b"]) : ∀ n, C8.Cal P w K mg base n "_law_same" (spSame K n) []
  | 0 => vac_same D
  | n + 1 => by
    have c_law_same : C8.Cal P w K mg base n "_law_same" (spSame K n) [] := ok_same B D n
    refine cal_of D sc_law_same (fun vs H Q E h => ?_) (fun f cdv A outer s H vs Q E hr h => ?_)
    · obtain ⟨x, y, d, rfl, _⟩ := h
      rfl
    · obtain ⟨x, y, d, rfl, p1, p2, o, q⟩ := h
      refine ⟨_, pss_cons (ps_if (PW.pt (pw_or (PW.pt (pw_and (pt_val (pe_isi (T := "list") B.m_isinstance B.m_list (by decide +kernel) (pv 0))) (pw_and1 (pt_val (pe_isi (T := "list") B.m_isinstance B.m_list (by decide +kernel) (pv 1)))))) (pw_or1 (PW.pt (pw_and (pt_val (pe_isi (T := "tuple") B.m_isinstance B.m_tuple (by decide +kernel) (pv 0))) (pw_and1 (pt_val (pe_isi (T := "tuple") B.m_isinstance B.m_tuple (by decide +kernel) (pv 1))))))))) (pss_one (ps_ret (pe_and (pe_cmpR op_eq (pe_callB call_len_seq (by rfl) B.m_len (by decide +kernel) (pa_cons (pv 0) pa_nil)) (pe_callB call_len_seq (by rfl) B.m_len (by decide +kernel) (pa_cons (pv 1) pa_nil)) (nomark _)) (pe_one (pe_callB (cr_all rfl) (by rfl) B.m_all (by decide +kernel) (pa_cons (pe_lc (own := [("_law_x", 2), ("_law_y", 3)]) (g := gTup K 2 (gCons (gName 2) (gCons (gName 3) gNil))) rfl sc_law_same.nd (RZ.pi_zipA (by rfl) B.m_zip (pa_cons (pv 0) (pa_cons (pv 1) pa_nil))) (blkOk_by (N := N_law_same) (sc := defScope s_law_same) (by decide +kernel)) (fun _ _ _ _ _ => pg_tup (by rfl) (pgs_cons (pg_name (i := 2) sc_law_same.nd rfl (Or.inl rfl)) (pgs_cons (pg_name (i := 3) sc_law_same.nd rfl (Or.inl rfl)) pgs_nil))) (fun _ _ _ _ _ => pts_nil) (fun _ _ _ _ _ => C8.pe_c c_law_same hr (Nat.le_refl _) (by rfl) (pa_cons (pv 2) (pa_cons (pv 3) pa_nil)))) pa_nil)))))) (pss_nil))
      (pss_cons (ps_if (PW.pt (pw_or (pt_val (pe_callB call_isiT (by rfl) B.m_isinstance (by decide +kernel) (pa_cons (pv 0) (pa_cons (pe_tup (pa_cons (pe_bltn (by rfl) B.m_bool (by decide +kernel) (show RelV (.ty "bool") (.type "bool") from rfl)) (pa_cons (pe_bltn (by rfl) B.m_list (by decide +kernel) (show RelV (.ty "list") (.type "list") from rfl)) (pa_cons (pe_bltn (by rfl) B.m_tuple (by decide +kernel) (show RelV (.ty "tuple") (.type "tuple") from rfl)) pa_nil)))) pa_nil)))) (pw_or1 (pt_val (pe_callB call_isiT (by rfl) B.m_isinstance (by decide +kernel) (pa_cons (pv 1) (pa_cons (pe_tup (pa_cons (pe_bltn (by rfl) B.m_bool (by decide +kernel) (show RelV (.ty "bool") (.type "bool") from rfl)) (pa_cons (pe_bltn (by rfl) B.m_list (by decide +kernel) (show RelV (.ty "list") (.type "list") from rfl)) (pa_cons (pe_bltn (by rfl) B.m_tuple (by decide +kernel) (show RelV (.ty "tuple") (.type "tuple") from rfl)) pa_nil)))) pa_nil))))))) (pss_one (ps_ret (pe_and (pe_isi (T := "bool") B.m_isinstance B.m_bool (by decide +kernel) (pv 0)) (pe_and (pe_isi (T := "bool") B.m_isinstance B.m_bool (by decide +kernel) (pv 1)) (pe_one (pe_cmpR op_eq (pv 0) (pv 1) (nomark _))))))) (pss_nil))
      (pss_cons (ps_if (PW.pt (pw_or (pt_val (pe_isi (T := "int") B.m_isinstance B.m_int (by decide +kernel) (pv 0))) (pw_or1 (pt_val (pe_isi (T := "int") B.m_isinstance B.m_int (by decide +kernel) (pv 1)))))) (pss_one (ps_ret (pe_and (pe_isi (T := "int") B.m_isinstance B.m_int (by decide +kernel) (pv 0)) (pe_and (pe_isi (T := "int") B.m_isinstance B.m_int (by decide +kernel) (pv 1)) (pe_one (pe_cmpR op_eq (pv 0) (pv 1) (nomark _))))))) (pss_nil))
      (pss_cons (ps_if (PW.pt (pw_or (pt_val (pe_isi (T := "str") B.m_isinstance B.m_str (by decide +kernel) (pv 0))) (pw_or1 (pt_val (pe_isi (T := "str") B.m_isinstance B.m_str (by decide +kernel) (pv 1)))))) (pss_one (ps_ret (pe_and (pe_isi (T := "str") B.m_isinstance B.m_str (by decide +kernel) (pv 0)) (pe_and (pe_isi (T := "str") B.m_isinstance B.m_str (by decide +kernel) (pv 1)) (pe_one (pe_cmpR op_eq (pv 0) (pv 1) (nomark _))))))) (pss_nil))
      (pss_one (ps_ret (pe_and (pe_cmpR op_isN (pv 0) pe_non (nomark _)) (pe_one (pe_cmpR op_isN (pv 1) pe_non (nomark _))))))))), ?_⟩
      cases d with
      | int i =>
        cases p1
        cases p2
        refine ⟨_, rfl, _, _, _, _, false, rfl, .ty _, tyx_int, kit_ty (by decide +kernel), _, rfl, iteF (iteF ⟨_, rfl, _, _, _, _, false, rfl, .ty _, tyx_int, kit_ty (by decide +kernel), _, rfl, iteF (iteF ?_)⟩)⟩
        refine ⟨_, rfl, (by show 3 ≤ sizeLine; decide), fun T hT => ⟨_, T, _, _, _, false, rfl, upd_same, cls3, tyx_int, kit3_no (by decide +kernel) (by decide +kernel) (by decide +kernel), _, rfl, iteF ?_⟩⟩
        refine ⟨_, rfl, (by show 3 ≤ sizeLine; decide), fun U hU => ⟨_, U, _, _, _, false, rfl, upd_same, cls3, tyx_int, kit3_no (by decide +kernel) (by decide +kernel) (by decide +kernel), _, rfl, iteF ?_⟩⟩
        refine ⟨_, rfl, _, _, _, _, true, rfl, .ty _, tyx_int, kit_ty (by decide +kernel), _, rfl, iteT (iteT ?_)⟩
        refine ⟨_, rfl, _, _, _, _, true, rfl, .ty _, tyx_int, kit_ty (by decide +kernel), _, rfl, iteT ⟨_, rfl, _, _, _, _, true, rfl, .ty _, tyx_int, kit_ty (by decide +kernel), _, rfl, iteT ⟨_, rfl, _, rfl, rfl, ?_⟩⟩⟩
        rw [decide_eq_true rfl]
        exact q _ ((same_new hT).trans (same_new hU))
      | bool b =>
        cases p1
        cases p2
        refine ⟨_, rfl, _, _, _, _, false, rfl, .ty _, tyx_bl, kit_ty (by decide +kernel), _, rfl, iteF (iteF ⟨_, rfl, _, _, _, _, false, rfl, .ty _, tyx_bl, kit_ty (by decide +kernel), _, rfl, iteF (iteF ?_)⟩)⟩
        refine ⟨_, rfl, (by show 3 ≤ sizeLine; decide), fun T hT => ⟨_, T, _, _, _, true, rfl, upd_same, cls3, tyx_bl, kit3_bool, _, rfl, iteT (iteT ?_)⟩⟩
        refine ⟨_, rfl, _, _, _, _, true, rfl, .ty _, tyx_bl, kit_ty (by decide +kernel), _, rfl, iteT ⟨_, rfl, _, _, _, _, true, rfl, .ty _, tyx_bl, kit_ty (by decide +kernel), _, rfl, iteT ⟨_, rfl, _, rfl, rfl, ?_⟩⟩⟩
        rw [decide_eq_true rfl]
        exact q _ (same_new hT)
      | str z =>
        cases p1
        cases p2
        refine ⟨_, rfl, _, _, _, _, false, rfl, .ty _, tyx_str, kit_ty (by decide +kernel), _, rfl, iteF (iteF ⟨_, rfl, _, _, _, _, false, rfl, .ty _, tyx_str, kit_ty (by decide +kernel), _, rfl, iteF (iteF ?_)⟩)⟩
        refine ⟨_, rfl, (by show 3 ≤ sizeLine; decide), fun T hT => ⟨_, T, _, _, _, false, rfl, upd_same, cls3, tyx_str, kit3_no (by decide +kernel) (by decide +kernel) (by decide +kernel), _, rfl, iteF ?_⟩⟩
        refine ⟨_, rfl, (by show 3 ≤ sizeLine; decide), fun U hU => ⟨_, U, _, _, _, false, rfl, upd_same, cls3, tyx_str, kit3_no (by decide +kernel) (by decide +kernel) (by decide +kernel), _, rfl, iteF ?_⟩⟩
        refine ⟨_, rfl, _, _, _, _, false, rfl, .ty _, tyx_str, kit_ty (by decide +kernel), _, rfl, iteF ⟨_, rfl, _, _, _, _, false, rfl, .ty _, tyx_str, kit_ty (by decide +kernel), _, rfl, iteF ?_⟩⟩
        refine ⟨_, rfl, _, _, _, _, true, rfl, .ty _, tyx_str, kit_ty (by decide +kernel), _, rfl, iteT (iteT ?_)⟩
        refine ⟨_, rfl, _, _, _, _, true, rfl, .ty _, tyx_str, kit_ty (by decide +kernel), _, rfl, iteT ⟨_, rfl, _, _, _, _, true, rfl, .ty _, tyx_str, kit_ty (by decide +kernel), _, rfl, iteT ⟨_, rfl, _, rfl, rfl, ?_⟩⟩⟩
        rw [decide_eq_true rfl]
        exact q _ ((same_new hT).trans (same_new hU))
      | none =>
        cases p1
        cases p2
        refine ⟨_, rfl, _, _, _, _, false, rfl, .ty _, tyx_non, kit_ty (by decide +kernel), _, rfl, iteF (iteF ⟨_, rfl, _, _, _, _, false, rfl, .ty _, tyx_non, kit_ty (by decide +kernel), _, rfl, iteF (iteF ?_)⟩)⟩
        refine ⟨_, rfl, (by show 3 ≤ sizeLine; decide), fun T hT => ⟨_, T, _, _, _, false, rfl, upd_same, cls3, tyx_non, kit3_no (by decide +kernel) (by decide +kernel) (by decide +kernel), _, rfl, iteF ?_⟩⟩
        refine ⟨_, rfl, (by show 3 ≤ sizeLine; decide), fun U hU => ⟨_, U, _, _, _, false, rfl, upd_same, cls3, tyx_non, kit3_no (by decide +kernel) (by decide +kernel) (by decide +kernel), _, rfl, iteF ?_⟩⟩
        refine ⟨_, rfl, _, _, _, _, false, rfl, .ty _, tyx_non, kit_ty (by decide +kernel), _, rfl, iteF ⟨_, rfl, _, _, _, _, false, rfl, .ty _, tyx_non, kit_ty (by decide +kernel), _, rfl, iteF ?_⟩⟩
        refine ⟨_, rfl, _, _, _, _, false, rfl, .ty _, tyx_non, kit_ty (by decide +kernel), _, rfl, iteF ⟨_, rfl, _, _, _, _, false, rfl, .ty _, tyx_non, kit_ty (by decide +kernel), _, rfl, iteF ?_⟩⟩
        exact ⟨_, rfl, rfl, _, rfl, iteT ⟨_, rfl, rfl, q _ ((same_new hT).trans (same_new hU))⟩⟩
      | list ds =>
        cases p1 with
        | @lst a xs _ h1 a1 =>
        cases p2 with
        | @lst b ys _ h2 a2 =>
        obtain ⟨ol, oa⟩ := o
        have l1 := dps_len a1
        have l2 := dps_len a2
        refine ⟨_, rfl, _, _, _, _, true, rfl, .ty _, tyx_lst h1, kit_ty (by decide +kernel), _, rfl, iteT ⟨_, rfl, _, _, _, _, true, rfl, .ty _, tyx_lst h2, kit_ty (by decide +kernel), _, rfl, iteT (iteT ?_)⟩⟩
        refine ⟨_, rfl, a, xs, rfl, .inl h1, _, rfl, b, ys, rfl, .inl h2, rfl, _, rfl, iteP (decide_eq_true (by rw [l1, l2])) ?_⟩
        refine ⟨_, rfl, _, rfl, a, b, xs, ys, rfl, .inl ⟨h1, h2, fun L hL => ?_⟩⟩
        refine lc_it (walk_zip (K := K) (a := a) (b := b) (xs := xs) (ys := ys) rfl) (fun i H' => Same H H' ∧ H' L = some (.lst (List.replicate i (V.bl true)))) ⟨same_new hL, upd_same⟩
          (fun i H' _ z => ⟨z.1.seq h1, z.1.seq h2⟩) ?_ ?_
        · rintro i v H' H'' hi ⟨z1, z2⟩ ⟨T, x, y, rfl, hT, rfl, hx, hy⟩
          obtain ⟨d1, e1, q1⟩ := dps_get a1 hx
          obtain ⟨d2, e2, q2⟩ := dps_get a2 hy
          have e : d1 = d2 := Option.some.inj (e1.symm.trans e2)
          subst e
          have sT := z1.trans (same_new (o := .tup [x, y]) hT)
          refine ⟨T, _, rfl, sqT_of upd_same, rfl, _, _, rfl, _, _, rfl, rfl, rfl, _, rfl, _, rfl, x, y, d1, rfl, dp_same sT q1, dp_same sT q2, oa d1 (List.mem_of_getElem? e1), fun H3 s3 => ?_⟩
          have hL3 : H3 L = some (.lst (List.replicate i (V.bl true))) := s3 _ _ (by rw [upd_ne (ne_of_none z2 hT)]; exact z2)
          refine ⟨_, hL3, ?_, same_mut (sT.trans s3) hL, ?_⟩
          · rw [List.length_replicate]
            exact Nat.lt_of_lt_of_le (show i < 5001 by omega) (by decide)
          · rw [upd_same, List.replicate_succ']
        · rintro H' ⟨z1, z2⟩
          refine ⟨L, List.replicate (min xs.length ys.length) true, rfl, sqL_of (by rw [z2, List.map_replicate]), ?_⟩
          rw [all_true]
          exact q _ z1
      | tuple ds =>
        cases p1 with
        | @tup a xs _ h1 a1 =>
        cases p2 with
        | @tup b ys _ h2 a2 =>
        obtain ⟨ol, oa⟩ := o
        have l1 := dps_len a1
        have l2 := dps_len a2
        refine ⟨_, rfl, _, _, _, _, false, rfl, .ty _, tyx_tup h1, kit_ty (by decide +kernel), _, rfl, iteF (iteF ⟨_, rfl, _, _, _, _, true, rfl, .ty _, tyx_tup h1, kit_ty (by decide +kernel), _, rfl, iteT ⟨_, rfl, _, _, _, _, true, rfl, .ty _, tyx_tup h2, kit_ty (by decide +kernel), _, rfl, iteT ?_⟩⟩)⟩
        refine ⟨_, rfl, a, xs, rfl, .inr h1, _, rfl, b, ys, rfl, .inr h2, rfl, _, rfl, iteP (decide_eq_true (by rw [l1, l2])) ?_⟩
        refine ⟨_, rfl, _, rfl, a, b, xs, ys, rfl, .inr ⟨h1, h2, fun L hL => ?_⟩⟩
        refine lc_it (walk_zipTT (K := K) (a := a) (b := b) (xs := xs) (ys := ys) rfl) (fun i H' => Same H H' ∧ H' L = some (.lst (List.replicate i (V.bl true)))) ⟨same_new hL, upd_same⟩
          (fun i H' _ z => ⟨same_seqT z.1 h1, same_seqT z.1 h2⟩) ?_ ?_
        · rintro i v H' H'' hi ⟨z1, z2⟩ ⟨T, x, y, rfl, hT, rfl, hx, hy⟩
          obtain ⟨d1, e1, q1⟩ := dps_get a1 hx
          obtain ⟨d2, e2, q2⟩ := dps_get a2 hy
          have e : d1 = d2 := Option.some.inj (e1.symm.trans e2)
          subst e
          have sT := z1.trans (same_new (o := .tup [x, y]) hT)
          refine ⟨T, _, rfl, sqT_of upd_same, rfl, _, _, rfl, _, _, rfl, rfl, rfl, _, rfl, _, rfl, x, y, d1, rfl, dp_same sT q1, dp_same sT q2, oa d1 (List.mem_of_getElem? e1), fun H3 s3 => ?_⟩
          have hL3 : H3 L = some (.lst (List.replicate i (V.bl true))) := s3 _ _ (by rw [upd_ne (ne_of_none z2 hT)]; exact z2)
          refine ⟨_, hL3, ?_, same_mut (sT.trans s3) hL, ?_⟩
          · rw [List.length_replicate]
            exact Nat.lt_of_lt_of_le (show i < 5001 by omega) (by decide)
          · rw [upd_same, List.replicate_succ']
        · rintro H' ⟨z1, z2⟩
          refine ⟨L, List.replicate (min xs.length ys.length) true, rfl, sqL_of (by rw [z2, List.map_replicate]), ?_⟩
          rw [all_true]
          exact q _ z1
      | dict _ => cases p1
end
end Au
set_option maxHeartbeats 4000000
/-! The defs whose first failing check raises. -/
namespace Au
open PySem PySem.Spec PyProof.Rows L2
theorem tf {b : Bool} {A : Prop} (h : b = false) (e : b = true) : A := by
  rw [h] at e
  cases e
theorem one_of {α : Type} {l : List α} (h : l.length = 1) : ∃ a, l = [a] := by
  match l, h with
  | [a], _ => exact ⟨a, rfl⟩
abbrev s_check_rule : Stmt := topS 20
theorem sx_check_rule : FnScope ["value"] ["value"] (defScope s_check_rule) := ⟨rfl, rfl, rfl, by decide +kernel, rfl, by decide +kernel, by decide +kernel⟩
abbrev s_check_log : Stmt := topS 21
theorem sx_check_log : FnScope ["value"] ["value"] (defScope s_check_log) := ⟨rfl, rfl, rfl, by decide +kernel, rfl, by decide +kernel, by decide +kernel⟩
abbrev s_check_time : Stmt := topS 22
theorem sx_check_time : FnScope ["value"] ["value"] (defScope s_check_time) := ⟨rfl, rfl, rfl, by decide +kernel, rfl, by decide +kernel, by decide +kernel⟩
abbrev s_unsaved : Stmt := topS 26
theorem sx_unsaved : FnScope ["rule", "log", "time"] ["rule", "log", "time"] (defScope s_unsaved) := ⟨rfl, rfl, rfl, by decide +kernel, rfl, by decide +kernel, by decide +kernel⟩
abbrev s_lost : Stmt := topS 27
theorem sx_lost : FnScope ["rule", "log", "time"] ["rule", "log", "time"] (defScope s_lost) := ⟨rfl, rfl, rfl, by decide +kernel, rfl, by decide +kernel, by decide +kernel⟩
abbrev s_saves : Stmt := topS 28
theorem sx_saves : FnScope ["rule", "log"] ["rule", "log"] (defScope s_saves) := ⟨rfl, rfl, rfl, by decide +kernel, rfl, by decide +kernel, by decide +kernel⟩
abbrev s_saves_until : Stmt := topS 29
theorem sx_saves_until : FnScope ["rule", "log", "time"] ["rule", "log", "time"] (defScope s_saves_until) := ⟨rfl, rfl, rfl, by decide +kernel, rfl, by decide +kernel, by decide +kernel⟩
abbrev s_most_unsaved : Stmt := topS 32
theorem sx_most_unsaved : FnScope ["rule", "log"] ["rule", "log"] (defScope s_most_unsaved) := ⟨rfl, rfl, rfl, by decide +kernel, rfl, by decide +kernel, by decide +kernel⟩
abbrev s_largest_excess : Stmt := topS 49
theorem sx_largest_excess : FnScope ["first", "second"] ["first", "second"] (defScope s_largest_excess) := ⟨rfl, rfl, rfl, by decide +kernel, rfl, by decide +kernel, by decide +kernel⟩
abbrev s_never_loses_more : Stmt := topS 50
theorem sx_never_loses_more : FnScope ["first", "second"] ["first", "second"] (defScope s_never_loses_more) := ⟨rfl, rfl, rfl, by decide +kernel, rfl, by decide +kernel, by decide +kernel⟩
abbrev s_never_saves_more : Stmt := topS 52
theorem sx_never_saves_more : FnScope ["first", "second"] ["first", "second"] (defScope s_never_saves_more) := ⟨rfl, rfl, rfl, by decide +kernel, rfl, by decide +kernel, by decide +kernel⟩
abbrev s_alike : Stmt := topS 53
theorem sx_alike : FnScope ["first", "second"] ["first", "second"] (defScope s_alike) := ⟨rfl, rfl, rfl, by decide +kernel, rfl, by decide +kernel, by decide +kernel⟩
abbrev s_telling_loss : Stmt := topS 54
theorem sx_telling_loss : FnScope ["first", "second"] ["first", "second"] (defScope s_telling_loss) := ⟨rfl, rfl, rfl, by decide +kernel, rfl, by decide +kernel, by decide +kernel⟩
abbrev s_telling_saves : Stmt := topS 55
theorem sx_telling_saves : FnScope ["first", "second"] ["first", "second"] (defScope s_telling_saves) := ⟨rfl, rfl, rfl, by decide +kernel, rfl, by decide +kernel, by decide +kernel⟩
abbrev s_regular_saves : Stmt := topS 65
theorem sx_regular_saves : FnScope ["rule", "gap", "number"] ["rule", "gap", "number"] (defScope s_regular_saves) := ⟨rfl, rfl, rfl, by decide +kernel, rfl, by decide +kernel, by decide +kernel⟩
abbrev s_burst_saves : Stmt := topS 66
theorem sx_burst_saves : FnScope ["rule", "size", "gap", "pause", "number"] ["rule", "size", "gap", "pause", "number"] (defScope s_burst_saves) := ⟨rfl, rfl, rfl, by decide +kernel, rfl, by decide +kernel, by decide +kernel⟩
abbrev s_both : Stmt := topS 36
theorem sx_both : FnScope ["rule", "log", "index"] ["rule", "log", "index"] (defScope s_both) := ⟨rfl, rfl, rfl, by decide +kernel, rfl, by decide +kernel, by decide +kernel⟩
abbrev s_rows_of : Stmt := topS 58
theorem sx_rows_of : FnScope ["rule", "ticks", "saves"] ["rule", "ticks", "saves"] (defScope s_rows_of) := ⟨rfl, rfl, rfl, by decide +kernel, rfl, by decide +kernel, by decide +kernel⟩
abbrev s_longest_idle : Stmt := topS 43
theorem sx_longest_idle : FnScope ["log", "count", "most"] ["log", "count", "most"] (defScope s_longest_idle) := ⟨rfl, rfl, rfl, by decide +kernel, rfl, by decide +kernel, by decide +kernel⟩
abbrev s_fewest_saves : Stmt := topS 44
theorem sx_fewest_saves : FnScope ["log", "most"] ["log", "most"] (defScope s_fewest_saves) := ⟨rfl, rfl, rfl, by decide +kernel, rfl, by decide +kernel, by decide +kernel⟩
abbrev s_best_rule : Stmt := topS 45
theorem sx_best_rule : FnScope ["log", "most"] ["log", "most"] (defScope s_best_rule) := ⟨rfl, rfl, rfl, by decide +kernel, rfl, by decide +kernel, by decide +kernel⟩
abbrev s_fitting_rules : Stmt := topS 77
theorem sx_fitting_rules : FnScope ["log", "times"] ["log", "times"] (defScope s_fitting_rules) := ⟨rfl, rfl, rfl, by decide +kernel, rfl, by decide +kernel, by decide +kernel⟩
abbrev s_fitting_by_losses : Stmt := topS 78
theorem sx_fitting_by_losses : FnScope ["log", "seen"] ["log", "seen"] (defScope s_fitting_by_losses) := ⟨rfl, rfl, rfl, by decide +kernel, rfl, by decide +kernel, by decide +kernel⟩
abbrev s_wrong_losses : Stmt := topS 79
theorem sx_wrong_losses : FnScope ["log", "seen"] ["log", "seen"] (defScope s_wrong_losses) := ⟨rfl, rfl, rfl, by decide +kernel, rfl, by decide +kernel, by decide +kernel⟩
abbrev s_changed_saves : Stmt := topS 38
theorem sx_changed_saves : FnScope ["rule", "log", "index"] ["rule", "log", "index"] (defScope s_changed_saves) := ⟨rfl, rfl, rfl, by decide +kernel, rfl, by decide +kernel, by decide +kernel⟩
abbrev s_alike_from : Stmt := topS 39
theorem sx_alike_from : FnScope ["rule", "log", "index"] ["rule", "log", "index"] (defScope s_alike_from) := ⟨rfl, rfl, rfl, by decide +kernel, rfl, by decide +kernel, by decide +kernel⟩
section
variable {P : Program} {w : World} {K : PySem.W.Frag} {mg : Str → Option Value} {base : Heap} {CR CL CT : Addr}
def spCkRule (K : PySem.W.Frag) (CR : Addr) : Sp := fun vs H Q E => ∃ (x : V) (d : PyData), vs = [x] ∧ Dp K H x d ∧ (ruleD d = true → Q .non H) ∧ (ruleD d = false → E (.ref CR) none H)
theorem ck_rule (D : DefT K mg "check_rule" s_check_rule ["value"]) (e : ErrC K mg "InvalidRule" CR) (c : C8.Cal P w K mg base 2 "is_rule" (spIsRule K) []) : CalX P w K mg base 3 "check_rule" (spCkRule K CR) := by
  refine calX_of D sx_check_rule (fun vs H Q E h => ?_) (fun f cdv A outer s H vs Q E hr tk h => ?_)
  · obtain ⟨x, d, rfl, _⟩ := h
    rfl
  · obtain ⟨x, d, rfl, dp, q1, q2⟩ := h
    refine ⟨_, pss_one (ps_if (pt_not (pt_val (C8.pe_c c hr (by decide) (by rfl) (pa_cons (pv 0) pa_nil)))) (pss_one (ps_err tk e)) pss_nil), ?_⟩
    refine ⟨_, rfl, x, d, rfl, dp, ?_⟩
    cases b : ruleD d with
    | true => exact ⟨_, rfl, iteF (q1 b)⟩
    | false => exact ⟨_, rfl, iteT (q2 b)⟩
def spCkLog (K : PySem.W.Frag) (CL : Addr) : Sp := fun vs H Q E => ∃ (x : V) (d : PyData), vs = [x] ∧ Dp K H x d ∧ ∀ H', Same H H' → (logD d = true → Q .non H') ∧ (logD d = false → E (.ref CL) none H')
theorem ck_log (D : DefT K mg "check_log" s_check_log ["value"]) (e : ErrC K mg "InvalidLog" CL) (c : C8.Cal P w K mg base 2 "is_log" (spIsLog K) []) : CalX P w K mg base 3 "check_log" (spCkLog K CL) := by
  refine calX_of D sx_check_log (fun vs H Q E h => ?_) (fun f cdv A outer s H vs Q E hr tk h => ?_)
  · obtain ⟨x, d, rfl, _⟩ := h
    rfl
  · obtain ⟨x, d, rfl, dp, q⟩ := h
    refine ⟨_, pss_one (ps_if (pt_not (pt_val (C8.pe_c c hr (by decide) (by rfl) (pa_cons (pv 0) pa_nil)))) (pss_one (ps_err tk e)) pss_nil), ?_⟩
    refine ⟨_, rfl, x, d, rfl, dp, fun H' s1 => ?_⟩
    cases b : logD d with
    | true => exact ⟨_, rfl, iteF ((q H' s1).1 b)⟩
    | false => exact ⟨_, rfl, iteT ((q H' s1).2 b)⟩
def spCkTime : Sp := fun vs H Q _ => ∃ (t : Int), vs = [.int t] ∧ (0 ≤ t ∧ t ≤ 1000000000) ∧ Q .non H
theorem ck_time (B : Blt mg) (D : DefT K mg "check_time" s_check_time ["value"]) (c : C8.Cal P w K mg base 1 "in_range" (spInRange K) []) : CalX P w K mg base 2 "check_time" spCkTime := by
  refine calX_of D sx_check_time (fun vs H Q E h => ?_) (fun f cdv A outer s H vs Q E hr tk h => ?_)
  · obtain ⟨t, rfl, _⟩ := h
    rfl
  · obtain ⟨t, rfl, ht, q⟩ := h
    refine ⟨_, pss_one (ps_if (pt_not (pt_val (C8.pe_c c hr (by decide) (by rfl) (pa_cons (pv 0) (pa_cons pe_int (pa_cons (C8.pe_gc (by rfl) B.g_FAR) pa_nil)))))) (pss_one ps_never) pss_nil), ?_⟩
    refine ⟨_, rfl, _, _, _, _, rfl, .int t, ?_⟩
    have e : inRD (.int t) 0 1000000000 = true := by
      show (decide (0 ≤ t) && decide (t ≤ 1000000000)) = true
      rw [decide_eq_true ht.1, decide_eq_true ht.2]
      rfl
    rw [e]
    exact ⟨_, rfl, iteF q⟩
/-- the first argument is no rule -/
def spR (K : PySem.W.Frag) (CR : Addr) (n : Nat) : Sp := fun vs H _ E => ∃ (x : V) (ys : List V) (d : PyData), vs = x :: ys ∧ ys.length = n ∧ Dp K H x d ∧ ruleD d = false ∧ Rz CR H E
/-- the second is none -/
def spR2 (K : PySem.W.Frag) (CR : Addr) : Sp := fun vs H _ E => ∃ (x y : V) (g d : PyData), vs = [y, x] ∧ Dp K H y g ∧ ruleD g = true ∧ Dp K H x d ∧ ruleD d = false ∧ Rz CR H E
/-- a rule, then no log -/
def spL (K : PySem.W.Frag) (CL : Addr) (n : Nat) : Sp := fun vs H _ E => ∃ (x y : V) (ys : List V) (g d : PyData), vs = y :: x :: ys ∧ ys.length = n ∧ Dp K H y g ∧ ruleD g = true ∧ Dp K H x d ∧ logD d = false ∧ Rz CL H E
/-- no log, first -/
def spLF (K : PySem.W.Frag) (CL : Addr) (n : Nat) : Sp := fun vs H _ E => ∃ (x : V) (ys : List V) (d : PyData), vs = x :: ys ∧ ys.length = n ∧ Dp K H x d ∧ logD d = false ∧ Rz CL H E
theorem r_unsaved (D : DefT K mg "unsaved" s_unsaved ["rule", "log", "time"]) (c : CalX P w K mg base 3 "check_rule" (spCkRule K CR)) : CalX P w K mg base 4 "unsaved" (spR K CR 2) := by
  refine calX_of D sx_unsaved (fun vs H Q E h => ?_) (fun f cdv A outer s H vs Q E hr tk h => ?_)
  · obtain ⟨x, ys, d, rfl, l, dp, bad, r⟩ := h
    exact congrArg (· + 1) l
  · obtain ⟨x, ys, d, rfl, l, dp, bad, r⟩ := h
    refine ⟨_, pss_cons (ps_expr (pe_cX c tk hr (by decide) (by rfl) (pa_cons (pv 0) pa_nil))) pss_any, ?_⟩
    exact ⟨_, rfl, x, d, rfl, dp, fun e => tf bad e, fun _ => r H (Same.refl H)⟩
theorem r_lost (D : DefT K mg "lost" s_lost ["rule", "log", "time"]) (c : CalX P w K mg base 3 "check_rule" (spCkRule K CR)) : CalX P w K mg base 4 "lost" (spR K CR 2) := by
  refine calX_of D sx_lost (fun vs H Q E h => ?_) (fun f cdv A outer s H vs Q E hr tk h => ?_)
  · obtain ⟨x, ys, d, rfl, l, dp, bad, r⟩ := h
    exact congrArg (· + 1) l
  · obtain ⟨x, ys, d, rfl, l, dp, bad, r⟩ := h
    refine ⟨_, pss_cons (ps_expr (pe_cX c tk hr (by decide) (by rfl) (pa_cons (pv 0) pa_nil))) pss_any, ?_⟩
    exact ⟨_, rfl, x, d, rfl, dp, fun e => tf bad e, fun _ => r H (Same.refl H)⟩
theorem r_saves (D : DefT K mg "saves" s_saves ["rule", "log"]) (c : CalX P w K mg base 3 "check_rule" (spCkRule K CR)) : CalX P w K mg base 4 "saves" (spR K CR 1) := by
  refine calX_of D sx_saves (fun vs H Q E h => ?_) (fun f cdv A outer s H vs Q E hr tk h => ?_)
  · obtain ⟨x, ys, d, rfl, l, dp, bad, r⟩ := h
    exact congrArg (· + 1) l
  · obtain ⟨x, ys, d, rfl, l, dp, bad, r⟩ := h
    refine ⟨_, pss_cons (ps_expr (pe_cX c tk hr (by decide) (by rfl) (pa_cons (pv 0) pa_nil))) pss_any, ?_⟩
    exact ⟨_, rfl, x, d, rfl, dp, fun e => tf bad e, fun _ => r H (Same.refl H)⟩
theorem r_saves_until (D : DefT K mg "saves_until" s_saves_until ["rule", "log", "time"]) (c : CalX P w K mg base 3 "check_rule" (spCkRule K CR)) : CalX P w K mg base 4 "saves_until" (spR K CR 2) := by
  refine calX_of D sx_saves_until (fun vs H Q E h => ?_) (fun f cdv A outer s H vs Q E hr tk h => ?_)
  · obtain ⟨x, ys, d, rfl, l, dp, bad, r⟩ := h
    exact congrArg (· + 1) l
  · obtain ⟨x, ys, d, rfl, l, dp, bad, r⟩ := h
    refine ⟨_, pss_cons (ps_expr (pe_cX c tk hr (by decide) (by rfl) (pa_cons (pv 0) pa_nil))) pss_any, ?_⟩
    exact ⟨_, rfl, x, d, rfl, dp, fun e => tf bad e, fun _ => r H (Same.refl H)⟩
theorem r_most_unsaved (D : DefT K mg "most_unsaved" s_most_unsaved ["rule", "log"]) (c : CalX P w K mg base 3 "check_rule" (spCkRule K CR)) : CalX P w K mg base 4 "most_unsaved" (spR K CR 1) := by
  refine calX_of D sx_most_unsaved (fun vs H Q E h => ?_) (fun f cdv A outer s H vs Q E hr tk h => ?_)
  · obtain ⟨x, ys, d, rfl, l, dp, bad, r⟩ := h
    exact congrArg (· + 1) l
  · obtain ⟨x, ys, d, rfl, l, dp, bad, r⟩ := h
    refine ⟨_, pss_cons (ps_expr (pe_cX c tk hr (by decide) (by rfl) (pa_cons (pv 0) pa_nil))) pss_any, ?_⟩
    exact ⟨_, rfl, x, d, rfl, dp, fun e => tf bad e, fun _ => r H (Same.refl H)⟩
theorem r_largest_excess (D : DefT K mg "largest_excess" s_largest_excess ["first", "second"]) (c : CalX P w K mg base 3 "check_rule" (spCkRule K CR)) : CalX P w K mg base 4 "largest_excess" (spR K CR 1) := by
  refine calX_of D sx_largest_excess (fun vs H Q E h => ?_) (fun f cdv A outer s H vs Q E hr tk h => ?_)
  · obtain ⟨x, ys, d, rfl, l, dp, bad, r⟩ := h
    exact congrArg (· + 1) l
  · obtain ⟨x, ys, d, rfl, l, dp, bad, r⟩ := h
    refine ⟨_, pss_cons (ps_expr (pe_cX c tk hr (by decide) (by rfl) (pa_cons (pv 0) pa_nil))) pss_any, ?_⟩
    exact ⟨_, rfl, x, d, rfl, dp, fun e => tf bad e, fun _ => r H (Same.refl H)⟩
theorem r_never_loses_more (D : DefT K mg "never_loses_more" s_never_loses_more ["first", "second"]) (c : CalX P w K mg base 3 "check_rule" (spCkRule K CR)) : CalX P w K mg base 4 "never_loses_more" (spR K CR 1) := by
  refine calX_of D sx_never_loses_more (fun vs H Q E h => ?_) (fun f cdv A outer s H vs Q E hr tk h => ?_)
  · obtain ⟨x, ys, d, rfl, l, dp, bad, r⟩ := h
    exact congrArg (· + 1) l
  · obtain ⟨x, ys, d, rfl, l, dp, bad, r⟩ := h
    refine ⟨_, pss_cons (ps_expr (pe_cX c tk hr (by decide) (by rfl) (pa_cons (pv 0) pa_nil))) pss_any, ?_⟩
    exact ⟨_, rfl, x, d, rfl, dp, fun e => tf bad e, fun _ => r H (Same.refl H)⟩
theorem r_never_saves_more (D : DefT K mg "never_saves_more" s_never_saves_more ["first", "second"]) (c : CalX P w K mg base 3 "check_rule" (spCkRule K CR)) : CalX P w K mg base 4 "never_saves_more" (spR K CR 1) := by
  refine calX_of D sx_never_saves_more (fun vs H Q E h => ?_) (fun f cdv A outer s H vs Q E hr tk h => ?_)
  · obtain ⟨x, ys, d, rfl, l, dp, bad, r⟩ := h
    exact congrArg (· + 1) l
  · obtain ⟨x, ys, d, rfl, l, dp, bad, r⟩ := h
    refine ⟨_, pss_cons (ps_expr (pe_cX c tk hr (by decide) (by rfl) (pa_cons (pv 0) pa_nil))) pss_any, ?_⟩
    exact ⟨_, rfl, x, d, rfl, dp, fun e => tf bad e, fun _ => r H (Same.refl H)⟩
theorem r_alike (D : DefT K mg "alike" s_alike ["first", "second"]) (c : CalX P w K mg base 3 "check_rule" (spCkRule K CR)) : CalX P w K mg base 4 "alike" (spR K CR 1) := by
  refine calX_of D sx_alike (fun vs H Q E h => ?_) (fun f cdv A outer s H vs Q E hr tk h => ?_)
  · obtain ⟨x, ys, d, rfl, l, dp, bad, r⟩ := h
    exact congrArg (· + 1) l
  · obtain ⟨x, ys, d, rfl, l, dp, bad, r⟩ := h
    refine ⟨_, pss_cons (ps_expr (pe_cX c tk hr (by decide) (by rfl) (pa_cons (pv 0) pa_nil))) pss_any, ?_⟩
    exact ⟨_, rfl, x, d, rfl, dp, fun e => tf bad e, fun _ => r H (Same.refl H)⟩
theorem r_telling_loss (D : DefT K mg "telling_loss" s_telling_loss ["first", "second"]) (c : CalX P w K mg base 3 "check_rule" (spCkRule K CR)) : CalX P w K mg base 4 "telling_loss" (spR K CR 1) := by
  refine calX_of D sx_telling_loss (fun vs H Q E h => ?_) (fun f cdv A outer s H vs Q E hr tk h => ?_)
  · obtain ⟨x, ys, d, rfl, l, dp, bad, r⟩ := h
    exact congrArg (· + 1) l
  · obtain ⟨x, ys, d, rfl, l, dp, bad, r⟩ := h
    refine ⟨_, pss_cons (ps_expr (pe_cX c tk hr (by decide) (by rfl) (pa_cons (pv 0) pa_nil))) pss_any, ?_⟩
    exact ⟨_, rfl, x, d, rfl, dp, fun e => tf bad e, fun _ => r H (Same.refl H)⟩
theorem r_telling_saves (D : DefT K mg "telling_saves" s_telling_saves ["first", "second"]) (c : CalX P w K mg base 3 "check_rule" (spCkRule K CR)) : CalX P w K mg base 4 "telling_saves" (spR K CR 1) := by
  refine calX_of D sx_telling_saves (fun vs H Q E h => ?_) (fun f cdv A outer s H vs Q E hr tk h => ?_)
  · obtain ⟨x, ys, d, rfl, l, dp, bad, r⟩ := h
    exact congrArg (· + 1) l
  · obtain ⟨x, ys, d, rfl, l, dp, bad, r⟩ := h
    refine ⟨_, pss_cons (ps_expr (pe_cX c tk hr (by decide) (by rfl) (pa_cons (pv 0) pa_nil))) pss_any, ?_⟩
    exact ⟨_, rfl, x, d, rfl, dp, fun e => tf bad e, fun _ => r H (Same.refl H)⟩
theorem r_regular_saves (D : DefT K mg "regular_saves" s_regular_saves ["rule", "gap", "number"]) (c : CalX P w K mg base 3 "check_rule" (spCkRule K CR)) : CalX P w K mg base 4 "regular_saves" (spR K CR 2) := by
  refine calX_of D sx_regular_saves (fun vs H Q E h => ?_) (fun f cdv A outer s H vs Q E hr tk h => ?_)
  · obtain ⟨x, ys, d, rfl, l, dp, bad, r⟩ := h
    exact congrArg (· + 1) l
  · obtain ⟨x, ys, d, rfl, l, dp, bad, r⟩ := h
    refine ⟨_, pss_cons (ps_expr (pe_cX c tk hr (by decide) (by rfl) (pa_cons (pv 0) pa_nil))) pss_any, ?_⟩
    exact ⟨_, rfl, x, d, rfl, dp, fun e => tf bad e, fun _ => r H (Same.refl H)⟩
theorem r_burst_saves (D : DefT K mg "burst_saves" s_burst_saves ["rule", "size", "gap", "pause", "number"]) (c : CalX P w K mg base 3 "check_rule" (spCkRule K CR)) : CalX P w K mg base 4 "burst_saves" (spR K CR 4) := by
  refine calX_of D sx_burst_saves (fun vs H Q E h => ?_) (fun f cdv A outer s H vs Q E hr tk h => ?_)
  · obtain ⟨x, ys, d, rfl, l, dp, bad, r⟩ := h
    exact congrArg (· + 1) l
  · obtain ⟨x, ys, d, rfl, l, dp, bad, r⟩ := h
    refine ⟨_, pss_cons (ps_expr (pe_cX c tk hr (by decide) (by rfl) (pa_cons (pv 0) pa_nil))) pss_any, ?_⟩
    exact ⟨_, rfl, x, d, rfl, dp, fun e => tf bad e, fun _ => r H (Same.refl H)⟩
theorem r_both (D : DefT K mg "both" s_both ["rule", "log", "index"]) (c : CalX P w K mg base 3 "check_rule" (spCkRule K CR)) : CalX P w K mg base 4 "both" (spR K CR 2) := by
  refine calX_of D sx_both (fun vs H Q E h => ?_) (fun f cdv A outer s H vs Q E hr tk h => ?_)
  · obtain ⟨x, ys, d, rfl, l, dp, bad, r⟩ := h
    exact congrArg (· + 1) l
  · obtain ⟨x, ys, d, rfl, l, dp, bad, r⟩ := h
    refine ⟨_, pss_cons (ps_expr (pe_cX c tk hr (by decide) (by rfl) (pa_cons (pv 0) pa_nil))) pss_any, ?_⟩
    exact ⟨_, rfl, x, d, rfl, dp, fun e => tf bad e, fun _ => r H (Same.refl H)⟩
theorem r_rows_of (D : DefT K mg "rows_of" s_rows_of ["rule", "ticks", "saves"]) (c : CalX P w K mg base 3 "check_rule" (spCkRule K CR)) : CalX P w K mg base 4 "rows_of" (spR K CR 2) := by
  refine calX_of D sx_rows_of (fun vs H Q E h => ?_) (fun f cdv A outer s H vs Q E hr tk h => ?_)
  · obtain ⟨x, ys, d, rfl, l, dp, bad, r⟩ := h
    exact congrArg (· + 1) l
  · obtain ⟨x, ys, d, rfl, l, dp, bad, r⟩ := h
    refine ⟨_, pss_cons (ps_expr (pe_cX c tk hr (by decide) (by rfl) (pa_cons (pv 0) pa_nil))) pss_any, ?_⟩
    exact ⟨_, rfl, x, d, rfl, dp, fun e => tf bad e, fun _ => r H (Same.refl H)⟩
theorem r2_largest_excess (D : DefT K mg "largest_excess" s_largest_excess ["first", "second"]) (c : CalX P w K mg base 3 "check_rule" (spCkRule K CR)) : CalX P w K mg base 4 "largest_excess" (spR2 K CR) := by
  refine calX_of D sx_largest_excess (fun vs H Q E h => ?_) (fun f cdv A outer s H vs Q E hr tk h => ?_)
  · obtain ⟨x, y, g, d, rfl, dg, good, dp, bad, r⟩ := h
    rfl
  · obtain ⟨x, y, g, d, rfl, dg, good, dp, bad, r⟩ := h
    refine ⟨_, pss_cons (ps_expr (pe_cX c tk hr (by decide) (by rfl) (pa_cons (pv 0) pa_nil))) (pss_cons (ps_expr (pe_cX c tk hr (by decide) (by rfl) (pa_cons (pv 1) pa_nil))) pss_any), ?_⟩
    refine ⟨_, rfl, y, g, rfl, dg, fun _ => ?_, fun e => tf e good⟩
    exact ⟨_, rfl, x, d, rfl, dp, fun e => tf bad e, fun _ => r H (Same.refl H)⟩
theorem r2_never_loses_more (D : DefT K mg "never_loses_more" s_never_loses_more ["first", "second"]) (c : CalX P w K mg base 3 "check_rule" (spCkRule K CR)) : CalX P w K mg base 4 "never_loses_more" (spR2 K CR) := by
  refine calX_of D sx_never_loses_more (fun vs H Q E h => ?_) (fun f cdv A outer s H vs Q E hr tk h => ?_)
  · obtain ⟨x, y, g, d, rfl, dg, good, dp, bad, r⟩ := h
    rfl
  · obtain ⟨x, y, g, d, rfl, dg, good, dp, bad, r⟩ := h
    refine ⟨_, pss_cons (ps_expr (pe_cX c tk hr (by decide) (by rfl) (pa_cons (pv 0) pa_nil))) (pss_cons (ps_expr (pe_cX c tk hr (by decide) (by rfl) (pa_cons (pv 1) pa_nil))) pss_any), ?_⟩
    refine ⟨_, rfl, y, g, rfl, dg, fun _ => ?_, fun e => tf e good⟩
    exact ⟨_, rfl, x, d, rfl, dp, fun e => tf bad e, fun _ => r H (Same.refl H)⟩
theorem r2_alike (D : DefT K mg "alike" s_alike ["first", "second"]) (c : CalX P w K mg base 3 "check_rule" (spCkRule K CR)) : CalX P w K mg base 4 "alike" (spR2 K CR) := by
  refine calX_of D sx_alike (fun vs H Q E h => ?_) (fun f cdv A outer s H vs Q E hr tk h => ?_)
  · obtain ⟨x, y, g, d, rfl, dg, good, dp, bad, r⟩ := h
    rfl
  · obtain ⟨x, y, g, d, rfl, dg, good, dp, bad, r⟩ := h
    refine ⟨_, pss_cons (ps_expr (pe_cX c tk hr (by decide) (by rfl) (pa_cons (pv 0) pa_nil))) (pss_cons (ps_expr (pe_cX c tk hr (by decide) (by rfl) (pa_cons (pv 1) pa_nil))) pss_any), ?_⟩
    refine ⟨_, rfl, y, g, rfl, dg, fun _ => ?_, fun e => tf e good⟩
    exact ⟨_, rfl, x, d, rfl, dp, fun e => tf bad e, fun _ => r H (Same.refl H)⟩
theorem r2_telling_loss (D : DefT K mg "telling_loss" s_telling_loss ["first", "second"]) (c : CalX P w K mg base 3 "check_rule" (spCkRule K CR)) : CalX P w K mg base 4 "telling_loss" (spR2 K CR) := by
  refine calX_of D sx_telling_loss (fun vs H Q E h => ?_) (fun f cdv A outer s H vs Q E hr tk h => ?_)
  · obtain ⟨x, y, g, d, rfl, dg, good, dp, bad, r⟩ := h
    rfl
  · obtain ⟨x, y, g, d, rfl, dg, good, dp, bad, r⟩ := h
    refine ⟨_, pss_cons (ps_expr (pe_cX c tk hr (by decide) (by rfl) (pa_cons (pv 0) pa_nil))) (pss_cons (ps_expr (pe_cX c tk hr (by decide) (by rfl) (pa_cons (pv 1) pa_nil))) pss_any), ?_⟩
    refine ⟨_, rfl, y, g, rfl, dg, fun _ => ?_, fun e => tf e good⟩
    exact ⟨_, rfl, x, d, rfl, dp, fun e => tf bad e, fun _ => r H (Same.refl H)⟩
theorem l_unsaved (D : DefT K mg "unsaved" s_unsaved ["rule", "log", "time"]) (c : CalX P w K mg base 3 "check_rule" (spCkRule K CR)) (cl : CalX P w K mg base 3 "check_log" (spCkLog K CL)) : CalX P w K mg base 4 "unsaved" (spL K CL 1) := by
  refine calX_of D sx_unsaved (fun vs H Q E h => ?_) (fun f cdv A outer s H vs Q E hr tk h => ?_)
  · obtain ⟨x, y, ys, g, d, rfl, l, dg, good, dp, bad, r⟩ := h
    exact congrArg (· + 2) l
  · obtain ⟨x, y, ys, g, d, rfl, l, dg, good, dp, bad, r⟩ := h
    refine ⟨_, pss_cons (ps_expr (pe_cX c tk hr (by decide) (by rfl) (pa_cons (pv 0) pa_nil))) (pss_cons (ps_expr (pe_cX cl tk hr (by decide) (by rfl) (pa_cons (pv 1) pa_nil))) pss_any), ?_⟩
    refine ⟨_, rfl, y, g, rfl, dg, fun _ => ?_, fun e => tf e good⟩
    exact ⟨_, rfl, x, d, rfl, dp, fun H1 s1 => ⟨fun e => tf bad e, fun _ => r H1 s1⟩⟩
theorem l_lost (D : DefT K mg "lost" s_lost ["rule", "log", "time"]) (c : CalX P w K mg base 3 "check_rule" (spCkRule K CR)) (cl : CalX P w K mg base 3 "check_log" (spCkLog K CL)) : CalX P w K mg base 4 "lost" (spL K CL 1) := by
  refine calX_of D sx_lost (fun vs H Q E h => ?_) (fun f cdv A outer s H vs Q E hr tk h => ?_)
  · obtain ⟨x, y, ys, g, d, rfl, l, dg, good, dp, bad, r⟩ := h
    exact congrArg (· + 2) l
  · obtain ⟨x, y, ys, g, d, rfl, l, dg, good, dp, bad, r⟩ := h
    refine ⟨_, pss_cons (ps_expr (pe_cX c tk hr (by decide) (by rfl) (pa_cons (pv 0) pa_nil))) (pss_cons (ps_expr (pe_cX cl tk hr (by decide) (by rfl) (pa_cons (pv 1) pa_nil))) pss_any), ?_⟩
    refine ⟨_, rfl, y, g, rfl, dg, fun _ => ?_, fun e => tf e good⟩
    exact ⟨_, rfl, x, d, rfl, dp, fun H1 s1 => ⟨fun e => tf bad e, fun _ => r H1 s1⟩⟩
theorem l_saves (D : DefT K mg "saves" s_saves ["rule", "log"]) (c : CalX P w K mg base 3 "check_rule" (spCkRule K CR)) (cl : CalX P w K mg base 3 "check_log" (spCkLog K CL)) : CalX P w K mg base 4 "saves" (spL K CL 0) := by
  refine calX_of D sx_saves (fun vs H Q E h => ?_) (fun f cdv A outer s H vs Q E hr tk h => ?_)
  · obtain ⟨x, y, ys, g, d, rfl, l, dg, good, dp, bad, r⟩ := h
    exact congrArg (· + 2) l
  · obtain ⟨x, y, ys, g, d, rfl, l, dg, good, dp, bad, r⟩ := h
    refine ⟨_, pss_cons (ps_expr (pe_cX c tk hr (by decide) (by rfl) (pa_cons (pv 0) pa_nil))) (pss_cons (ps_expr (pe_cX cl tk hr (by decide) (by rfl) (pa_cons (pv 1) pa_nil))) pss_any), ?_⟩
    refine ⟨_, rfl, y, g, rfl, dg, fun _ => ?_, fun e => tf e good⟩
    exact ⟨_, rfl, x, d, rfl, dp, fun H1 s1 => ⟨fun e => tf bad e, fun _ => r H1 s1⟩⟩
theorem l_saves_until (D : DefT K mg "saves_until" s_saves_until ["rule", "log", "time"]) (c : CalX P w K mg base 3 "check_rule" (spCkRule K CR)) (cl : CalX P w K mg base 3 "check_log" (spCkLog K CL)) : CalX P w K mg base 4 "saves_until" (spL K CL 1) := by
  refine calX_of D sx_saves_until (fun vs H Q E h => ?_) (fun f cdv A outer s H vs Q E hr tk h => ?_)
  · obtain ⟨x, y, ys, g, d, rfl, l, dg, good, dp, bad, r⟩ := h
    exact congrArg (· + 2) l
  · obtain ⟨x, y, ys, g, d, rfl, l, dg, good, dp, bad, r⟩ := h
    refine ⟨_, pss_cons (ps_expr (pe_cX c tk hr (by decide) (by rfl) (pa_cons (pv 0) pa_nil))) (pss_cons (ps_expr (pe_cX cl tk hr (by decide) (by rfl) (pa_cons (pv 1) pa_nil))) pss_any), ?_⟩
    refine ⟨_, rfl, y, g, rfl, dg, fun _ => ?_, fun e => tf e good⟩
    exact ⟨_, rfl, x, d, rfl, dp, fun H1 s1 => ⟨fun e => tf bad e, fun _ => r H1 s1⟩⟩
theorem l_most_unsaved (D : DefT K mg "most_unsaved" s_most_unsaved ["rule", "log"]) (c : CalX P w K mg base 3 "check_rule" (spCkRule K CR)) (cl : CalX P w K mg base 3 "check_log" (spCkLog K CL)) : CalX P w K mg base 4 "most_unsaved" (spL K CL 0) := by
  refine calX_of D sx_most_unsaved (fun vs H Q E h => ?_) (fun f cdv A outer s H vs Q E hr tk h => ?_)
  · obtain ⟨x, y, ys, g, d, rfl, l, dg, good, dp, bad, r⟩ := h
    exact congrArg (· + 2) l
  · obtain ⟨x, y, ys, g, d, rfl, l, dg, good, dp, bad, r⟩ := h
    refine ⟨_, pss_cons (ps_expr (pe_cX c tk hr (by decide) (by rfl) (pa_cons (pv 0) pa_nil))) (pss_cons (ps_expr (pe_cX cl tk hr (by decide) (by rfl) (pa_cons (pv 1) pa_nil))) pss_any), ?_⟩
    refine ⟨_, rfl, y, g, rfl, dg, fun _ => ?_, fun e => tf e good⟩
    exact ⟨_, rfl, x, d, rfl, dp, fun H1 s1 => ⟨fun e => tf bad e, fun _ => r H1 s1⟩⟩
theorem l_both (D : DefT K mg "both" s_both ["rule", "log", "index"]) (c : CalX P w K mg base 3 "check_rule" (spCkRule K CR)) (cl : CalX P w K mg base 3 "check_log" (spCkLog K CL)) : CalX P w K mg base 4 "both" (spL K CL 1) := by
  refine calX_of D sx_both (fun vs H Q E h => ?_) (fun f cdv A outer s H vs Q E hr tk h => ?_)
  · obtain ⟨x, y, ys, g, d, rfl, l, dg, good, dp, bad, r⟩ := h
    exact congrArg (· + 2) l
  · obtain ⟨x, y, ys, g, d, rfl, l, dg, good, dp, bad, r⟩ := h
    refine ⟨_, pss_cons (ps_expr (pe_cX c tk hr (by decide) (by rfl) (pa_cons (pv 0) pa_nil))) (pss_cons (ps_expr (pe_cX cl tk hr (by decide) (by rfl) (pa_cons (pv 1) pa_nil))) pss_any), ?_⟩
    refine ⟨_, rfl, y, g, rfl, dg, fun _ => ?_, fun e => tf e good⟩
    exact ⟨_, rfl, x, d, rfl, dp, fun H1 s1 => ⟨fun e => tf bad e, fun _ => r H1 s1⟩⟩
theorem f_longest_idle (D : DefT K mg "longest_idle" s_longest_idle ["log", "count", "most"]) (cl : CalX P w K mg base 3 "check_log" (spCkLog K CL)) : CalX P w K mg base 4 "longest_idle" (spLF K CL 2) := by
  refine calX_of D sx_longest_idle (fun vs H Q E h => ?_) (fun f cdv A outer s H vs Q E hr tk h => ?_)
  · obtain ⟨x, ys, d, rfl, l, dp, bad, r⟩ := h
    exact congrArg (· + 1) l
  · obtain ⟨x, ys, d, rfl, l, dp, bad, r⟩ := h
    refine ⟨_, pss_cons (ps_expr (pe_cX cl tk hr (by decide) (by rfl) (pa_cons (pv 0) pa_nil))) pss_any, ?_⟩
    exact ⟨_, rfl, x, d, rfl, dp, fun H1 s1 => ⟨fun e => tf bad e, fun _ => r H1 s1⟩⟩
theorem f_fewest_saves (D : DefT K mg "fewest_saves" s_fewest_saves ["log", "most"]) (cl : CalX P w K mg base 3 "check_log" (spCkLog K CL)) : CalX P w K mg base 4 "fewest_saves" (spLF K CL 1) := by
  refine calX_of D sx_fewest_saves (fun vs H Q E h => ?_) (fun f cdv A outer s H vs Q E hr tk h => ?_)
  · obtain ⟨x, ys, d, rfl, l, dp, bad, r⟩ := h
    exact congrArg (· + 1) l
  · obtain ⟨x, ys, d, rfl, l, dp, bad, r⟩ := h
    refine ⟨_, pss_cons (ps_expr (pe_cX cl tk hr (by decide) (by rfl) (pa_cons (pv 0) pa_nil))) pss_any, ?_⟩
    exact ⟨_, rfl, x, d, rfl, dp, fun H1 s1 => ⟨fun e => tf bad e, fun _ => r H1 s1⟩⟩
theorem f_best_rule (D : DefT K mg "best_rule" s_best_rule ["log", "most"]) (cl : CalX P w K mg base 3 "check_log" (spCkLog K CL)) : CalX P w K mg base 4 "best_rule" (spLF K CL 1) := by
  refine calX_of D sx_best_rule (fun vs H Q E h => ?_) (fun f cdv A outer s H vs Q E hr tk h => ?_)
  · obtain ⟨x, ys, d, rfl, l, dp, bad, r⟩ := h
    exact congrArg (· + 1) l
  · obtain ⟨x, ys, d, rfl, l, dp, bad, r⟩ := h
    refine ⟨_, pss_cons (ps_expr (pe_cX cl tk hr (by decide) (by rfl) (pa_cons (pv 0) pa_nil))) pss_any, ?_⟩
    exact ⟨_, rfl, x, d, rfl, dp, fun H1 s1 => ⟨fun e => tf bad e, fun _ => r H1 s1⟩⟩
theorem f_fitting_rules (D : DefT K mg "fitting_rules" s_fitting_rules ["log", "times"]) (cl : CalX P w K mg base 3 "check_log" (spCkLog K CL)) : CalX P w K mg base 4 "fitting_rules" (spLF K CL 1) := by
  refine calX_of D sx_fitting_rules (fun vs H Q E h => ?_) (fun f cdv A outer s H vs Q E hr tk h => ?_)
  · obtain ⟨x, ys, d, rfl, l, dp, bad, r⟩ := h
    exact congrArg (· + 1) l
  · obtain ⟨x, ys, d, rfl, l, dp, bad, r⟩ := h
    refine ⟨_, pss_cons (ps_expr (pe_cX cl tk hr (by decide) (by rfl) (pa_cons (pv 0) pa_nil))) pss_any, ?_⟩
    exact ⟨_, rfl, x, d, rfl, dp, fun H1 s1 => ⟨fun e => tf bad e, fun _ => r H1 s1⟩⟩
theorem f_fitting_by_losses (D : DefT K mg "fitting_by_losses" s_fitting_by_losses ["log", "seen"]) (cl : CalX P w K mg base 3 "check_log" (spCkLog K CL)) : CalX P w K mg base 4 "fitting_by_losses" (spLF K CL 1) := by
  refine calX_of D sx_fitting_by_losses (fun vs H Q E h => ?_) (fun f cdv A outer s H vs Q E hr tk h => ?_)
  · obtain ⟨x, ys, d, rfl, l, dp, bad, r⟩ := h
    exact congrArg (· + 1) l
  · obtain ⟨x, ys, d, rfl, l, dp, bad, r⟩ := h
    refine ⟨_, pss_cons (ps_expr (pe_cX cl tk hr (by decide) (by rfl) (pa_cons (pv 0) pa_nil))) pss_any, ?_⟩
    exact ⟨_, rfl, x, d, rfl, dp, fun H1 s1 => ⟨fun e => tf bad e, fun _ => r H1 s1⟩⟩
theorem f_wrong_losses (D : DefT K mg "wrong_losses" s_wrong_losses ["log", "seen"]) (cl : CalX P w K mg base 3 "check_log" (spCkLog K CL)) : CalX P w K mg base 4 "wrong_losses" (spLF K CL 1) := by
  refine calX_of D sx_wrong_losses (fun vs H Q E h => ?_) (fun f cdv A outer s H vs Q E hr tk h => ?_)
  · obtain ⟨x, ys, d, rfl, l, dp, bad, r⟩ := h
    exact congrArg (· + 1) l
  · obtain ⟨x, ys, d, rfl, l, dp, bad, r⟩ := h
    refine ⟨_, pss_cons (ps_expr (pe_cX cl tk hr (by decide) (by rfl) (pa_cons (pv 0) pa_nil))) pss_any, ?_⟩
    exact ⟨_, rfl, x, d, rfl, dp, fun H1 s1 => ⟨fun e => tf bad e, fun _ => r H1 s1⟩⟩
def sv_changed_saves : List Str := ["rule", "log", "index", "other"]
theorem sy_changed_saves : FnScope (sv_changed_saves) ["rule", "log", "index"] (defScope s_changed_saves) := ⟨rfl, rfl, rfl, by decide +kernel, rfl, by decide +kernel, by decide +kernel⟩
theorem r_changed_saves (D : DefT K mg "changed_saves" s_changed_saves ["rule", "log", "index"]) (c : CalX P w K mg base 4 "both" (spR K CR 2)) : CalX P w K mg base 5 "changed_saves" (spR K CR 2) := by
  refine calX_of D sy_changed_saves (fun vs H Q E h => ?_) (fun f cdv A outer s H vs Q E hr tk h => ?_)
  · obtain ⟨x, ys, d, rfl, l, dp, bad, r⟩ := h
    exact congrArg (· + 1) l
  · obtain ⟨x, ys, d, rfl, l, dp, bad, r⟩ := h
    obtain ⟨y, z, rfl⟩ := two_of l
    refine ⟨_, pss_cons (ps_set (i := 3) sy_changed_saves.nd rfl (Or.inl rfl) (pe_cX c tk hr (by decide) (by rfl) (pa_cons (pv 0) (pa_cons (pv 1) (pa_cons (pv 2) pa_nil))))) pss_any, ?_⟩
    exact ⟨_, rfl, _, rfl, _, rfl, x, [y, z], d, rfl, rfl, dp, bad, r⟩
theorem l_changed_saves (D : DefT K mg "changed_saves" s_changed_saves ["rule", "log", "index"]) (c : CalX P w K mg base 4 "both" (spL K CL 1)) : CalX P w K mg base 5 "changed_saves" (spL K CL 1) := by
  refine calX_of D sy_changed_saves (fun vs H Q E h => ?_) (fun f cdv A outer s H vs Q E hr tk h => ?_)
  · obtain ⟨x, y, ys, g, d, rfl, l, dg, good, dp, bad, r⟩ := h
    exact congrArg (· + 2) l
  · obtain ⟨x, y, ys, g, d, rfl, l, dg, good, dp, bad, r⟩ := h
    obtain ⟨z, rfl⟩ := one_of l
    refine ⟨_, pss_cons (ps_set (i := 3) sy_changed_saves.nd rfl (Or.inl rfl) (pe_cX c tk hr (by decide) (by rfl) (pa_cons (pv 0) (pa_cons (pv 1) (pa_cons (pv 2) pa_nil))))) pss_any, ?_⟩
    exact ⟨_, rfl, _, rfl, _, rfl, x, y, [z], g, d, rfl, rfl, dg, good, dp, bad, r⟩
def sv_alike_from : List Str := ["rule", "log", "index", "other"]
theorem sy_alike_from : FnScope (sv_alike_from) ["rule", "log", "index"] (defScope s_alike_from) := ⟨rfl, rfl, rfl, by decide +kernel, rfl, by decide +kernel, by decide +kernel⟩
theorem r_alike_from (D : DefT K mg "alike_from" s_alike_from ["rule", "log", "index"]) (c : CalX P w K mg base 4 "both" (spR K CR 2)) : CalX P w K mg base 5 "alike_from" (spR K CR 2) := by
  refine calX_of D sy_alike_from (fun vs H Q E h => ?_) (fun f cdv A outer s H vs Q E hr tk h => ?_)
  · obtain ⟨x, ys, d, rfl, l, dp, bad, r⟩ := h
    exact congrArg (· + 1) l
  · obtain ⟨x, ys, d, rfl, l, dp, bad, r⟩ := h
    obtain ⟨y, z, rfl⟩ := two_of l
    refine ⟨_, pss_cons (ps_set (i := 3) sy_alike_from.nd rfl (Or.inl rfl) (pe_cX c tk hr (by decide) (by rfl) (pa_cons (pv 0) (pa_cons (pv 1) (pa_cons (pv 2) pa_nil))))) pss_any, ?_⟩
    exact ⟨_, rfl, _, rfl, _, rfl, x, [y, z], d, rfl, rfl, dp, bad, r⟩
theorem l_alike_from (D : DefT K mg "alike_from" s_alike_from ["rule", "log", "index"]) (c : CalX P w K mg base 4 "both" (spL K CL 1)) : CalX P w K mg base 5 "alike_from" (spL K CL 1) := by
  refine calX_of D sy_alike_from (fun vs H Q E h => ?_) (fun f cdv A outer s H vs Q E hr tk h => ?_)
  · obtain ⟨x, y, ys, g, d, rfl, l, dg, good, dp, bad, r⟩ := h
    exact congrArg (· + 2) l
  · obtain ⟨x, y, ys, g, d, rfl, l, dg, good, dp, bad, r⟩ := h
    obtain ⟨z, rfl⟩ := one_of l
    refine ⟨_, pss_cons (ps_set (i := 3) sy_alike_from.nd rfl (Or.inl rfl) (pe_cX c tk hr (by decide) (by rfl) (pa_cons (pv 0) (pa_cons (pv 1) (pa_cons (pv 2) pa_nil))))) pss_any, ?_⟩
    exact ⟨_, rfl, _, rfl, _, rfl, x, y, [z], g, d, rfl, rfl, dg, good, dp, bad, r⟩
end
end Au
set_option maxHeartbeats 4000000
/-! Defs with star, with keyword-only defaults; the class. -/
namespace Au
open PySem PySem.Spec PyProof.Rows L2
abbrev s_total_saves : Stmt := topS 31
theorem sx_total_saves : FnScope ["rule", "logs", "log"] ["rule", "logs"] (defScope s_total_saves) := ⟨rfl, rfl, rfl, by decide +kernel, rfl, by decide +kernel, by decide +kernel⟩
abbrev s_least_unsaved : Stmt := topS 33
theorem sx_least_unsaved : FnScope ["log", "time", "rules", "rule"] ["log", "time", "rules"] (defScope s_least_unsaved) := ⟨rfl, rfl, rfl, by decide +kernel, rfl, by decide +kernel, by decide +kernel⟩
abbrev s_count_logs : Stmt := topS 59
theorem sx_count_logs : FnScope ["rule", "ticks", "saves"] ["rule", "ticks", "saves"] (defScope s_count_logs) := ⟨rfl, rfl, rfl, by decide +kernel, rfl, by decide +kernel, by decide +kernel⟩
abbrev s_log_at : Stmt := topS 60
theorem sx_log_at : FnScope ["rule", "ticks", "number", "saves", "rows"] ["rule", "ticks", "number", "saves"] (defScope s_log_at) := ⟨rfl, rfl, rfl, by decide +kernel, rfl, by decide +kernel, by decide +kernel⟩
def clsBody : Stmt → List Stmt
  | .ClassDef _ _ _ b .. => b
  | _ => []
/-- a def of the text that binds by itself -/
structure DefS (K : PySem.W.Frag) (mg : Str → Option Value) (x : Str) (st : Stmt) : Prop where
  ex : ∃ (f : Addr) (oc : Value) (od : Option Addr) (kV doc pm : Value) (an : Option Addr) (cdv ct : Value) (osl : Array (Option Value)),
    K.lookup f = some ⟨oc, od, .func (PySem.W.fnOf x x (defArgs st) (defBody st) (defScope st) .none kV doc pm an cdv ct), osl⟩ ∧ PySem.W.codeIn K cdv x = true ∧ PySem.W.keepIn K (.ref f) = true ∧ mg x = some (.ref f)
section
variable {P : Program} {w : World} {K : PySem.W.Frag} {mg : Str → Option Value} {base : Heap} {CR CL CT : Addr}
/-- total_saves: the first is no rule -/
theorem r_total_saves (D : DefS K mg "total_saves" s_total_saves) (c : CalX P w K mg base 3 "check_rule" (spCkRule K CR)) : CalR P w K mg base 4 "total_saves" (spR K CR 1) := by
  obtain ⟨f, oc, od, kV, doc, pm, an, cdv, ct, osl, lk, hcd, hk, hm⟩ := D.ex
  refine ⟨f, fnR_imp (StX.fn_star (sp := spR K CR 1) (ps := ["rule"]) (pv := "logs") lk hcd sx_total_saves cxUpN (StX.bind_star1 (B := fun us => bindArgs (PySem.W.fnOf "total_saves" "total_saves" (defArgs s_total_saves) (defBody s_total_saves) (defScope s_total_saves) .none kV doc pm an cdv ct) ⟨us, []⟩) (p1 := "rule") (pv := "logs") (fun _ => rfl) fun _ _ _ => rfl) fun A outer s H vs Q E hr h => ?_) fun vs H Q E h => ?_, hm, hk⟩
  · obtain ⟨x, ys, d, rfl, l, dp, bad, r⟩ := h
    obtain ⟨y, rfl⟩ := one_of l
    refine ⟨_, pss_cons (ps_expr (pe_cX c (L2N.takes_of rfl rfl rfl rfl) hr (by decide) (by rfl) (pa_cons (pv 0) pa_nil))) pss_any, ?_⟩
    exact ⟨_, rfl, x, d, rfl, dp, fun e => tf bad e, fun _ => r H (Same.refl H)⟩
  · obtain ⟨x, ys, d, rfl, l, dp, bad, r⟩ := h
    obtain ⟨y, rfl⟩ := one_of l
    refine ⟨[x], [y], rfl, rfl, (by show 1 ≤ sizeLine; decide), fun p hp => ⟨x, [.ref p], d, rfl, rfl, dp_same (same_new hp) dp, bad, r.up (same_new hp)⟩⟩
/-- total_saves: a good log, then no log -/
def spLT (K : PySem.W.Frag) (CL : Addr) : Sp := fun vs H _ E => ∃ (x y z : V) (g l d : PyData), vs = [y, z, x] ∧ Dp K H y g ∧ ruleD g = true ∧ Dp K H z l ∧ logD l = true ∧ Dp K H x d ∧ logD d = false ∧ Rz CL H E
theorem l_total_saves (D : DefS K mg "total_saves" s_total_saves) (c : CalX P w K mg base 3 "check_rule" (spCkRule K CR)) (cl : CalX P w K mg base 3 "check_log" (spCkLog K CL)) : CalR P w K mg base 4 "total_saves" (spLT K CL) := by
  obtain ⟨f, oc, od, kV, doc, pm, an, cdv, ct, osl, lk, hcd, hk, hm⟩ := D.ex
  refine ⟨f, fnR_imp (StX.fn_star (sp := fun vs H Q E => ∃ (y z x : V) (p : Addr) (g l d : PyData), vs = [y, .ref p] ∧ H p = some (.tup [z, x]) ∧ Dp K H y g ∧ ruleD g = true ∧ Dp K H z l ∧ logD l = true ∧ Dp K H x d ∧ logD d = false ∧ Rz CL H E) (ps := ["rule"]) (pv := "logs") lk hcd sx_total_saves cxUpN
    (StX.bind_star1 (B := fun us => bindArgs (PySem.W.fnOf "total_saves" "total_saves" (defArgs s_total_saves) (defBody s_total_saves) (defScope s_total_saves) .none kV doc pm an cdv ct) ⟨us, []⟩) (p1 := "rule") (pv := "logs") (fun _ => rfl) fun _ _ _ => rfl) fun A outer s H vs Q E hr h => ?_) fun vs H Q E h => ?_, hm, hk⟩
  · obtain ⟨y, z, x, p, g, l, d, rfl, hp, dy, good, dz, gl, dx, bad, r⟩ := h
    refine ⟨_, pss_cons (ps_expr (pe_cX c (L2N.takes_of rfl rfl rfl rfl) hr (by decide) (by rfl) (pa_cons (pv 0) pa_nil))) (pss_cons (ps_for (passes_of rfl) rfl (pi_tup (pv 1)) (pg_name (i := 2) sx_total_saves.nd rfl (Or.inl rfl)) (pss_one (ps_expr (pe_cX cl (L2N.takes_of rfl rfl rfl rfl) hr (by decide) (by rfl) (pa_cons (pv 2) pa_nil))))) pss_any), ?_⟩
    refine ⟨_, rfl, y, g, rfl, dy, fun _ => ?_, fun e => tf e good⟩
    refine ⟨_, rfl, p, rfl, ⟨_, sqT_of hp⟩, ?_⟩
    refine for_tup (K := K) (a := p) (xs := [z, x]) (fun i σ H' => i ≤ 1 ∧ (∃ v : Option V, σ = [some y, some (.ref p), v]) ∧ Same H H') ⟨Nat.zero_le _, ⟨none, rfl⟩, Same.refl H⟩ (fun i σ H' _ h => same_seqT h.2.2 (sqT_of hp)) ?_ ?_
    · rintro i v σ H' hv ⟨_, ⟨_, rfl⟩, s1⟩
      match i, hv with
      | 0, hv =>
        cases hv
        exact ⟨_, rfl, z, l, rfl, dp_same s1 dz, fun H1 s2 => ⟨fun _ => ⟨Nat.le_refl _, ⟨_, rfl⟩, s1.trans s2⟩, fun e => tf e gl⟩⟩
      | 1, hv =>
        cases hv
        exact ⟨_, rfl, x, d, rfl, dp_same s1 dx, fun H1 s2 => ⟨fun e => tf bad e, fun _ => r H1 (s1.trans s2)⟩⟩
      | i + 2, hv => cases hv
    · rintro σ H' ⟨h, _⟩
      exact absurd (show 2 ≤ 1 from h) (by decide)
  · obtain ⟨x, y, z, g, l, d, rfl, dy, good, dz, gl, dx, bad, r⟩ := h
    exact ⟨[y], [z, x], rfl, rfl, (by show 2 ≤ sizeLine; decide), fun p hp => ⟨y, z, x, p, g, l, d, rfl, upd_same, dp_same (same_new hp) dy, good, dp_same (same_new hp) dz, gl, dp_same (same_new hp) dx, bad, r.up (same_new hp)⟩⟩
/-- least_unsaved: no log, first -/
theorem f_least_unsaved (D : DefS K mg "least_unsaved" s_least_unsaved) (cl : CalX P w K mg base 3 "check_log" (spCkLog K CL)) : CalR P w K mg base 4 "least_unsaved" (spLF K CL 1) := by
  obtain ⟨f, oc, od, kV, doc, pm, an, cdv, ct, osl, lk, hcd, hk, hm⟩ := D.ex
  refine ⟨f, fnR_imp (StX.fn_star (sp := spLF K CL 2) (ps := ["log", "time"]) (pv := "rules") lk hcd sx_least_unsaved cxUpN (StX.bind_star2 (B := fun us => bindArgs (PySem.W.fnOf "least_unsaved" "least_unsaved" (defArgs s_least_unsaved) (defBody s_least_unsaved) (defScope s_least_unsaved) .none kV doc pm an cdv ct) ⟨us, []⟩) (p1 := "log") (p2 := "time") (pv := "rules") (fun _ _ => rfl) fun _ _ _ _ => rfl) fun A outer s H vs Q E hr h => ?_) fun vs H Q E h => ?_, hm, hk⟩
  · obtain ⟨x, ys, d, rfl, l, dp, bad, r⟩ := h
    obtain ⟨y, z, rfl⟩ := two_of l
    refine ⟨_, pss_cons (ps_expr (pe_cX cl (L2N.takes_of rfl rfl rfl rfl) hr (by decide) (by rfl) (pa_cons (pv 0) pa_nil))) pss_any, ?_⟩
    exact ⟨_, rfl, x, d, rfl, dp, fun H1 s1 => ⟨fun e => tf bad e, fun _ => r H1 s1⟩⟩
  · obtain ⟨x, ys, d, rfl, l, dp, bad, r⟩ := h
    obtain ⟨y, rfl⟩ := one_of l
    exact ⟨[x, y], [], rfl, rfl, Nat.zero_le _, fun p hp => ⟨x, [y, .ref p], d, rfl, rfl, dp_same (same_new hp) dp, bad, r.up (same_new hp)⟩⟩
/-- least_unsaved: a log, a time, a rule, then no rule -/
def spRU (K : PySem.W.Frag) (CR : Addr) : Sp := fun vs H _ E => ∃ (x y z : V) (t : Int) (l g d : PyData), vs = [z, .int t, y, x] ∧ Dp K H z l ∧ logD l = true ∧ (0 ≤ t ∧ t ≤ 1000000000) ∧ Dp K H y g ∧ ruleD g = true ∧ Dp K H x d ∧ ruleD d = false ∧ Rz CR H E
theorem r_least_unsaved (D : DefS K mg "least_unsaved" s_least_unsaved) (c : CalX P w K mg base 3 "check_rule" (spCkRule K CR)) (cl : CalX P w K mg base 3 "check_log" (spCkLog K CL)) (ct : CalX P w K mg base 2 "check_time" spCkTime) : CalR P w K mg base 4 "least_unsaved" (spRU K CR) := by
  obtain ⟨f, oc, od, kV, doc, pm, an, cdv, ctv, osl, lk, hcd, hk, hm⟩ := D.ex
  refine ⟨f, fnR_imp (StX.fn_star (sp := fun vs H Q E => ∃ (x y z : V) (p : Addr) (t : Int) (l g d : PyData), vs = [z, .int t, .ref p] ∧ H p = some (.tup [y, x]) ∧ Dp K H z l ∧ logD l = true ∧ (0 ≤ t ∧ t ≤ 1000000000) ∧ Dp K H y g ∧ ruleD g = true ∧ Dp K H x d ∧ ruleD d = false ∧ Rz CR H E) (ps := ["log", "time"]) (pv := "rules") lk hcd sx_least_unsaved cxUpN
    (StX.bind_star2 (B := fun us => bindArgs (PySem.W.fnOf "least_unsaved" "least_unsaved" (defArgs s_least_unsaved) (defBody s_least_unsaved) (defScope s_least_unsaved) .none kV doc pm an cdv ctv) ⟨us, []⟩) (p1 := "log") (p2 := "time") (pv := "rules") (fun _ _ => rfl) fun _ _ _ _ => rfl) fun A outer s H vs Q E hr h => ?_) fun vs H Q E h => ?_, hm, hk⟩
  · obtain ⟨x, y, z, p, t, l, g, d, rfl, hp, dz, gl, ht, dy, good, dx, bad, r⟩ := h
    refine ⟨_, pss_cons (ps_expr (pe_cX cl (L2N.takes_of rfl rfl rfl rfl) hr (by decide) (by rfl) (pa_cons (pv 0) pa_nil))) (pss_cons (ps_expr (pe_cX ct (L2N.takes_of rfl rfl rfl rfl) hr (by decide) (by rfl) (pa_cons (pv 1) pa_nil)))
      (pss_cons (ps_for (passes_of rfl) rfl (pi_tup (pv 2)) (pg_name (i := 3) sx_least_unsaved.nd rfl (Or.inl rfl)) (pss_one (ps_expr (pe_cX c (L2N.takes_of rfl rfl rfl rfl) hr (by decide) (by rfl) (pa_cons (pv 3) pa_nil))))) pss_any)), ?_⟩
    refine ⟨_, rfl, z, l, rfl, dz, fun H1 s1 => ⟨fun _ => ?_, fun e => tf e gl⟩⟩
    refine ⟨_, rfl, t, rfl, ht, ?_⟩
    refine ⟨_, rfl, p, rfl, ⟨_, same_seqT s1 (sqT_of hp)⟩, ?_⟩
    refine for_tup (K := K) (a := p) (xs := [y, x]) (fun i σ H' => i ≤ 1 ∧ (∃ v : Option V, σ = [some z, some (.int t), some (.ref p), v]) ∧ Same H H') ⟨Nat.zero_le _, ⟨none, rfl⟩, s1⟩ (fun i σ H' _ h => same_seqT h.2.2 (sqT_of hp)) ?_ ?_
    · rintro i v σ H' hv ⟨_, ⟨_, rfl⟩, s2⟩
      match i, hv with
      | 0, hv =>
        cases hv
        exact ⟨_, rfl, y, g, rfl, dp_same s2 dy, fun _ => ⟨Nat.le_refl _, ⟨_, rfl⟩, s2⟩, fun e => tf e good⟩
      | 1, hv =>
        cases hv
        exact ⟨_, rfl, x, d, rfl, dp_same s2 dx, fun e => tf bad e, fun _ => r H' s2⟩
      | i + 2, hv => cases hv
    · rintro σ H' ⟨h, _⟩
      exact absurd (show 2 ≤ 1 from h) (by decide)
  · obtain ⟨x, y, z, t, l, g, d, rfl, dz, gl, ht, dy, good, dx, bad, r⟩ := h
    exact ⟨[z, .int t], [y, x], rfl, rfl, (by show 2 ≤ sizeLine; decide), fun p hp => ⟨x, y, z, p, t, l, g, d, rfl, upd_same, dp_same (same_new hp) dz, gl, ht, dp_same (same_new hp) dy, good, dp_same (same_new hp) dx, bad, r.up (same_new hp)⟩⟩
end
end Au
set_option maxHeartbeats 4000000
/-! Keyword-only defaults; the class. -/
namespace Au
open PySem PySem.Spec PyProof.Rows L2
/-- a def with one keyword-only parameter whose default is None -/
structure DefK (K : PySem.W.Frag) (mg : Str → Option Value) (x y : Str) (st : Stmt) (ps : List Str) : Prop where
  ex : ∃ (f : Addr) (fd : FuncData) (ds : List Value), FunD K x x (defArgs st) (defBody st) (defScope st) [] [(y, V.non)] f fd ∧ mg x = some (.ref f) ∧ Vals [V.non] ds ∧ Binds K fd ps ds
section
variable {P : Program} {w : World} {K : PySem.W.Frag} {mg : Str → Option Value} {base : Heap} {CR CL CT : Addr}
theorem r_count_logs (B : Blt mg) (D : DefK K mg "count_logs" "saves" s_count_logs ["rule", "ticks", "saves"]) (c : CalX P w K mg base 4 "rows_of" (spR K CR 2)) : CalR P w K mg base 5 "count_logs" (spR K CR 1) := by
  obtain ⟨f, fd, ds, F, hm, rd, b⟩ := D.ex
  refine ⟨f, fnR_imp (fnR_of (F.ok (CX := L2N.CX P w) (sp := spR K CR 2) sx_count_logs (fun vs H Q E h => ?_) fun cdv A outer s H vs Q E hr h => ?_) b rd) fun vs H Q E h => ?_, hm, F.kp⟩
  · obtain ⟨x, ys, d, rfl, l, _⟩ := h
    exact congrArg (· + 1) l
  · obtain ⟨x, ys, d, rfl, l, dp, bad, r⟩ := h
    obtain ⟨y, z, rfl⟩ := two_of l
    refine ⟨_, pss_one (ps_ret (pe_callB call_len_seq (by rfl) B.m_len (by decide +kernel) (pa_cons (pe_cX c (L2N.takes_of rfl rfl rfl rfl) hr (by decide) (by rfl) (pa_cons (pv 0) (pa_cons (pv 1) (pa_cons (pv 2) pa_nil)))) pa_nil))), ?_⟩
    exact ⟨_, rfl, _, rfl, _, rfl, x, [y, z], d, rfl, rfl, dp, bad, r⟩
  · obtain ⟨x, ys, d, rfl, l, dp, bad, r⟩ := h
    obtain ⟨y, rfl⟩ := one_of l
    exact ⟨x, [y, .non], d, rfl, rfl, dp, bad, r⟩
theorem r_log_at (D : DefK K mg "log_at" "saves" s_log_at ["rule", "ticks", "number", "saves"]) (c : CalX P w K mg base 4 "rows_of" (spR K CR 2)) : CalR P w K mg base 5 "log_at" (spR K CR 2) := by
  obtain ⟨f, fd, ds, F, hm, rd, b⟩ := D.ex
  refine ⟨f, fnR_imp (fnR_of (F.ok (CX := L2N.CX P w) (sp := spR K CR 3) sx_log_at (fun vs H Q E h => ?_) fun cdv A outer s H vs Q E hr h => ?_) b rd) fun vs H Q E h => ?_, hm, F.kp⟩
  · obtain ⟨x, ys, d, rfl, l, _⟩ := h
    exact congrArg (· + 1) l
  · obtain ⟨x, ys, d, rfl, l, dp, bad, r⟩ := h
    obtain ⟨y, z, u, rfl⟩ : ∃ y z u, ys = [y, z, u] := by
      match ys, l with
      | [y, z, u], _ => exact ⟨y, z, u, rfl⟩
    refine ⟨_, pss_cons (ps_set (i := 4) sx_log_at.nd rfl (Or.inl rfl) (pe_cX c (L2N.takes_of rfl rfl rfl rfl) hr (by decide) (by rfl) (pa_cons (pv 0) (pa_cons (pv 1) (pa_cons (pv 3) pa_nil))))) pss_any, ?_⟩
    exact ⟨_, rfl, _, rfl, _, rfl, x, [y, u], d, rfl, rfl, dp, bad, r⟩
  · obtain ⟨x, ys, d, rfl, l, dp, bad, r⟩ := h
    obtain ⟨y, z, rfl⟩ := two_of l
    exact ⟨x, [y, z, .non], d, rfl, rfl, dp, bad, r⟩
/-! ### the class -/
abbrev s_init : Stmt := (clsBody (topS 68)).getD 1 (.Pass ⟨0, 0, 0, 0⟩)
theorem sx_init : FnScope ["self", "rule"] ["self", "rule"] (defScope s_init) := ⟨rfl, rfl, rfl, by decide +kernel, rfl, by decide +kernel, by decide +kernel⟩
structure DocT (K : PySem.W.Frag) (mg : Str → Option Value) (C f : Addr) (fd : FuncData) : Prop where
  F : L2.Fun K "__init__" "Document.__init__" s_init f fd
  M : Mk K C f
  g : mg "Document" = some (.ref C)
  b : Binds K fd ["self", "rule"] []
def spInit (K : PySem.W.Frag) (CR : Addr) : Sp := fun vs H _ E => ∃ (o x : V) (d : PyData), vs = [o, x] ∧ Dp K H x d ∧ ruleD d = false ∧ Rz CR H E
theorem r_init {C f : Addr} {fd : FuncData} (D : DocT K mg C f fd) (c : CalX P w K mg base 3 "check_rule" (spCkRule K CR)) : FnOk P w K mg base (L2N.CX P w) 4 f fd ["self", "rule"] (spInit K CR) := by
  obtain ⟨oc, od, kV, doc, pm, an, cdv, ct, osl, rfl, lk, hcd⟩ := D.F.ex
  refine fn_of lk hcd sx_init (fun vs H Q E h => ?_) fun A outer s H vs Q E hr h => ?_
  · obtain ⟨o, x, d, rfl, _⟩ := h
    rfl
  · obtain ⟨o, x, d, rfl, dp, bad, r⟩ := h
    refine ⟨_, pss_cons (ps_expr (pe_cX c (L2N.takes_of rfl rfl rfl rfl) hr (by decide) (by rfl) (pa_cons (pv 1) pa_nil))) pss_any, ?_⟩
    exact ⟨_, rfl, x, d, rfl, dp, fun e => tf bad e, fun _ => r H (Same.refl H)⟩
end
end Au
set_option maxHeartbeats 4000000
/-! The generator. -/
namespace Au
open PySem PySem.Spec PyProof.Rows L2
abbrev s_walk : Stmt := topS 30
theorem gx_walk : GScope ["rule", "log"] ["rule", "log"] (defScope s_walk) := ⟨rfl, rfl, rfl, by decide +kernel, rfl, by decide +kernel, by decide +kernel⟩
section
variable {P : Program} {w : World} {K : PySem.W.Frag} {mg : Str → Option Value} {base : Heap} {CR CL CT : Addr}
theorem genX_of {x : Str} {st : Stmt} {N ps : List Str} {k : Nat} {sp : Sp} {C : Addr} (D : DefT K mg x st ps) (S : GScope N ps (defScope st)) (noS : PySem.W.subIn K (.ref C) (.type "StopIteration") = some false) (len : ∀ vs H Q E, sp vs H Q E → vs.length = ps.length)
    (up : ∀ vs H H' Q E, Same H H' → sp vs H Q E → sp vs H' Q fun cls d H2 => cls = .ref C ∧ E cls d H2 ∧ Same H' H2)
    (hbody : ∀ (f : Addr) (cdv : Value) (A : Around) (outer : List Env) (s : Shared) (H : Hp) (vs : List V) (Q : VK) (E : XK), Room k (A.deeper (envOfC x (defScope st) s.heap.objs.size f cdv)) → sp vs H Q E →
      ∀ H0, ∃ t, PSs (cxOf (L2N.CX P w) P w K mg base N x (defScope st) f cdv A outer s H0 E) (defBody st) t ∧ t { nx := fun _ _ => False, rt := fun _ _ => False } (L2.start N vs) H) : GenX P w K mg base k x sp := by
  obtain ⟨f, fd, F, hm, b⟩ := D.ex
  obtain ⟨oc, od, kV, doc, pm, an, cdv, ct, osl, rfl, lk, hcd⟩ := F.ex
  exact ⟨⟨f, _, _, _, oc, od, kV, doc, pm, an, cdv, ct, osl, N, ps, lk, hcd, F.kp, hm, S, b, len, fun A outer s H vs Q E hr h => hbody f cdv A outer s H vs Q E hr h⟩, C, noS, up⟩
theorem r_walk (D : DefT K mg "walk" s_walk ["rule", "log"]) (noS : PySem.W.subIn K (.ref CR) (.type "StopIteration") = some false) (c : CalX P w K mg base 3 "check_rule" (spCkRule K CR)) : GenX P w K mg base 3 "walk" (spR K CR 1) := by
  refine genX_of D gx_walk noS (fun vs H Q E h => ?_) (fun vs H H' Q E s1 h => ?_) fun f cdv A outer s H vs Q E hr h H0 => ?_
  · obtain ⟨x, ys, d, rfl, l, _⟩ := h
    exact congrArg (· + 1) l
  · obtain ⟨x, ys, d, rfl, l, dp, bad, r⟩ := h
    exact ⟨x, ys, d, rfl, l, dp_same s1 dp, bad, fun H2 s2 => ⟨rfl, r H2 (s1.trans s2), s2⟩⟩
  · obtain ⟨x, ys, d, rfl, l, dp, bad, r⟩ := h
    refine ⟨_, pss_cons (ps_expr (pe_cX c (L2N.takes_of rfl rfl rfl rfl) hr (by decide) (by rfl) (pa_cons (pv 0) pa_nil))) pss_any, ?_⟩
    exact ⟨_, rfl, x, d, rfl, dp, fun e => tf bad e, fun _ => r H (Same.refl H)⟩
theorem l_walk (D : DefT K mg "walk" s_walk ["rule", "log"]) (noS : PySem.W.subIn K (.ref CL) (.type "StopIteration") = some false) (c : CalX P w K mg base 3 "check_rule" (spCkRule K CR)) (cl : CalX P w K mg base 3 "check_log" (spCkLog K CL)) : GenX P w K mg base 3 "walk" (spL K CL 0) := by
  refine genX_of D gx_walk noS (fun vs H Q E h => ?_) (fun vs H H' Q E s1 h => ?_) fun f cdv A outer s H vs Q E hr h H0 => ?_
  · obtain ⟨x, y, ys, g, d, rfl, l, _⟩ := h
    exact congrArg (· + 2) l
  · obtain ⟨x, y, ys, g, d, rfl, l, dg, good, dp, bad, r⟩ := h
    exact ⟨x, y, ys, g, d, rfl, l, dp_same s1 dg, good, dp_same s1 dp, bad, fun H2 s2 => ⟨rfl, r H2 (s1.trans s2), s2⟩⟩
  · obtain ⟨x, y, ys, g, d, rfl, l, dg, good, dp, bad, r⟩ := h
    refine ⟨_, pss_cons (ps_expr (pe_cX c (L2N.takes_of rfl rfl rfl rfl) hr (by decide) (by rfl) (pa_cons (pv 0) pa_nil))) (pss_cons (ps_expr (pe_cX cl (L2N.takes_of rfl rfl rfl rfl) hr (by decide) (by rfl) (pa_cons (pv 1) pa_nil))) pss_any), ?_⟩
    refine ⟨_, rfl, y, g, rfl, dg, fun _ => ?_, fun e => tf e good⟩
    exact ⟨_, rfl, x, d, rfl, dp, fun H1 s1 => ⟨fun e => tf bad e, fun _ => r H1 s1⟩⟩
end
end Au
set_option maxHeartbeats 4000000
/-! The lambdas. -/
namespace Au
open PySem PySem.Spec PyProof.Rows L2 LamX
def lamsOf : Expr → List Expr
  | .List es _ => es
  | .BinOp _ _ (.List es _) _ => es
  | _ => []
def freeIn (sc scope : Scope) : Bool := scope.names.all fun y => !decide (y.2 = .free) || decide (sc.names.lookup y.1 = some .cell) || decide (sc.names.lookup y.1 = some .free)
def MkE (P : Program) (w : World) (K : PySem.W.Frag) (mg : Str → Option Value) (base : Heap) (sc : Scope) (k : Nat) (N : List Str) (q : Str) (t : XK → TE) (e : Expr) : Prop := ∃ (params : Arguments) (body : Expr) (scope : Scope) (pos : Pos), e = .Lambda params body scope pos ∧ (∀ env, defaultsOf params env = ([], [])) ∧ freeIn sc scope = true ∧ LamOk P w K mg base k N q t params body scope
def tR (K : PySem.W.Frag) (CR : Addr) : XK → TE := fun E σ H _ => ∃ (x : V) (d : PyData), σ = [some x] ∧ Dp K H x d ∧ ruleD d = false ∧ Rz CR H E
def tL (K : PySem.W.Frag) (CL : Addr) : XK → TE := fun E σ H _ => ∃ (y x : V) (g d : PyData), σ = [some y, some x] ∧ Dp K H y g ∧ ruleD g = true ∧ Dp K H x d ∧ logD d = false ∧ Rz CL H E
section
variable {P : Program} {w : World} {K : PySem.W.Frag} {mg : Str → Option Value} {base : Heap} {CR CL CT : Addr}
abbrev s_law_rule_calls : Stmt := topS 94
theorem lam_law_rule_calls_0_0 (c : CalR P w K mg base 4 "unsaved" (spR K CR 2)) : MkE P w K mg base (defScope s_law_rule_calls) 6 ["_law_x"] (((("_law_rule_calls" : Str) ++ ".<locals>.") ++ "<lambda>")) (tR K CR) ((lamsOf (stE ((defBody s_law_rule_calls).getD 0 (.Pass ⟨0, 0, 0, 0⟩)))).getD 0 (.Name "" ⟨0, 0, 0, 0⟩)) := by
  refine ⟨_, _, _, _, rfl, fun _ => rfl, by decide +kernel, ⟨freeS_by (by decide +kernel), fun _ _ _ _ => rfl, by decide +kernel, fun cl f c' A outer s H E hr => PE.imp (pe_cR c (L2N.takes_of rfl rfl rfl rfl) hr (by decide) (by rfl) (pa_cons (pv 0) (pa_cons (pe_non) (pa_cons (pe_non) pa_nil)))) fun σ H Q h => ?_⟩⟩
  obtain ⟨x, d, rfl, dp, bad, r⟩ := h
  exact ⟨_, rfl, x, [.non, .non], d, rfl, rfl, dp, bad, r⟩
theorem lam_law_rule_calls_0_1 (c : CalR P w K mg base 4 "lost" (spR K CR 2)) : MkE P w K mg base (defScope s_law_rule_calls) 6 ["_law_x"] (((("_law_rule_calls" : Str) ++ ".<locals>.") ++ "<lambda>")) (tR K CR) ((lamsOf (stE ((defBody s_law_rule_calls).getD 0 (.Pass ⟨0, 0, 0, 0⟩)))).getD 1 (.Name "" ⟨0, 0, 0, 0⟩)) := by
  refine ⟨_, _, _, _, rfl, fun _ => rfl, by decide +kernel, ⟨freeS_by (by decide +kernel), fun _ _ _ _ => rfl, by decide +kernel, fun cl f c' A outer s H E hr => PE.imp (pe_cR c (L2N.takes_of rfl rfl rfl rfl) hr (by decide) (by rfl) (pa_cons (pv 0) (pa_cons (pe_non) (pa_cons (pe_non) pa_nil)))) fun σ H Q h => ?_⟩⟩
  obtain ⟨x, d, rfl, dp, bad, r⟩ := h
  exact ⟨_, rfl, x, [.non, .non], d, rfl, rfl, dp, bad, r⟩
theorem lam_law_rule_calls_0_2 (c : CalR P w K mg base 4 "saves" (spR K CR 1)) : MkE P w K mg base (defScope s_law_rule_calls) 6 ["_law_x"] (((("_law_rule_calls" : Str) ++ ".<locals>.") ++ "<lambda>")) (tR K CR) ((lamsOf (stE ((defBody s_law_rule_calls).getD 0 (.Pass ⟨0, 0, 0, 0⟩)))).getD 2 (.Name "" ⟨0, 0, 0, 0⟩)) := by
  refine ⟨_, _, _, _, rfl, fun _ => rfl, by decide +kernel, ⟨freeS_by (by decide +kernel), fun _ _ _ _ => rfl, by decide +kernel, fun cl f c' A outer s H E hr => PE.imp (pe_cR c (L2N.takes_of rfl rfl rfl rfl) hr (by decide) (by rfl) (pa_cons (pv 0) (pa_cons (pe_non) pa_nil))) fun σ H Q h => ?_⟩⟩
  obtain ⟨x, d, rfl, dp, bad, r⟩ := h
  exact ⟨_, rfl, x, [.non], d, rfl, rfl, dp, bad, r⟩
theorem lam_law_rule_calls_1_0 (c : CalR P w K mg base 4 "saves_until" (spR K CR 2)) : MkE P w K mg base (defScope s_law_rule_calls) 6 ["_law_x"] (((("_law_rule_calls" : Str) ++ ".<locals>.") ++ "<lambda>")) (tR K CR) ((lamsOf (stE ((defBody s_law_rule_calls).getD 1 (.Pass ⟨0, 0, 0, 0⟩)))).getD 0 (.Name "" ⟨0, 0, 0, 0⟩)) := by
  refine ⟨_, _, _, _, rfl, fun _ => rfl, by decide +kernel, ⟨freeS_by (by decide +kernel), fun _ _ _ _ => rfl, by decide +kernel, fun cl f c' A outer s H E hr => PE.imp (pe_cR c (L2N.takes_of rfl rfl rfl rfl) hr (by decide) (by rfl) (pa_cons (pv 0) (pa_cons (pe_non) (pa_cons (pe_non) pa_nil)))) fun σ H Q h => ?_⟩⟩
  obtain ⟨x, d, rfl, dp, bad, r⟩ := h
  exact ⟨_, rfl, x, [.non, .non], d, rfl, rfl, dp, bad, r⟩
theorem lam_law_rule_calls_1_1 (B : Blt mg) (c : GenX P w K mg base 3 "walk" (spR K CR 1)) : MkE P w K mg base (defScope s_law_rule_calls) 6 ["_law_x"] (((("_law_rule_calls" : Str) ++ ".<locals>.") ++ "<lambda>")) (tR K CR) ((lamsOf (stE ((defBody s_law_rule_calls).getD 1 (.Pass ⟨0, 0, 0, 0⟩)))).getD 1 (.Name "" ⟨0, 0, 0, 0⟩)) := by
  refine ⟨_, _, _, _, rfl, fun _ => rfl, by decide +kernel, ⟨freeS_by (by decide +kernel), fun _ _ _ _ => rfl, by decide +kernel, fun cl f c' A outer s H E hr => PE.imp (pe_listGen c (L2N.takes_of rfl rfl rfl rfl) hr (by decide) (by rfl) B.m_list (by decide +kernel) (by rfl) (pa_cons (pv 0) (pa_cons (pe_non) pa_nil))) fun σ H Q h => ?_⟩⟩
  obtain ⟨x, d, rfl, dp, bad, r⟩ := h
  exact ⟨_, rfl, x, [.non], d, rfl, rfl, dp, bad, r⟩
theorem lam_law_rule_calls_1_2 (c : CalR P w K mg base 4 "total_saves" (spR K CR 1)) : MkE P w K mg base (defScope s_law_rule_calls) 6 ["_law_x"] (((("_law_rule_calls" : Str) ++ ".<locals>.") ++ "<lambda>")) (tR K CR) ((lamsOf (stE ((defBody s_law_rule_calls).getD 1 (.Pass ⟨0, 0, 0, 0⟩)))).getD 2 (.Name "" ⟨0, 0, 0, 0⟩)) := by
  refine ⟨_, _, _, _, rfl, fun _ => rfl, by decide +kernel, ⟨freeS_by (by decide +kernel), fun _ _ _ _ => rfl, by decide +kernel, fun cl f c' A outer s H E hr => PE.imp (pe_cR c (L2N.takes_of rfl rfl rfl rfl) hr (by decide) (by rfl) (pa_cons (pv 0) (pa_cons (pe_non) pa_nil))) fun σ H Q h => ?_⟩⟩
  obtain ⟨x, d, rfl, dp, bad, r⟩ := h
  exact ⟨_, rfl, x, [.non], d, rfl, rfl, dp, bad, r⟩
theorem lam_law_rule_calls_2_0 (c : CalR P w K mg base 4 "most_unsaved" (spR K CR 1)) : MkE P w K mg base (defScope s_law_rule_calls) 6 ["_law_x"] (((("_law_rule_calls" : Str) ++ ".<locals>.") ++ "<lambda>")) (tR K CR) ((lamsOf (stE ((defBody s_law_rule_calls).getD 2 (.Pass ⟨0, 0, 0, 0⟩)))).getD 0 (.Name "" ⟨0, 0, 0, 0⟩)) := by
  refine ⟨_, _, _, _, rfl, fun _ => rfl, by decide +kernel, ⟨freeS_by (by decide +kernel), fun _ _ _ _ => rfl, by decide +kernel, fun cl f c' A outer s H E hr => PE.imp (pe_cR c (L2N.takes_of rfl rfl rfl rfl) hr (by decide) (by rfl) (pa_cons (pv 0) (pa_cons (pe_non) pa_nil))) fun σ H Q h => ?_⟩⟩
  obtain ⟨x, d, rfl, dp, bad, r⟩ := h
  exact ⟨_, rfl, x, [.non], d, rfl, rfl, dp, bad, r⟩
theorem lam_law_rule_calls_2_1 (c : CalR P w K mg base 4 "least_unsaved" (spRU K CR)) : MkE P w K mg base (defScope s_law_rule_calls) 6 ["_law_x"] (((("_law_rule_calls" : Str) ++ ".<locals>.") ++ "<lambda>")) (tR K CR) ((lamsOf (stE ((defBody s_law_rule_calls).getD 2 (.Pass ⟨0, 0, 0, 0⟩)))).getD 1 (.Name "" ⟨0, 0, 0, 0⟩)) := by
  refine ⟨_, _, _, _, rfl, fun _ => rfl, by decide +kernel, ⟨freeS_by (by decide +kernel), fun _ _ _ _ => rfl, by decide +kernel, fun cl f c' A outer s H E hr => PE.imp (pe_cR c (L2N.takes_of rfl rfl rfl rfl) hr (by decide) (by rfl) (pa_cons (pe_tup pa_nil) (pa_cons (pe_int) (pa_cons (pe_tup (pa_cons (pe_int) (pa_cons (pe_int) pa_nil))) (pa_cons (pv 0) pa_nil))))) fun σ H Q h => ?_⟩⟩
  obtain ⟨x, d, rfl, dp, bad, r⟩ := h
  exact ⟨Nat.zero_le _, fun p hp => ⟨(by show 2 ≤ sizeLine; decide), fun p2 hp2 => ⟨_, rfl, x, .ref p2, .ref p, 0, .tuple [], .tuple [.int 1, .int 1], d, rfl, dp_same (same_new hp2) (.tup (sqT_of upd_same) .nil), rfl, ⟨by decide, by decide⟩, .tup (sqT_of upd_same) (.cons (.int _) (.cons (.int _) .nil)), rfl, dp_same ((same_new hp).trans (same_new hp2)) dp, bad, r.up ((same_new hp).trans (same_new hp2))⟩⟩⟩
theorem lam_law_rule_calls_3_0 (c : CalR P w K mg base 4 "largest_excess" (spR K CR 1)) : MkE P w K mg base (defScope s_law_rule_calls) 6 ["_law_x"] (((("_law_rule_calls" : Str) ++ ".<locals>.") ++ "<lambda>")) (tR K CR) ((lamsOf (stE ((defBody s_law_rule_calls).getD 3 (.Pass ⟨0, 0, 0, 0⟩)))).getD 0 (.Name "" ⟨0, 0, 0, 0⟩)) := by
  refine ⟨_, _, _, _, rfl, fun _ => rfl, by decide +kernel, ⟨freeS_by (by decide +kernel), fun _ _ _ _ => rfl, by decide +kernel, fun cl f c' A outer s H E hr => PE.imp (pe_cR c (L2N.takes_of rfl rfl rfl rfl) hr (by decide) (by rfl) (pa_cons (pv 0) (pa_cons (pe_non) pa_nil))) fun σ H Q h => ?_⟩⟩
  obtain ⟨x, d, rfl, dp, bad, r⟩ := h
  exact ⟨_, rfl, x, [.non], d, rfl, rfl, dp, bad, r⟩
theorem lam_law_rule_calls_3_1 (c : CalR P w K mg base 4 "largest_excess" (spR2 K CR)) : MkE P w K mg base (defScope s_law_rule_calls) 6 ["_law_x"] (((("_law_rule_calls" : Str) ++ ".<locals>.") ++ "<lambda>")) (tR K CR) ((lamsOf (stE ((defBody s_law_rule_calls).getD 3 (.Pass ⟨0, 0, 0, 0⟩)))).getD 1 (.Name "" ⟨0, 0, 0, 0⟩)) := by
  refine ⟨_, _, _, _, rfl, fun _ => rfl, by decide +kernel, ⟨freeS_by (by decide +kernel), fun _ _ _ _ => rfl, by decide +kernel, fun cl f c' A outer s H E hr => PE.imp (pe_cR c (L2N.takes_of rfl rfl rfl rfl) hr (by decide) (by rfl) (pa_cons (pe_tup (pa_cons (pe_int) (pa_cons (pe_int) pa_nil))) (pa_cons (pv 0) pa_nil))) fun σ H Q h => ?_⟩⟩
  obtain ⟨x, d, rfl, dp, bad, r⟩ := h
  exact ⟨(by show 2 ≤ sizeLine; decide), fun p hp => ⟨_, rfl, x, .ref p, .tuple [.int 1, .int 1], d, rfl, .tup (sqT_of upd_same) (.cons (.int _) (.cons (.int _) .nil)), rfl, dp_same (same_new hp) dp, bad, r.up (same_new hp)⟩⟩
theorem lam_law_rule_calls_4_0 (c : CalR P w K mg base 4 "never_loses_more" (spR K CR 1)) : MkE P w K mg base (defScope s_law_rule_calls) 6 ["_law_x"] (((("_law_rule_calls" : Str) ++ ".<locals>.") ++ "<lambda>")) (tR K CR) ((lamsOf (stE ((defBody s_law_rule_calls).getD 4 (.Pass ⟨0, 0, 0, 0⟩)))).getD 0 (.Name "" ⟨0, 0, 0, 0⟩)) := by
  refine ⟨_, _, _, _, rfl, fun _ => rfl, by decide +kernel, ⟨freeS_by (by decide +kernel), fun _ _ _ _ => rfl, by decide +kernel, fun cl f c' A outer s H E hr => PE.imp (pe_cR c (L2N.takes_of rfl rfl rfl rfl) hr (by decide) (by rfl) (pa_cons (pv 0) (pa_cons (pe_non) pa_nil))) fun σ H Q h => ?_⟩⟩
  obtain ⟨x, d, rfl, dp, bad, r⟩ := h
  exact ⟨_, rfl, x, [.non], d, rfl, rfl, dp, bad, r⟩
theorem lam_law_rule_calls_4_1 (c : CalR P w K mg base 4 "never_loses_more" (spR2 K CR)) : MkE P w K mg base (defScope s_law_rule_calls) 6 ["_law_x"] (((("_law_rule_calls" : Str) ++ ".<locals>.") ++ "<lambda>")) (tR K CR) ((lamsOf (stE ((defBody s_law_rule_calls).getD 4 (.Pass ⟨0, 0, 0, 0⟩)))).getD 1 (.Name "" ⟨0, 0, 0, 0⟩)) := by
  refine ⟨_, _, _, _, rfl, fun _ => rfl, by decide +kernel, ⟨freeS_by (by decide +kernel), fun _ _ _ _ => rfl, by decide +kernel, fun cl f c' A outer s H E hr => PE.imp (pe_cR c (L2N.takes_of rfl rfl rfl rfl) hr (by decide) (by rfl) (pa_cons (pe_tup (pa_cons (pe_int) (pa_cons (pe_int) pa_nil))) (pa_cons (pv 0) pa_nil))) fun σ H Q h => ?_⟩⟩
  obtain ⟨x, d, rfl, dp, bad, r⟩ := h
  exact ⟨(by show 2 ≤ sizeLine; decide), fun p hp => ⟨_, rfl, x, .ref p, .tuple [.int 1, .int 1], d, rfl, .tup (sqT_of upd_same) (.cons (.int _) (.cons (.int _) .nil)), rfl, dp_same (same_new hp) dp, bad, r.up (same_new hp)⟩⟩
theorem lam_law_rule_calls_5_0 (c : CalR P w K mg base 4 "never_saves_more" (spR K CR 1)) : MkE P w K mg base (defScope s_law_rule_calls) 6 ["_law_x"] (((("_law_rule_calls" : Str) ++ ".<locals>.") ++ "<lambda>")) (tR K CR) ((lamsOf (stE ((defBody s_law_rule_calls).getD 5 (.Pass ⟨0, 0, 0, 0⟩)))).getD 0 (.Name "" ⟨0, 0, 0, 0⟩)) := by
  refine ⟨_, _, _, _, rfl, fun _ => rfl, by decide +kernel, ⟨freeS_by (by decide +kernel), fun _ _ _ _ => rfl, by decide +kernel, fun cl f c' A outer s H E hr => PE.imp (pe_cR c (L2N.takes_of rfl rfl rfl rfl) hr (by decide) (by rfl) (pa_cons (pv 0) (pa_cons (pe_non) pa_nil))) fun σ H Q h => ?_⟩⟩
  obtain ⟨x, d, rfl, dp, bad, r⟩ := h
  exact ⟨_, rfl, x, [.non], d, rfl, rfl, dp, bad, r⟩
theorem lam_law_rule_calls_5_1 (c : CalR P w K mg base 4 "alike" (spR K CR 1)) : MkE P w K mg base (defScope s_law_rule_calls) 6 ["_law_x"] (((("_law_rule_calls" : Str) ++ ".<locals>.") ++ "<lambda>")) (tR K CR) ((lamsOf (stE ((defBody s_law_rule_calls).getD 5 (.Pass ⟨0, 0, 0, 0⟩)))).getD 1 (.Name "" ⟨0, 0, 0, 0⟩)) := by
  refine ⟨_, _, _, _, rfl, fun _ => rfl, by decide +kernel, ⟨freeS_by (by decide +kernel), fun _ _ _ _ => rfl, by decide +kernel, fun cl f c' A outer s H E hr => PE.imp (pe_cR c (L2N.takes_of rfl rfl rfl rfl) hr (by decide) (by rfl) (pa_cons (pv 0) (pa_cons (pe_non) pa_nil))) fun σ H Q h => ?_⟩⟩
  obtain ⟨x, d, rfl, dp, bad, r⟩ := h
  exact ⟨_, rfl, x, [.non], d, rfl, rfl, dp, bad, r⟩
theorem lam_law_rule_calls_5_2 (c : CalR P w K mg base 4 "alike" (spR2 K CR)) : MkE P w K mg base (defScope s_law_rule_calls) 6 ["_law_x"] (((("_law_rule_calls" : Str) ++ ".<locals>.") ++ "<lambda>")) (tR K CR) ((lamsOf (stE ((defBody s_law_rule_calls).getD 5 (.Pass ⟨0, 0, 0, 0⟩)))).getD 2 (.Name "" ⟨0, 0, 0, 0⟩)) := by
  refine ⟨_, _, _, _, rfl, fun _ => rfl, by decide +kernel, ⟨freeS_by (by decide +kernel), fun _ _ _ _ => rfl, by decide +kernel, fun cl f c' A outer s H E hr => PE.imp (pe_cR c (L2N.takes_of rfl rfl rfl rfl) hr (by decide) (by rfl) (pa_cons (pe_tup (pa_cons (pe_int) (pa_cons (pe_int) pa_nil))) (pa_cons (pv 0) pa_nil))) fun σ H Q h => ?_⟩⟩
  obtain ⟨x, d, rfl, dp, bad, r⟩ := h
  exact ⟨(by show 2 ≤ sizeLine; decide), fun p hp => ⟨_, rfl, x, .ref p, .tuple [.int 1, .int 1], d, rfl, .tup (sqT_of upd_same) (.cons (.int _) (.cons (.int _) .nil)), rfl, dp_same (same_new hp) dp, bad, r.up (same_new hp)⟩⟩
theorem lam_law_rule_calls_6_0 (c : CalR P w K mg base 4 "telling_loss" (spR K CR 1)) : MkE P w K mg base (defScope s_law_rule_calls) 6 ["_law_x"] (((("_law_rule_calls" : Str) ++ ".<locals>.") ++ "<lambda>")) (tR K CR) ((lamsOf (stE ((defBody s_law_rule_calls).getD 6 (.Pass ⟨0, 0, 0, 0⟩)))).getD 0 (.Name "" ⟨0, 0, 0, 0⟩)) := by
  refine ⟨_, _, _, _, rfl, fun _ => rfl, by decide +kernel, ⟨freeS_by (by decide +kernel), fun _ _ _ _ => rfl, by decide +kernel, fun cl f c' A outer s H E hr => PE.imp (pe_cR c (L2N.takes_of rfl rfl rfl rfl) hr (by decide) (by rfl) (pa_cons (pv 0) (pa_cons (pe_non) pa_nil))) fun σ H Q h => ?_⟩⟩
  obtain ⟨x, d, rfl, dp, bad, r⟩ := h
  exact ⟨_, rfl, x, [.non], d, rfl, rfl, dp, bad, r⟩
theorem lam_law_rule_calls_6_1 (c : CalR P w K mg base 4 "telling_loss" (spR2 K CR)) : MkE P w K mg base (defScope s_law_rule_calls) 6 ["_law_x"] (((("_law_rule_calls" : Str) ++ ".<locals>.") ++ "<lambda>")) (tR K CR) ((lamsOf (stE ((defBody s_law_rule_calls).getD 6 (.Pass ⟨0, 0, 0, 0⟩)))).getD 1 (.Name "" ⟨0, 0, 0, 0⟩)) := by
  refine ⟨_, _, _, _, rfl, fun _ => rfl, by decide +kernel, ⟨freeS_by (by decide +kernel), fun _ _ _ _ => rfl, by decide +kernel, fun cl f c' A outer s H E hr => PE.imp (pe_cR c (L2N.takes_of rfl rfl rfl rfl) hr (by decide) (by rfl) (pa_cons (pe_tup (pa_cons (pe_int) (pa_cons (pe_int) pa_nil))) (pa_cons (pv 0) pa_nil))) fun σ H Q h => ?_⟩⟩
  obtain ⟨x, d, rfl, dp, bad, r⟩ := h
  exact ⟨(by show 2 ≤ sizeLine; decide), fun p hp => ⟨_, rfl, x, .ref p, .tuple [.int 1, .int 1], d, rfl, .tup (sqT_of upd_same) (.cons (.int _) (.cons (.int _) .nil)), rfl, dp_same (same_new hp) dp, bad, r.up (same_new hp)⟩⟩
theorem lam_law_rule_calls_6_2 (c : CalR P w K mg base 4 "telling_saves" (spR K CR 1)) : MkE P w K mg base (defScope s_law_rule_calls) 6 ["_law_x"] (((("_law_rule_calls" : Str) ++ ".<locals>.") ++ "<lambda>")) (tR K CR) ((lamsOf (stE ((defBody s_law_rule_calls).getD 6 (.Pass ⟨0, 0, 0, 0⟩)))).getD 2 (.Name "" ⟨0, 0, 0, 0⟩)) := by
  refine ⟨_, _, _, _, rfl, fun _ => rfl, by decide +kernel, ⟨freeS_by (by decide +kernel), fun _ _ _ _ => rfl, by decide +kernel, fun cl f c' A outer s H E hr => PE.imp (pe_cR c (L2N.takes_of rfl rfl rfl rfl) hr (by decide) (by rfl) (pa_cons (pv 0) (pa_cons (pe_non) pa_nil))) fun σ H Q h => ?_⟩⟩
  obtain ⟨x, d, rfl, dp, bad, r⟩ := h
  exact ⟨_, rfl, x, [.non], d, rfl, rfl, dp, bad, r⟩
theorem lam_law_rule_calls_7_0 (c : CalR P w K mg base 4 "regular_saves" (spR K CR 2)) : MkE P w K mg base (defScope s_law_rule_calls) 6 ["_law_x"] (((("_law_rule_calls" : Str) ++ ".<locals>.") ++ "<lambda>")) (tR K CR) ((lamsOf (stE ((defBody s_law_rule_calls).getD 7 (.Pass ⟨0, 0, 0, 0⟩)))).getD 0 (.Name "" ⟨0, 0, 0, 0⟩)) := by
  refine ⟨_, _, _, _, rfl, fun _ => rfl, by decide +kernel, ⟨freeS_by (by decide +kernel), fun _ _ _ _ => rfl, by decide +kernel, fun cl f c' A outer s H E hr => PE.imp (pe_cR c (L2N.takes_of rfl rfl rfl rfl) hr (by decide) (by rfl) (pa_cons (pv 0) (pa_cons (pe_non) (pa_cons (pe_non) pa_nil)))) fun σ H Q h => ?_⟩⟩
  obtain ⟨x, d, rfl, dp, bad, r⟩ := h
  exact ⟨_, rfl, x, [.non, .non], d, rfl, rfl, dp, bad, r⟩
theorem lam_law_rule_calls_7_1 (c : CalR P w K mg base 4 "burst_saves" (spR K CR 4)) : MkE P w K mg base (defScope s_law_rule_calls) 6 ["_law_x"] (((("_law_rule_calls" : Str) ++ ".<locals>.") ++ "<lambda>")) (tR K CR) ((lamsOf (stE ((defBody s_law_rule_calls).getD 7 (.Pass ⟨0, 0, 0, 0⟩)))).getD 1 (.Name "" ⟨0, 0, 0, 0⟩)) := by
  refine ⟨_, _, _, _, rfl, fun _ => rfl, by decide +kernel, ⟨freeS_by (by decide +kernel), fun _ _ _ _ => rfl, by decide +kernel, fun cl f c' A outer s H E hr => PE.imp (pe_cR c (L2N.takes_of rfl rfl rfl rfl) hr (by decide) (by rfl) (pa_cons (pv 0) (pa_cons (pe_non) (pa_cons (pe_non) (pa_cons (pe_non) (pa_cons (pe_non) pa_nil)))))) fun σ H Q h => ?_⟩⟩
  obtain ⟨x, d, rfl, dp, bad, r⟩ := h
  exact ⟨_, rfl, x, [.non, .non, .non, .non], d, rfl, rfl, dp, bad, r⟩
theorem lam_law_rule_calls_8_0 (c : CalR P w K mg base 5 "changed_saves" (spR K CR 2)) : MkE P w K mg base (defScope s_law_rule_calls) 6 ["_law_x"] (((("_law_rule_calls" : Str) ++ ".<locals>.") ++ "<lambda>")) (tR K CR) ((lamsOf (stE ((defBody s_law_rule_calls).getD 8 (.Pass ⟨0, 0, 0, 0⟩)))).getD 0 (.Name "" ⟨0, 0, 0, 0⟩)) := by
  refine ⟨_, _, _, _, rfl, fun _ => rfl, by decide +kernel, ⟨freeS_by (by decide +kernel), fun _ _ _ _ => rfl, by decide +kernel, fun cl f c' A outer s H E hr => PE.imp (pe_cR c (L2N.takes_of rfl rfl rfl rfl) hr (by decide) (by rfl) (pa_cons (pv 0) (pa_cons (pe_non) (pa_cons (pe_non) pa_nil)))) fun σ H Q h => ?_⟩⟩
  obtain ⟨x, d, rfl, dp, bad, r⟩ := h
  exact ⟨_, rfl, x, [.non, .non], d, rfl, rfl, dp, bad, r⟩
theorem lam_law_rule_calls_8_1 (c : CalR P w K mg base 5 "alike_from" (spR K CR 2)) : MkE P w K mg base (defScope s_law_rule_calls) 6 ["_law_x"] (((("_law_rule_calls" : Str) ++ ".<locals>.") ++ "<lambda>")) (tR K CR) ((lamsOf (stE ((defBody s_law_rule_calls).getD 8 (.Pass ⟨0, 0, 0, 0⟩)))).getD 1 (.Name "" ⟨0, 0, 0, 0⟩)) := by
  refine ⟨_, _, _, _, rfl, fun _ => rfl, by decide +kernel, ⟨freeS_by (by decide +kernel), fun _ _ _ _ => rfl, by decide +kernel, fun cl f c' A outer s H E hr => PE.imp (pe_cR c (L2N.takes_of rfl rfl rfl rfl) hr (by decide) (by rfl) (pa_cons (pv 0) (pa_cons (pe_non) (pa_cons (pe_non) pa_nil)))) fun σ H Q h => ?_⟩⟩
  obtain ⟨x, d, rfl, dp, bad, r⟩ := h
  exact ⟨_, rfl, x, [.non, .non], d, rfl, rfl, dp, bad, r⟩
theorem lam_law_rule_calls_9_0 (c : CalR P w K mg base 5 "count_logs" (spR K CR 1)) : MkE P w K mg base (defScope s_law_rule_calls) 6 ["_law_x"] (((("_law_rule_calls" : Str) ++ ".<locals>.") ++ "<lambda>")) (tR K CR) ((lamsOf (stE ((defBody s_law_rule_calls).getD 9 (.Pass ⟨0, 0, 0, 0⟩)))).getD 0 (.Name "" ⟨0, 0, 0, 0⟩)) := by
  refine ⟨_, _, _, _, rfl, fun _ => rfl, by decide +kernel, ⟨freeS_by (by decide +kernel), fun _ _ _ _ => rfl, by decide +kernel, fun cl f c' A outer s H E hr => PE.imp (pe_cR c (L2N.takes_of rfl rfl rfl rfl) hr (by decide) (by rfl) (pa_cons (pv 0) (pa_cons (pe_non) pa_nil))) fun σ H Q h => ?_⟩⟩
  obtain ⟨x, d, rfl, dp, bad, r⟩ := h
  exact ⟨_, rfl, x, [.non], d, rfl, rfl, dp, bad, r⟩
theorem lam_law_rule_calls_9_1 (c : CalR P w K mg base 5 "log_at" (spR K CR 2)) : MkE P w K mg base (defScope s_law_rule_calls) 6 ["_law_x"] (((("_law_rule_calls" : Str) ++ ".<locals>.") ++ "<lambda>")) (tR K CR) ((lamsOf (stE ((defBody s_law_rule_calls).getD 9 (.Pass ⟨0, 0, 0, 0⟩)))).getD 1 (.Name "" ⟨0, 0, 0, 0⟩)) := by
  refine ⟨_, _, _, _, rfl, fun _ => rfl, by decide +kernel, ⟨freeS_by (by decide +kernel), fun _ _ _ _ => rfl, by decide +kernel, fun cl f c' A outer s H E hr => PE.imp (pe_cR c (L2N.takes_of rfl rfl rfl rfl) hr (by decide) (by rfl) (pa_cons (pv 0) (pa_cons (pe_non) (pa_cons (pe_non) pa_nil)))) fun σ H Q h => ?_⟩⟩
  obtain ⟨x, d, rfl, dp, bad, r⟩ := h
  exact ⟨_, rfl, x, [.non, .non], d, rfl, rfl, dp, bad, r⟩
theorem lam_law_rule_calls_9_2 {C f0 : Addr} {fd : FuncData} (D : DocT K mg C f0 fd) (c : FnOk P w K mg base (L2N.CX P w) 4 f0 fd ["self", "rule"] (spInit K CR)) : MkE P w K mg base (defScope s_law_rule_calls) 6 ["_law_x"] (((("_law_rule_calls" : Str) ++ ".<locals>.") ++ "<lambda>")) (tR K CR) ((lamsOf (stE ((defBody s_law_rule_calls).getD 9 (.Pass ⟨0, 0, 0, 0⟩)))).getD 2 (.Name "" ⟨0, 0, 0, 0⟩)) := by
  refine ⟨_, _, _, _, rfl, fun _ => rfl, by decide +kernel, ⟨freeS_by (by decide +kernel), fun _ _ _ _ => rfl, by decide +kernel, fun cl f c' A outer s H E hr => PE.imp (pe_mkX D.M c (L2N.takes_of rfl rfl rfl rfl) (hr.mono (by decide)) (by rfl) D.g D.b (pa_cons (pv 0) pa_nil) (fun _ _ _ _ h => h)) fun σ H Q h => ?_⟩⟩
  obtain ⟨x, d, rfl, dp, bad, r⟩ := h
  exact ⟨_, rfl, fun o dx ho hdx ne => ⟨.ref o, x, d, rfl, dp_same ((same_new hdx).trans (same_new (by rw [upd_ne ne.symm]; exact ho))) dp, bad, r.up ((same_new hdx).trans (same_new (by rw [upd_ne ne.symm]; exact ho)))⟩⟩
abbrev s_law_log_calls : Stmt := topS 95
theorem lam_law_log_calls_1_0 (c : CalR P w K mg base 4 "unsaved" (spL K CL 1)) : MkE P w K mg base (defScope s_law_log_calls) 6 ["_law_rule_here", "_law_x"] (((("_law_log_calls" : Str) ++ ".<locals>.") ++ "<lambda>")) (tL K CL) ((lamsOf (stE ((defBody s_law_log_calls).getD 1 (.Pass ⟨0, 0, 0, 0⟩)))).getD 0 (.Name "" ⟨0, 0, 0, 0⟩)) := by
  refine ⟨_, _, _, _, rfl, fun _ => rfl, by decide +kernel, ⟨freeS_by (by decide +kernel), fun _ _ _ _ => rfl, by decide +kernel, fun cl f c' A outer s H E hr => PE.imp (pe_cR c (L2N.takes_of rfl rfl rfl rfl) hr (by decide) (by rfl) (pa_cons (pv 0) (pa_cons (pv 1) (pa_cons (pe_non) pa_nil)))) fun σ H Q h => ?_⟩⟩
  obtain ⟨y, x, g, d, rfl, dg, good, dp, bad, r⟩ := h
  exact ⟨_, rfl, _, rfl, x, y, [.non], g, d, rfl, rfl, dg, good, dp, bad, r⟩
theorem lam_law_log_calls_1_1 (c : CalR P w K mg base 4 "lost" (spL K CL 1)) : MkE P w K mg base (defScope s_law_log_calls) 6 ["_law_rule_here", "_law_x"] (((("_law_log_calls" : Str) ++ ".<locals>.") ++ "<lambda>")) (tL K CL) ((lamsOf (stE ((defBody s_law_log_calls).getD 1 (.Pass ⟨0, 0, 0, 0⟩)))).getD 1 (.Name "" ⟨0, 0, 0, 0⟩)) := by
  refine ⟨_, _, _, _, rfl, fun _ => rfl, by decide +kernel, ⟨freeS_by (by decide +kernel), fun _ _ _ _ => rfl, by decide +kernel, fun cl f c' A outer s H E hr => PE.imp (pe_cR c (L2N.takes_of rfl rfl rfl rfl) hr (by decide) (by rfl) (pa_cons (pv 0) (pa_cons (pv 1) (pa_cons (pe_non) pa_nil)))) fun σ H Q h => ?_⟩⟩
  obtain ⟨y, x, g, d, rfl, dg, good, dp, bad, r⟩ := h
  exact ⟨_, rfl, _, rfl, x, y, [.non], g, d, rfl, rfl, dg, good, dp, bad, r⟩
theorem lam_law_log_calls_1_2 (c : CalR P w K mg base 4 "saves" (spL K CL 0)) : MkE P w K mg base (defScope s_law_log_calls) 6 ["_law_rule_here", "_law_x"] (((("_law_log_calls" : Str) ++ ".<locals>.") ++ "<lambda>")) (tL K CL) ((lamsOf (stE ((defBody s_law_log_calls).getD 1 (.Pass ⟨0, 0, 0, 0⟩)))).getD 2 (.Name "" ⟨0, 0, 0, 0⟩)) := by
  refine ⟨_, _, _, _, rfl, fun _ => rfl, by decide +kernel, ⟨freeS_by (by decide +kernel), fun _ _ _ _ => rfl, by decide +kernel, fun cl f c' A outer s H E hr => PE.imp (pe_cR c (L2N.takes_of rfl rfl rfl rfl) hr (by decide) (by rfl) (pa_cons (pv 0) (pa_cons (pv 1) pa_nil))) fun σ H Q h => ?_⟩⟩
  obtain ⟨y, x, g, d, rfl, dg, good, dp, bad, r⟩ := h
  exact ⟨_, rfl, _, rfl, x, y, [], g, d, rfl, rfl, dg, good, dp, bad, r⟩
theorem lam_law_log_calls_2_0 (c : CalR P w K mg base 4 "saves_until" (spL K CL 1)) : MkE P w K mg base (defScope s_law_log_calls) 6 ["_law_rule_here", "_law_x"] (((("_law_log_calls" : Str) ++ ".<locals>.") ++ "<lambda>")) (tL K CL) ((lamsOf (stE ((defBody s_law_log_calls).getD 2 (.Pass ⟨0, 0, 0, 0⟩)))).getD 0 (.Name "" ⟨0, 0, 0, 0⟩)) := by
  refine ⟨_, _, _, _, rfl, fun _ => rfl, by decide +kernel, ⟨freeS_by (by decide +kernel), fun _ _ _ _ => rfl, by decide +kernel, fun cl f c' A outer s H E hr => PE.imp (pe_cR c (L2N.takes_of rfl rfl rfl rfl) hr (by decide) (by rfl) (pa_cons (pv 0) (pa_cons (pv 1) (pa_cons (pe_non) pa_nil)))) fun σ H Q h => ?_⟩⟩
  obtain ⟨y, x, g, d, rfl, dg, good, dp, bad, r⟩ := h
  exact ⟨_, rfl, _, rfl, x, y, [.non], g, d, rfl, rfl, dg, good, dp, bad, r⟩
theorem lam_law_log_calls_2_1 (B : Blt mg) (c : GenX P w K mg base 3 "walk" (spL K CL 0)) : MkE P w K mg base (defScope s_law_log_calls) 6 ["_law_rule_here", "_law_x"] (((("_law_log_calls" : Str) ++ ".<locals>.") ++ "<lambda>")) (tL K CL) ((lamsOf (stE ((defBody s_law_log_calls).getD 2 (.Pass ⟨0, 0, 0, 0⟩)))).getD 1 (.Name "" ⟨0, 0, 0, 0⟩)) := by
  refine ⟨_, _, _, _, rfl, fun _ => rfl, by decide +kernel, ⟨freeS_by (by decide +kernel), fun _ _ _ _ => rfl, by decide +kernel, fun cl f c' A outer s H E hr => PE.imp (pe_listGen c (L2N.takes_of rfl rfl rfl rfl) hr (by decide) (by rfl) B.m_list (by decide +kernel) (by rfl) (pa_cons (pv 0) (pa_cons (pv 1) pa_nil))) fun σ H Q h => ?_⟩⟩
  obtain ⟨y, x, g, d, rfl, dg, good, dp, bad, r⟩ := h
  exact ⟨_, rfl, _, rfl, x, y, [], g, d, rfl, rfl, dg, good, dp, bad, r⟩
theorem lam_law_log_calls_2_2 (c : CalR P w K mg base 4 "total_saves" (spLT K CL)) : MkE P w K mg base (defScope s_law_log_calls) 6 ["_law_rule_here", "_law_x"] (((("_law_log_calls" : Str) ++ ".<locals>.") ++ "<lambda>")) (tL K CL) ((lamsOf (stE ((defBody s_law_log_calls).getD 2 (.Pass ⟨0, 0, 0, 0⟩)))).getD 2 (.Name "" ⟨0, 0, 0, 0⟩)) := by
  refine ⟨_, _, _, _, rfl, fun _ => rfl, by decide +kernel, ⟨freeS_by (by decide +kernel), fun _ _ _ _ => rfl, by decide +kernel, fun cl f c' A outer s H E hr => PE.imp (pe_cR c (L2N.takes_of rfl rfl rfl rfl) hr (by decide) (by rfl) (pa_cons (pv 0) (pa_cons (pe_tup pa_nil) (pa_cons (pv 1) pa_nil)))) fun σ H Q h => ?_⟩⟩
  obtain ⟨y, x, g, d, rfl, dg, good, dp, bad, r⟩ := h
  exact ⟨_, rfl, Nat.zero_le _, fun p hp => ⟨_, rfl, x, y, .ref p, g, .tuple [], d, rfl, dp_same (same_new hp) dg, good, .tup (sqT_of upd_same) .nil, rfl, dp_same (same_new hp) dp, bad, r.up (same_new hp)⟩⟩
theorem lam_law_log_calls_3_0 (c : CalR P w K mg base 4 "most_unsaved" (spL K CL 0)) : MkE P w K mg base (defScope s_law_log_calls) 6 ["_law_rule_here", "_law_x"] (((("_law_log_calls" : Str) ++ ".<locals>.") ++ "<lambda>")) (tL K CL) ((lamsOf (stE ((defBody s_law_log_calls).getD 3 (.Pass ⟨0, 0, 0, 0⟩)))).getD 0 (.Name "" ⟨0, 0, 0, 0⟩)) := by
  refine ⟨_, _, _, _, rfl, fun _ => rfl, by decide +kernel, ⟨freeS_by (by decide +kernel), fun _ _ _ _ => rfl, by decide +kernel, fun cl f c' A outer s H E hr => PE.imp (pe_cR c (L2N.takes_of rfl rfl rfl rfl) hr (by decide) (by rfl) (pa_cons (pv 0) (pa_cons (pv 1) pa_nil))) fun σ H Q h => ?_⟩⟩
  obtain ⟨y, x, g, d, rfl, dg, good, dp, bad, r⟩ := h
  exact ⟨_, rfl, _, rfl, x, y, [], g, d, rfl, rfl, dg, good, dp, bad, r⟩
theorem lam_law_log_calls_3_1 (c : CalR P w K mg base 4 "least_unsaved" (spLF K CL 1)) : MkE P w K mg base (defScope s_law_log_calls) 6 ["_law_rule_here", "_law_x"] (((("_law_log_calls" : Str) ++ ".<locals>.") ++ "<lambda>")) (tL K CL) ((lamsOf (stE ((defBody s_law_log_calls).getD 3 (.Pass ⟨0, 0, 0, 0⟩)))).getD 1 (.Name "" ⟨0, 0, 0, 0⟩)) := by
  refine ⟨_, _, _, _, rfl, fun _ => rfl, by decide +kernel, ⟨freeS_by (by decide +kernel), fun _ _ _ _ => rfl, by decide +kernel, fun cl f c' A outer s H E hr => PE.imp (pe_cR c (L2N.takes_of rfl rfl rfl rfl) hr (by decide) (by rfl) (pa_cons (pv 1) (pa_cons (pe_non) pa_nil))) fun σ H Q h => ?_⟩⟩
  obtain ⟨y, x, g, d, rfl, dg, good, dp, bad, r⟩ := h
  exact ⟨_, rfl, x, [.non], d, rfl, rfl, dp, bad, r⟩
theorem lam_law_log_calls_3_2 (c : CalR P w K mg base 4 "longest_idle" (spLF K CL 2)) : MkE P w K mg base (defScope s_law_log_calls) 6 ["_law_rule_here", "_law_x"] (((("_law_log_calls" : Str) ++ ".<locals>.") ++ "<lambda>")) (tL K CL) ((lamsOf (stE ((defBody s_law_log_calls).getD 3 (.Pass ⟨0, 0, 0, 0⟩)))).getD 2 (.Name "" ⟨0, 0, 0, 0⟩)) := by
  refine ⟨_, _, _, _, rfl, fun _ => rfl, by decide +kernel, ⟨freeS_by (by decide +kernel), fun _ _ _ _ => rfl, by decide +kernel, fun cl f c' A outer s H E hr => PE.imp (pe_cR c (L2N.takes_of rfl rfl rfl rfl) hr (by decide) (by rfl) (pa_cons (pv 1) (pa_cons (pe_non) (pa_cons (pe_non) pa_nil)))) fun σ H Q h => ?_⟩⟩
  obtain ⟨y, x, g, d, rfl, dg, good, dp, bad, r⟩ := h
  exact ⟨_, rfl, x, [.non, .non], d, rfl, rfl, dp, bad, r⟩
theorem lam_law_log_calls_4_0 (c : CalR P w K mg base 4 "fewest_saves" (spLF K CL 1)) : MkE P w K mg base (defScope s_law_log_calls) 6 ["_law_rule_here", "_law_x"] (((("_law_log_calls" : Str) ++ ".<locals>.") ++ "<lambda>")) (tL K CL) ((lamsOf (stE ((defBody s_law_log_calls).getD 4 (.Pass ⟨0, 0, 0, 0⟩)))).getD 0 (.Name "" ⟨0, 0, 0, 0⟩)) := by
  refine ⟨_, _, _, _, rfl, fun _ => rfl, by decide +kernel, ⟨freeS_by (by decide +kernel), fun _ _ _ _ => rfl, by decide +kernel, fun cl f c' A outer s H E hr => PE.imp (pe_cR c (L2N.takes_of rfl rfl rfl rfl) hr (by decide) (by rfl) (pa_cons (pv 1) (pa_cons (pe_non) pa_nil))) fun σ H Q h => ?_⟩⟩
  obtain ⟨y, x, g, d, rfl, dg, good, dp, bad, r⟩ := h
  exact ⟨_, rfl, x, [.non], d, rfl, rfl, dp, bad, r⟩
theorem lam_law_log_calls_4_1 (c : CalR P w K mg base 4 "best_rule" (spLF K CL 1)) : MkE P w K mg base (defScope s_law_log_calls) 6 ["_law_rule_here", "_law_x"] (((("_law_log_calls" : Str) ++ ".<locals>.") ++ "<lambda>")) (tL K CL) ((lamsOf (stE ((defBody s_law_log_calls).getD 4 (.Pass ⟨0, 0, 0, 0⟩)))).getD 1 (.Name "" ⟨0, 0, 0, 0⟩)) := by
  refine ⟨_, _, _, _, rfl, fun _ => rfl, by decide +kernel, ⟨freeS_by (by decide +kernel), fun _ _ _ _ => rfl, by decide +kernel, fun cl f c' A outer s H E hr => PE.imp (pe_cR c (L2N.takes_of rfl rfl rfl rfl) hr (by decide) (by rfl) (pa_cons (pv 1) (pa_cons (pe_non) pa_nil))) fun σ H Q h => ?_⟩⟩
  obtain ⟨y, x, g, d, rfl, dg, good, dp, bad, r⟩ := h
  exact ⟨_, rfl, x, [.non], d, rfl, rfl, dp, bad, r⟩
theorem lam_law_log_calls_4_2 (c : CalR P w K mg base 4 "fitting_rules" (spLF K CL 1)) : MkE P w K mg base (defScope s_law_log_calls) 6 ["_law_rule_here", "_law_x"] (((("_law_log_calls" : Str) ++ ".<locals>.") ++ "<lambda>")) (tL K CL) ((lamsOf (stE ((defBody s_law_log_calls).getD 4 (.Pass ⟨0, 0, 0, 0⟩)))).getD 2 (.Name "" ⟨0, 0, 0, 0⟩)) := by
  refine ⟨_, _, _, _, rfl, fun _ => rfl, by decide +kernel, ⟨freeS_by (by decide +kernel), fun _ _ _ _ => rfl, by decide +kernel, fun cl f c' A outer s H E hr => PE.imp (pe_cR c (L2N.takes_of rfl rfl rfl rfl) hr (by decide) (by rfl) (pa_cons (pv 1) (pa_cons (pe_non) pa_nil))) fun σ H Q h => ?_⟩⟩
  obtain ⟨y, x, g, d, rfl, dg, good, dp, bad, r⟩ := h
  exact ⟨_, rfl, x, [.non], d, rfl, rfl, dp, bad, r⟩
theorem lam_law_log_calls_5_0 (c : CalR P w K mg base 4 "fitting_by_losses" (spLF K CL 1)) : MkE P w K mg base (defScope s_law_log_calls) 6 ["_law_rule_here", "_law_x"] (((("_law_log_calls" : Str) ++ ".<locals>.") ++ "<lambda>")) (tL K CL) ((lamsOf (stE ((defBody s_law_log_calls).getD 5 (.Pass ⟨0, 0, 0, 0⟩)))).getD 0 (.Name "" ⟨0, 0, 0, 0⟩)) := by
  refine ⟨_, _, _, _, rfl, fun _ => rfl, by decide +kernel, ⟨freeS_by (by decide +kernel), fun _ _ _ _ => rfl, by decide +kernel, fun cl f c' A outer s H E hr => PE.imp (pe_cR c (L2N.takes_of rfl rfl rfl rfl) hr (by decide) (by rfl) (pa_cons (pv 1) (pa_cons (pe_non) pa_nil))) fun σ H Q h => ?_⟩⟩
  obtain ⟨y, x, g, d, rfl, dg, good, dp, bad, r⟩ := h
  exact ⟨_, rfl, x, [.non], d, rfl, rfl, dp, bad, r⟩
theorem lam_law_log_calls_5_1 (c : CalR P w K mg base 4 "wrong_losses" (spLF K CL 1)) : MkE P w K mg base (defScope s_law_log_calls) 6 ["_law_rule_here", "_law_x"] (((("_law_log_calls" : Str) ++ ".<locals>.") ++ "<lambda>")) (tL K CL) ((lamsOf (stE ((defBody s_law_log_calls).getD 5 (.Pass ⟨0, 0, 0, 0⟩)))).getD 1 (.Name "" ⟨0, 0, 0, 0⟩)) := by
  refine ⟨_, _, _, _, rfl, fun _ => rfl, by decide +kernel, ⟨freeS_by (by decide +kernel), fun _ _ _ _ => rfl, by decide +kernel, fun cl f c' A outer s H E hr => PE.imp (pe_cR c (L2N.takes_of rfl rfl rfl rfl) hr (by decide) (by rfl) (pa_cons (pv 1) (pa_cons (pe_non) pa_nil))) fun σ H Q h => ?_⟩⟩
  obtain ⟨y, x, g, d, rfl, dg, good, dp, bad, r⟩ := h
  exact ⟨_, rfl, x, [.non], d, rfl, rfl, dp, bad, r⟩
theorem lam_law_log_calls_6_0 (c : CalR P w K mg base 5 "changed_saves" (spL K CL 1)) : MkE P w K mg base (defScope s_law_log_calls) 6 ["_law_rule_here", "_law_x"] (((("_law_log_calls" : Str) ++ ".<locals>.") ++ "<lambda>")) (tL K CL) ((lamsOf (stE ((defBody s_law_log_calls).getD 6 (.Pass ⟨0, 0, 0, 0⟩)))).getD 0 (.Name "" ⟨0, 0, 0, 0⟩)) := by
  refine ⟨_, _, _, _, rfl, fun _ => rfl, by decide +kernel, ⟨freeS_by (by decide +kernel), fun _ _ _ _ => rfl, by decide +kernel, fun cl f c' A outer s H E hr => PE.imp (pe_cR c (L2N.takes_of rfl rfl rfl rfl) hr (by decide) (by rfl) (pa_cons (pv 0) (pa_cons (pv 1) (pa_cons (pe_non) pa_nil)))) fun σ H Q h => ?_⟩⟩
  obtain ⟨y, x, g, d, rfl, dg, good, dp, bad, r⟩ := h
  exact ⟨_, rfl, _, rfl, x, y, [.non], g, d, rfl, rfl, dg, good, dp, bad, r⟩
theorem lam_law_log_calls_6_1 (c : CalR P w K mg base 5 "alike_from" (spL K CL 1)) : MkE P w K mg base (defScope s_law_log_calls) 6 ["_law_rule_here", "_law_x"] (((("_law_log_calls" : Str) ++ ".<locals>.") ++ "<lambda>")) (tL K CL) ((lamsOf (stE ((defBody s_law_log_calls).getD 6 (.Pass ⟨0, 0, 0, 0⟩)))).getD 1 (.Name "" ⟨0, 0, 0, 0⟩)) := by
  refine ⟨_, _, _, _, rfl, fun _ => rfl, by decide +kernel, ⟨freeS_by (by decide +kernel), fun _ _ _ _ => rfl, by decide +kernel, fun cl f c' A outer s H E hr => PE.imp (pe_cR c (L2N.takes_of rfl rfl rfl rfl) hr (by decide) (by rfl) (pa_cons (pv 0) (pa_cons (pv 1) (pa_cons (pe_non) pa_nil)))) fun σ H Q h => ?_⟩⟩
  obtain ⟨y, x, g, d, rfl, dg, good, dp, bad, r⟩ := h
  exact ⟨_, rfl, _, rfl, x, y, [.non], g, d, rfl, rfl, dg, good, dp, bad, r⟩
end
end Au
set_option maxHeartbeats 4000000
/-! The makers of the lambdas. -/
namespace Au
open PySem PySem.Spec PyProof.Rows L2 LamX
theorem gName_ok {i : Nat} {v : V} {σ : L2.St} {H : Hp} {Q : L2.St → Hp → Prop} (h : Q (σ.set i (some v)) H) : gName i v σ H Q := h
theorem asg_ok {te : TE} {g : TG} {D : Ends} {σ : L2.St} {H : Hp} (h : te σ H fun x H1 => g x σ H1 D.nx) : tAsg te g D σ H := h
theorem MkE.ok {X : Cx} {sc : Scope} {k : Nat} {N : List Str} {q : Str} {t : XK → TE} {e : Expr} (h : MkE X.prog X.w X.K X.mg X.base sc k N q t e) (hs : X.env.scope = sc) (hq : X.env.qual ++ "<lambda>" = q) : MkOk X k N t e := by
  obtain ⟨params, body, scope, pos, rfl, hd, hf, ok⟩ := h
  subst hq hs
  refine ⟨params, body, scope, pos, rfl, hd _, fun y hy e => ?_, ok⟩
  have z := List.all_eq_true.mp hf y hy
  simp only [e, decide_true, Bool.not_true, Bool.false_or, Bool.or_eq_true, decide_eq_true_eq] at z
  exact z
section
variable {P : Program} {w : World} {K : PySem.W.Frag} {mg : Str → Option Value} {base : Heap} {CR CL CT : Addr}
/-- the promises that its lambdas lean on -/
structure Callees_law_rule_calls (P : Program) (w : World) (K : PySem.W.Frag) (mg : Str → Option Value) (base : Heap) (CR : Addr) : Prop where
  c0 : CalR P w K mg base 4 "unsaved" (spR K CR 2)
  c1 : CalR P w K mg base 4 "lost" (spR K CR 2)
  c2 : CalR P w K mg base 4 "saves" (spR K CR 1)
  c3 : CalR P w K mg base 4 "saves_until" (spR K CR 2)
  c4 : GenX P w K mg base 3 "walk" (spR K CR 1)
  c5 : CalR P w K mg base 4 "total_saves" (spR K CR 1)
  c6 : CalR P w K mg base 4 "most_unsaved" (spR K CR 1)
  c7 : CalR P w K mg base 4 "least_unsaved" (spRU K CR)
  c8 : CalR P w K mg base 4 "largest_excess" (spR K CR 1)
  c9 : CalR P w K mg base 4 "largest_excess" (spR2 K CR)
  c10 : CalR P w K mg base 4 "never_loses_more" (spR K CR 1)
  c11 : CalR P w K mg base 4 "never_loses_more" (spR2 K CR)
  c12 : CalR P w K mg base 4 "never_saves_more" (spR K CR 1)
  c13 : CalR P w K mg base 4 "alike" (spR K CR 1)
  c14 : CalR P w K mg base 4 "alike" (spR2 K CR)
  c15 : CalR P w K mg base 4 "telling_loss" (spR K CR 1)
  c16 : CalR P w K mg base 4 "telling_loss" (spR2 K CR)
  c17 : CalR P w K mg base 4 "telling_saves" (spR K CR 1)
  c18 : CalR P w K mg base 4 "regular_saves" (spR K CR 2)
  c19 : CalR P w K mg base 4 "burst_saves" (spR K CR 4)
  c20 : CalR P w K mg base 5 "changed_saves" (spR K CR 2)
  c21 : CalR P w K mg base 5 "alike_from" (spR K CR 2)
  c22 : CalR P w K mg base 5 "count_logs" (spR K CR 1)
  c23 : CalR P w K mg base 5 "log_at" (spR K CR 2)
  doc : ∃ (C f0 : Addr) (fd : FuncData), DocT K mg C f0 fd ∧ FnOk P w K mg base (L2N.CX P w) 4 f0 fd ["self", "rule"] (spInit K CR)
theorem mk_law_rule_calls_0 (B : Blt mg) (R : Callees_law_rule_calls P w K mg base CR) {X : Cx} (hP : X.prog = P) (hw : X.w = w) (hK : X.K = K) (hm : X.mg = mg) (hb : X.base = base) (hs : X.env.scope = defScope s_law_rule_calls) (hq : X.env.qual ++ "<lambda>" = ((("_law_rule_calls" : Str) ++ ".<locals>.") ++ "<lambda>")) : ∀ e ∈ (lamsOf (stE ((defBody s_law_rule_calls).getD 0 (.Pass ⟨0, 0, 0, 0⟩)))), MkOk X 6 ["_law_x"] (tR K CR) e := by
  subst hP hw hK hm hb
  obtain ⟨C, f0, fd, D, cD⟩ := R.doc
  exact all3 (d := .Name "" ⟨0, 0, 0, 0⟩) rfl ((lam_law_rule_calls_0_0 R.c0).ok hs hq) ((lam_law_rule_calls_0_1 R.c1).ok hs hq) ((lam_law_rule_calls_0_2 R.c2).ok hs hq)
theorem mk_law_rule_calls_1 (B : Blt mg) (R : Callees_law_rule_calls P w K mg base CR) {X : Cx} (hP : X.prog = P) (hw : X.w = w) (hK : X.K = K) (hm : X.mg = mg) (hb : X.base = base) (hs : X.env.scope = defScope s_law_rule_calls) (hq : X.env.qual ++ "<lambda>" = ((("_law_rule_calls" : Str) ++ ".<locals>.") ++ "<lambda>")) : ∀ e ∈ (lamsOf (stE ((defBody s_law_rule_calls).getD 1 (.Pass ⟨0, 0, 0, 0⟩)))), MkOk X 6 ["_law_x"] (tR K CR) e := by
  subst hP hw hK hm hb
  obtain ⟨C, f0, fd, D, cD⟩ := R.doc
  exact all3 (d := .Name "" ⟨0, 0, 0, 0⟩) rfl ((lam_law_rule_calls_1_0 R.c3).ok hs hq) ((lam_law_rule_calls_1_1 B R.c4).ok hs hq) ((lam_law_rule_calls_1_2 R.c5).ok hs hq)
theorem mk_law_rule_calls_2 (B : Blt mg) (R : Callees_law_rule_calls P w K mg base CR) {X : Cx} (hP : X.prog = P) (hw : X.w = w) (hK : X.K = K) (hm : X.mg = mg) (hb : X.base = base) (hs : X.env.scope = defScope s_law_rule_calls) (hq : X.env.qual ++ "<lambda>" = ((("_law_rule_calls" : Str) ++ ".<locals>.") ++ "<lambda>")) : ∀ e ∈ (lamsOf (stE ((defBody s_law_rule_calls).getD 2 (.Pass ⟨0, 0, 0, 0⟩)))), MkOk X 6 ["_law_x"] (tR K CR) e := by
  subst hP hw hK hm hb
  obtain ⟨C, f0, fd, D, cD⟩ := R.doc
  exact all2 (d := .Name "" ⟨0, 0, 0, 0⟩) rfl ((lam_law_rule_calls_2_0 R.c6).ok hs hq) ((lam_law_rule_calls_2_1 R.c7).ok hs hq)
theorem mk_law_rule_calls_3 (B : Blt mg) (R : Callees_law_rule_calls P w K mg base CR) {X : Cx} (hP : X.prog = P) (hw : X.w = w) (hK : X.K = K) (hm : X.mg = mg) (hb : X.base = base) (hs : X.env.scope = defScope s_law_rule_calls) (hq : X.env.qual ++ "<lambda>" = ((("_law_rule_calls" : Str) ++ ".<locals>.") ++ "<lambda>")) : ∀ e ∈ (lamsOf (stE ((defBody s_law_rule_calls).getD 3 (.Pass ⟨0, 0, 0, 0⟩)))), MkOk X 6 ["_law_x"] (tR K CR) e := by
  subst hP hw hK hm hb
  obtain ⟨C, f0, fd, D, cD⟩ := R.doc
  exact all2 (d := .Name "" ⟨0, 0, 0, 0⟩) rfl ((lam_law_rule_calls_3_0 R.c8).ok hs hq) ((lam_law_rule_calls_3_1 R.c9).ok hs hq)
theorem mk_law_rule_calls_4 (B : Blt mg) (R : Callees_law_rule_calls P w K mg base CR) {X : Cx} (hP : X.prog = P) (hw : X.w = w) (hK : X.K = K) (hm : X.mg = mg) (hb : X.base = base) (hs : X.env.scope = defScope s_law_rule_calls) (hq : X.env.qual ++ "<lambda>" = ((("_law_rule_calls" : Str) ++ ".<locals>.") ++ "<lambda>")) : ∀ e ∈ (lamsOf (stE ((defBody s_law_rule_calls).getD 4 (.Pass ⟨0, 0, 0, 0⟩)))), MkOk X 6 ["_law_x"] (tR K CR) e := by
  subst hP hw hK hm hb
  obtain ⟨C, f0, fd, D, cD⟩ := R.doc
  exact all2 (d := .Name "" ⟨0, 0, 0, 0⟩) rfl ((lam_law_rule_calls_4_0 R.c10).ok hs hq) ((lam_law_rule_calls_4_1 R.c11).ok hs hq)
theorem mk_law_rule_calls_5 (B : Blt mg) (R : Callees_law_rule_calls P w K mg base CR) {X : Cx} (hP : X.prog = P) (hw : X.w = w) (hK : X.K = K) (hm : X.mg = mg) (hb : X.base = base) (hs : X.env.scope = defScope s_law_rule_calls) (hq : X.env.qual ++ "<lambda>" = ((("_law_rule_calls" : Str) ++ ".<locals>.") ++ "<lambda>")) : ∀ e ∈ (lamsOf (stE ((defBody s_law_rule_calls).getD 5 (.Pass ⟨0, 0, 0, 0⟩)))), MkOk X 6 ["_law_x"] (tR K CR) e := by
  subst hP hw hK hm hb
  obtain ⟨C, f0, fd, D, cD⟩ := R.doc
  exact all3 (d := .Name "" ⟨0, 0, 0, 0⟩) rfl ((lam_law_rule_calls_5_0 R.c12).ok hs hq) ((lam_law_rule_calls_5_1 R.c13).ok hs hq) ((lam_law_rule_calls_5_2 R.c14).ok hs hq)
theorem mk_law_rule_calls_6 (B : Blt mg) (R : Callees_law_rule_calls P w K mg base CR) {X : Cx} (hP : X.prog = P) (hw : X.w = w) (hK : X.K = K) (hm : X.mg = mg) (hb : X.base = base) (hs : X.env.scope = defScope s_law_rule_calls) (hq : X.env.qual ++ "<lambda>" = ((("_law_rule_calls" : Str) ++ ".<locals>.") ++ "<lambda>")) : ∀ e ∈ (lamsOf (stE ((defBody s_law_rule_calls).getD 6 (.Pass ⟨0, 0, 0, 0⟩)))), MkOk X 6 ["_law_x"] (tR K CR) e := by
  subst hP hw hK hm hb
  obtain ⟨C, f0, fd, D, cD⟩ := R.doc
  exact all3 (d := .Name "" ⟨0, 0, 0, 0⟩) rfl ((lam_law_rule_calls_6_0 R.c15).ok hs hq) ((lam_law_rule_calls_6_1 R.c16).ok hs hq) ((lam_law_rule_calls_6_2 R.c17).ok hs hq)
theorem mk_law_rule_calls_7 (B : Blt mg) (R : Callees_law_rule_calls P w K mg base CR) {X : Cx} (hP : X.prog = P) (hw : X.w = w) (hK : X.K = K) (hm : X.mg = mg) (hb : X.base = base) (hs : X.env.scope = defScope s_law_rule_calls) (hq : X.env.qual ++ "<lambda>" = ((("_law_rule_calls" : Str) ++ ".<locals>.") ++ "<lambda>")) : ∀ e ∈ (lamsOf (stE ((defBody s_law_rule_calls).getD 7 (.Pass ⟨0, 0, 0, 0⟩)))), MkOk X 6 ["_law_x"] (tR K CR) e := by
  subst hP hw hK hm hb
  obtain ⟨C, f0, fd, D, cD⟩ := R.doc
  exact all2 (d := .Name "" ⟨0, 0, 0, 0⟩) rfl ((lam_law_rule_calls_7_0 R.c18).ok hs hq) ((lam_law_rule_calls_7_1 R.c19).ok hs hq)
theorem mk_law_rule_calls_8 (B : Blt mg) (R : Callees_law_rule_calls P w K mg base CR) {X : Cx} (hP : X.prog = P) (hw : X.w = w) (hK : X.K = K) (hm : X.mg = mg) (hb : X.base = base) (hs : X.env.scope = defScope s_law_rule_calls) (hq : X.env.qual ++ "<lambda>" = ((("_law_rule_calls" : Str) ++ ".<locals>.") ++ "<lambda>")) : ∀ e ∈ (lamsOf (stE ((defBody s_law_rule_calls).getD 8 (.Pass ⟨0, 0, 0, 0⟩)))), MkOk X 6 ["_law_x"] (tR K CR) e := by
  subst hP hw hK hm hb
  obtain ⟨C, f0, fd, D, cD⟩ := R.doc
  exact all2 (d := .Name "" ⟨0, 0, 0, 0⟩) rfl ((lam_law_rule_calls_8_0 R.c20).ok hs hq) ((lam_law_rule_calls_8_1 R.c21).ok hs hq)
theorem mk_law_rule_calls_9 (B : Blt mg) (R : Callees_law_rule_calls P w K mg base CR) {X : Cx} (hP : X.prog = P) (hw : X.w = w) (hK : X.K = K) (hm : X.mg = mg) (hb : X.base = base) (hs : X.env.scope = defScope s_law_rule_calls) (hq : X.env.qual ++ "<lambda>" = ((("_law_rule_calls" : Str) ++ ".<locals>.") ++ "<lambda>")) : ∀ e ∈ (lamsOf (stE ((defBody s_law_rule_calls).getD 9 (.Pass ⟨0, 0, 0, 0⟩)))), MkOk X 6 ["_law_x"] (tR K CR) e := by
  subst hP hw hK hm hb
  obtain ⟨C, f0, fd, D, cD⟩ := R.doc
  exact all3 (d := .Name "" ⟨0, 0, 0, 0⟩) rfl ((lam_law_rule_calls_9_0 R.c22).ok hs hq) ((lam_law_rule_calls_9_1 R.c23).ok hs hq) ((lam_law_rule_calls_9_2 D cD).ok hs hq)
theorem sc_law_rule_calls : FnScope ["_law_x", "_law_found"] ["_law_x"] (defScope s_law_rule_calls) := ⟨rfl, rfl, rfl, by decide +kernel, rfl, by decide +kernel, by decide +kernel⟩
def sp_law_rule_calls (P : Program) (w : World) (K : PySem.W.Frag) (mg : Str → Option Value) (base : Heap) (CR : Addr) (T : List (Addr × Str)) : Sp := fun vs H Q _ => ∃ (x : V) (d : PyData), vs = [x] ∧ Dp K H x d ∧ ruleD d = false ∧ Tabs T H ∧
  ∀ (H1 : Hp) (L : Addr) (fs : List Addr), ExtN H H1 → Tabs T H1 → H1 L = some (.lst (fs.map V.ref)) → fs.length ≤ 900 → (∀ f ∈ fs, ∀ (H2 : Hp) (E : XK), ExtN H1 H2 → Rz CR H2 E → CloOk P w K mg base 7 f H2 (fun _ _ => False) E) → Q (.ref L) H1
theorem ok_law_rule_calls (B : Blt mg) (R : Callees_law_rule_calls P w K mg base CR) {T : List (Addr × Str)} {f c Pt : Addr} {oc : Value} {od an : Option Addr} {osl : Array (Option Value)} {kV doc pm ct : Value} (TB : TabB base mg c Pt) (hmT : (Pt, ((("_law_rule_calls" : Str) ++ ".<locals>.") ++ "<lambda>")) ∈ T) (hu : ∀ p ∈ T, p.1 = Pt → p.2 = ((("_law_rule_calls" : Str) ++ ".<locals>.") ++ "<lambda>"))
    (lk : K.lookup f = some ⟨oc, od, .func (PySem.W.fnOf "_law_rule_calls" "_law_rule_calls" (defArgs s_law_rule_calls) (defBody s_law_rule_calls) (defScope s_law_rule_calls) .none kV doc pm an (.ref c) ct), osl⟩) (hcd : PySem.W.codeIn K (.ref c) "_law_rule_calls" = true) :
    FnOk P w K mg base CX0 1 f (PySem.W.fnOf "_law_rule_calls" "_law_rule_calls" (defArgs s_law_rule_calls) (defBody s_law_rule_calls) (defScope s_law_rule_calls) .none kV doc pm an (.ref c) ct) ["_law_x"] (sp_law_rule_calls P w K mg base CR T) := by
  refine maker_ok [(0, "_law_x")] lk hcd sc_law_rule_calls (by decide +kernel) (by decide) (fun vs H Q E h => ?_) fun A outer s H vs Q E hr h => ?_
  · obtain ⟨x, d, rfl, _⟩ := h
    rfl
  · obtain ⟨x, d, rfl, dp, bad, hT, q⟩ := h
    have pa0 := pa_lams (X := cxOf CX0 P w K mg base ["_law_x", "_law_found"] "_law_rule_calls" (defScope s_law_rule_calls) f (.ref c) A outer s H E) TB rfl hmT hu (lamsOf (stE ((defBody s_law_rule_calls).getD 0 (.Pass ⟨0, 0, 0, 0⟩)))) (by decide +kernel) (mk_law_rule_calls_0 (X := cxOf CX0 P w K mg base ["_law_x", "_law_found"] "_law_rule_calls" (defScope s_law_rule_calls) f (.ref c) A outer s H E) B R rfl rfl rfl rfl rfl rfl rfl)
    have pa1 := pa_lams (X := cxOf CX0 P w K mg base ["_law_x", "_law_found"] "_law_rule_calls" (defScope s_law_rule_calls) f (.ref c) A outer s H E) TB rfl hmT hu (lamsOf (stE ((defBody s_law_rule_calls).getD 1 (.Pass ⟨0, 0, 0, 0⟩)))) (by decide +kernel) (mk_law_rule_calls_1 (X := cxOf CX0 P w K mg base ["_law_x", "_law_found"] "_law_rule_calls" (defScope s_law_rule_calls) f (.ref c) A outer s H E) B R rfl rfl rfl rfl rfl rfl rfl)
    have pa2 := pa_lams (X := cxOf CX0 P w K mg base ["_law_x", "_law_found"] "_law_rule_calls" (defScope s_law_rule_calls) f (.ref c) A outer s H E) TB rfl hmT hu (lamsOf (stE ((defBody s_law_rule_calls).getD 2 (.Pass ⟨0, 0, 0, 0⟩)))) (by decide +kernel) (mk_law_rule_calls_2 (X := cxOf CX0 P w K mg base ["_law_x", "_law_found"] "_law_rule_calls" (defScope s_law_rule_calls) f (.ref c) A outer s H E) B R rfl rfl rfl rfl rfl rfl rfl)
    have pa3 := pa_lams (X := cxOf CX0 P w K mg base ["_law_x", "_law_found"] "_law_rule_calls" (defScope s_law_rule_calls) f (.ref c) A outer s H E) TB rfl hmT hu (lamsOf (stE ((defBody s_law_rule_calls).getD 3 (.Pass ⟨0, 0, 0, 0⟩)))) (by decide +kernel) (mk_law_rule_calls_3 (X := cxOf CX0 P w K mg base ["_law_x", "_law_found"] "_law_rule_calls" (defScope s_law_rule_calls) f (.ref c) A outer s H E) B R rfl rfl rfl rfl rfl rfl rfl)
    have pa4 := pa_lams (X := cxOf CX0 P w K mg base ["_law_x", "_law_found"] "_law_rule_calls" (defScope s_law_rule_calls) f (.ref c) A outer s H E) TB rfl hmT hu (lamsOf (stE ((defBody s_law_rule_calls).getD 4 (.Pass ⟨0, 0, 0, 0⟩)))) (by decide +kernel) (mk_law_rule_calls_4 (X := cxOf CX0 P w K mg base ["_law_x", "_law_found"] "_law_rule_calls" (defScope s_law_rule_calls) f (.ref c) A outer s H E) B R rfl rfl rfl rfl rfl rfl rfl)
    have pa5 := pa_lams (X := cxOf CX0 P w K mg base ["_law_x", "_law_found"] "_law_rule_calls" (defScope s_law_rule_calls) f (.ref c) A outer s H E) TB rfl hmT hu (lamsOf (stE ((defBody s_law_rule_calls).getD 5 (.Pass ⟨0, 0, 0, 0⟩)))) (by decide +kernel) (mk_law_rule_calls_5 (X := cxOf CX0 P w K mg base ["_law_x", "_law_found"] "_law_rule_calls" (defScope s_law_rule_calls) f (.ref c) A outer s H E) B R rfl rfl rfl rfl rfl rfl rfl)
    have pa6 := pa_lams (X := cxOf CX0 P w K mg base ["_law_x", "_law_found"] "_law_rule_calls" (defScope s_law_rule_calls) f (.ref c) A outer s H E) TB rfl hmT hu (lamsOf (stE ((defBody s_law_rule_calls).getD 6 (.Pass ⟨0, 0, 0, 0⟩)))) (by decide +kernel) (mk_law_rule_calls_6 (X := cxOf CX0 P w K mg base ["_law_x", "_law_found"] "_law_rule_calls" (defScope s_law_rule_calls) f (.ref c) A outer s H E) B R rfl rfl rfl rfl rfl rfl rfl)
    have pa7 := pa_lams (X := cxOf CX0 P w K mg base ["_law_x", "_law_found"] "_law_rule_calls" (defScope s_law_rule_calls) f (.ref c) A outer s H E) TB rfl hmT hu (lamsOf (stE ((defBody s_law_rule_calls).getD 7 (.Pass ⟨0, 0, 0, 0⟩)))) (by decide +kernel) (mk_law_rule_calls_7 (X := cxOf CX0 P w K mg base ["_law_x", "_law_found"] "_law_rule_calls" (defScope s_law_rule_calls) f (.ref c) A outer s H E) B R rfl rfl rfl rfl rfl rfl rfl)
    have pa8 := pa_lams (X := cxOf CX0 P w K mg base ["_law_x", "_law_found"] "_law_rule_calls" (defScope s_law_rule_calls) f (.ref c) A outer s H E) TB rfl hmT hu (lamsOf (stE ((defBody s_law_rule_calls).getD 8 (.Pass ⟨0, 0, 0, 0⟩)))) (by decide +kernel) (mk_law_rule_calls_8 (X := cxOf CX0 P w K mg base ["_law_x", "_law_found"] "_law_rule_calls" (defScope s_law_rule_calls) f (.ref c) A outer s H E) B R rfl rfl rfl rfl rfl rfl rfl)
    have pa9 := pa_lams (X := cxOf CX0 P w K mg base ["_law_x", "_law_found"] "_law_rule_calls" (defScope s_law_rule_calls) f (.ref c) A outer s H E) TB rfl hmT hu (lamsOf (stE ((defBody s_law_rule_calls).getD 9 (.Pass ⟨0, 0, 0, 0⟩)))) (by decide +kernel) (mk_law_rule_calls_9 (X := cxOf CX0 P w K mg base ["_law_x", "_law_found"] "_law_rule_calls" (defScope s_law_rule_calls) f (.ref c) A outer s H E) B R rfl rfl rfl rfl rfl rfl rfl)
    refine ⟨_, psg_cons (ps_set (i := 1) sc_law_rule_calls.nd rfl (Or.inl rfl) (pe_lst pa0))
      (psg_cons (ps_set (i := 1) sc_law_rule_calls.nd rfl (Or.inl rfl) (pe_op op_cat (pv 1) (pe_lst pa1)))
      (psg_cons (ps_set (i := 1) sc_law_rule_calls.nd rfl (Or.inl rfl) (pe_op op_cat (pv 1) (pe_lst pa2)))
      (psg_cons (ps_set (i := 1) sc_law_rule_calls.nd rfl (Or.inl rfl) (pe_op op_cat (pv 1) (pe_lst pa3)))
      (psg_cons (ps_set (i := 1) sc_law_rule_calls.nd rfl (Or.inl rfl) (pe_op op_cat (pv 1) (pe_lst pa4)))
      (psg_cons (ps_set (i := 1) sc_law_rule_calls.nd rfl (Or.inl rfl) (pe_op op_cat (pv 1) (pe_lst pa5)))
      (psg_cons (ps_set (i := 1) sc_law_rule_calls.nd rfl (Or.inl rfl) (pe_op op_cat (pv 1) (pe_lst pa6)))
      (psg_cons (ps_set (i := 1) sc_law_rule_calls.nd rfl (Or.inl rfl) (pe_op op_cat (pv 1) (pe_lst pa7)))
      (psg_cons (ps_set (i := 1) sc_law_rule_calls.nd rfl (Or.inl rfl) (pe_op op_cat (pv 1) (pe_lst pa8)))
      (psg_ret (pe_op op_cat (pv 1) (pe_lst pa9))))))))))), ?_⟩
    refine lams_first hT fun p1 fs1 H1 x1 g1 => ?_
    refine lams_more rfl g1 (by decide) fun p2 fs2 H2 x2 g2 => ?_
    refine lams_more rfl g2 (by decide) fun p3 fs3 H3 x3 g3 => ?_
    refine lams_more rfl g3 (by decide) fun p4 fs4 H4 x4 g4 => ?_
    refine lams_more rfl g4 (by decide) fun p5 fs5 H5 x5 g5 => ?_
    refine lams_more rfl g5 (by decide) fun p6 fs6 H6 x6 g6 => ?_
    refine lams_more rfl g6 (by decide) fun p7 fs7 H7 x7 g7 => ?_
    refine lams_more rfl g7 (by decide) fun p8 fs8 H8 x8 g8 => ?_
    refine lams_more rfl g8 (by decide) fun p9 fs9 H9 x9 g9 => ?_
    refine lams_more rfl g9 (by decide) fun p10 fs10 H10 x10 g10 => ?_
    have xx : ExtN H H10 := (((((((((x1.trans x2).trans x3).trans x4).trans x5).trans x6).trans x7).trans x8).trans x9).trans x10)
    refine ⟨x, rfl, fun C hC nC inj => ?_⟩
    have xC : ExtN H10 (upd H10 C (CellO C x)) := extN_new nC
    refine q _ p10 fs10 (xx.trans xC) (tabs_new g10.tabs nC) (xC _ _ g10.at_ fun ps z => nomatch z) (Nat.le_trans g10.len (by decide)) fun f hf H2 E2 e2 r2 => ?_
    refine ((g10.made f hf).ext (xC.trans e2)).clo (σ := [some x]) (by decide) rfl inj (fun i y hi => ?_) (fun cs ac => ?_)
    · match i, hi with
      | 0, hi =>
        cases hi
        exact ⟨C, x, hC, rfl, e2 _ _ upd_same fun ps => cellO_ne ps⟩
      | i + 1, hi => cases hi
    · exact ⟨x, d, rfl, dp_move (seqs_hide ac) (dp_move (seqs_ext ((xx.trans xC).trans e2)) dp), bad, rz_back r2⟩
/-- the promises that its lambdas lean on -/
structure Callees_law_log_calls (P : Program) (w : World) (K : PySem.W.Frag) (mg : Str → Option Value) (base : Heap) (CL : Addr) : Prop where
  c0 : CalR P w K mg base 4 "unsaved" (spL K CL 1)
  c1 : CalR P w K mg base 4 "lost" (spL K CL 1)
  c2 : CalR P w K mg base 4 "saves" (spL K CL 0)
  c3 : CalR P w K mg base 4 "saves_until" (spL K CL 1)
  c4 : GenX P w K mg base 3 "walk" (spL K CL 0)
  c5 : CalR P w K mg base 4 "total_saves" (spLT K CL)
  c6 : CalR P w K mg base 4 "most_unsaved" (spL K CL 0)
  c7 : CalR P w K mg base 4 "least_unsaved" (spLF K CL 1)
  c8 : CalR P w K mg base 4 "longest_idle" (spLF K CL 2)
  c9 : CalR P w K mg base 4 "fewest_saves" (spLF K CL 1)
  c10 : CalR P w K mg base 4 "best_rule" (spLF K CL 1)
  c11 : CalR P w K mg base 4 "fitting_rules" (spLF K CL 1)
  c12 : CalR P w K mg base 4 "fitting_by_losses" (spLF K CL 1)
  c13 : CalR P w K mg base 4 "wrong_losses" (spLF K CL 1)
  c14 : CalR P w K mg base 5 "changed_saves" (spL K CL 1)
  c15 : CalR P w K mg base 5 "alike_from" (spL K CL 1)
theorem mk_law_log_calls_1 (B : Blt mg) (R : Callees_law_log_calls P w K mg base CL) {X : Cx} (hP : X.prog = P) (hw : X.w = w) (hK : X.K = K) (hm : X.mg = mg) (hb : X.base = base) (hs : X.env.scope = defScope s_law_log_calls) (hq : X.env.qual ++ "<lambda>" = ((("_law_log_calls" : Str) ++ ".<locals>.") ++ "<lambda>")) : ∀ e ∈ (lamsOf (stE ((defBody s_law_log_calls).getD 1 (.Pass ⟨0, 0, 0, 0⟩)))), MkOk X 6 ["_law_rule_here", "_law_x"] (tL K CL) e := by
  subst hP hw hK hm hb
  exact all3 (d := .Name "" ⟨0, 0, 0, 0⟩) rfl ((lam_law_log_calls_1_0 R.c0).ok hs hq) ((lam_law_log_calls_1_1 R.c1).ok hs hq) ((lam_law_log_calls_1_2 R.c2).ok hs hq)
theorem mk_law_log_calls_2 (B : Blt mg) (R : Callees_law_log_calls P w K mg base CL) {X : Cx} (hP : X.prog = P) (hw : X.w = w) (hK : X.K = K) (hm : X.mg = mg) (hb : X.base = base) (hs : X.env.scope = defScope s_law_log_calls) (hq : X.env.qual ++ "<lambda>" = ((("_law_log_calls" : Str) ++ ".<locals>.") ++ "<lambda>")) : ∀ e ∈ (lamsOf (stE ((defBody s_law_log_calls).getD 2 (.Pass ⟨0, 0, 0, 0⟩)))), MkOk X 6 ["_law_rule_here", "_law_x"] (tL K CL) e := by
  subst hP hw hK hm hb
  exact all3 (d := .Name "" ⟨0, 0, 0, 0⟩) rfl ((lam_law_log_calls_2_0 R.c3).ok hs hq) ((lam_law_log_calls_2_1 B R.c4).ok hs hq) ((lam_law_log_calls_2_2 R.c5).ok hs hq)
theorem mk_law_log_calls_3 (B : Blt mg) (R : Callees_law_log_calls P w K mg base CL) {X : Cx} (hP : X.prog = P) (hw : X.w = w) (hK : X.K = K) (hm : X.mg = mg) (hb : X.base = base) (hs : X.env.scope = defScope s_law_log_calls) (hq : X.env.qual ++ "<lambda>" = ((("_law_log_calls" : Str) ++ ".<locals>.") ++ "<lambda>")) : ∀ e ∈ (lamsOf (stE ((defBody s_law_log_calls).getD 3 (.Pass ⟨0, 0, 0, 0⟩)))), MkOk X 6 ["_law_rule_here", "_law_x"] (tL K CL) e := by
  subst hP hw hK hm hb
  exact all3 (d := .Name "" ⟨0, 0, 0, 0⟩) rfl ((lam_law_log_calls_3_0 R.c6).ok hs hq) ((lam_law_log_calls_3_1 R.c7).ok hs hq) ((lam_law_log_calls_3_2 R.c8).ok hs hq)
theorem mk_law_log_calls_4 (B : Blt mg) (R : Callees_law_log_calls P w K mg base CL) {X : Cx} (hP : X.prog = P) (hw : X.w = w) (hK : X.K = K) (hm : X.mg = mg) (hb : X.base = base) (hs : X.env.scope = defScope s_law_log_calls) (hq : X.env.qual ++ "<lambda>" = ((("_law_log_calls" : Str) ++ ".<locals>.") ++ "<lambda>")) : ∀ e ∈ (lamsOf (stE ((defBody s_law_log_calls).getD 4 (.Pass ⟨0, 0, 0, 0⟩)))), MkOk X 6 ["_law_rule_here", "_law_x"] (tL K CL) e := by
  subst hP hw hK hm hb
  exact all3 (d := .Name "" ⟨0, 0, 0, 0⟩) rfl ((lam_law_log_calls_4_0 R.c9).ok hs hq) ((lam_law_log_calls_4_1 R.c10).ok hs hq) ((lam_law_log_calls_4_2 R.c11).ok hs hq)
theorem mk_law_log_calls_5 (B : Blt mg) (R : Callees_law_log_calls P w K mg base CL) {X : Cx} (hP : X.prog = P) (hw : X.w = w) (hK : X.K = K) (hm : X.mg = mg) (hb : X.base = base) (hs : X.env.scope = defScope s_law_log_calls) (hq : X.env.qual ++ "<lambda>" = ((("_law_log_calls" : Str) ++ ".<locals>.") ++ "<lambda>")) : ∀ e ∈ (lamsOf (stE ((defBody s_law_log_calls).getD 5 (.Pass ⟨0, 0, 0, 0⟩)))), MkOk X 6 ["_law_rule_here", "_law_x"] (tL K CL) e := by
  subst hP hw hK hm hb
  exact all2 (d := .Name "" ⟨0, 0, 0, 0⟩) rfl ((lam_law_log_calls_5_0 R.c12).ok hs hq) ((lam_law_log_calls_5_1 R.c13).ok hs hq)
theorem mk_law_log_calls_6 (B : Blt mg) (R : Callees_law_log_calls P w K mg base CL) {X : Cx} (hP : X.prog = P) (hw : X.w = w) (hK : X.K = K) (hm : X.mg = mg) (hb : X.base = base) (hs : X.env.scope = defScope s_law_log_calls) (hq : X.env.qual ++ "<lambda>" = ((("_law_log_calls" : Str) ++ ".<locals>.") ++ "<lambda>")) : ∀ e ∈ (lamsOf (stE ((defBody s_law_log_calls).getD 6 (.Pass ⟨0, 0, 0, 0⟩)))), MkOk X 6 ["_law_rule_here", "_law_x"] (tL K CL) e := by
  subst hP hw hK hm hb
  exact all2 (d := .Name "" ⟨0, 0, 0, 0⟩) rfl ((lam_law_log_calls_6_0 R.c14).ok hs hq) ((lam_law_log_calls_6_1 R.c15).ok hs hq)
theorem sc_law_log_calls : FnScope ["_law_x", "_law_rule_here", "_law_found"] ["_law_x"] (defScope s_law_log_calls) := ⟨rfl, rfl, rfl, by decide +kernel, rfl, by decide +kernel, by decide +kernel⟩
def sp_law_log_calls (P : Program) (w : World) (K : PySem.W.Frag) (mg : Str → Option Value) (base : Heap) (CL : Addr) (T : List (Addr × Str)) : Sp := fun vs H Q _ => ∃ (x : V) (d : PyData), vs = [x] ∧ Dp K H x d ∧ logD d = false ∧ Tabs T H ∧
  ∀ (H1 : Hp) (L : Addr) (fs : List Addr), ExtN H H1 → Tabs T H1 → H1 L = some (.lst (fs.map V.ref)) → fs.length ≤ 900 → (∀ f ∈ fs, ∀ (H2 : Hp) (E : XK), ExtN H1 H2 → Rz CL H2 E → CloOk P w K mg base 7 f H2 (fun _ _ => False) E) → Q (.ref L) H1
theorem ok_law_log_calls (B : Blt mg) (R : Callees_law_log_calls P w K mg base CL) {T : List (Addr × Str)} {f c Pt : Addr} {oc : Value} {od an : Option Addr} {osl : Array (Option Value)} {kV doc pm ct : Value} (TB : TabB base mg c Pt) (hmT : (Pt, ((("_law_log_calls" : Str) ++ ".<locals>.") ++ "<lambda>")) ∈ T) (hu : ∀ p ∈ T, p.1 = Pt → p.2 = ((("_law_log_calls" : Str) ++ ".<locals>.") ++ "<lambda>"))
    (lk : K.lookup f = some ⟨oc, od, .func (PySem.W.fnOf "_law_log_calls" "_law_log_calls" (defArgs s_law_log_calls) (defBody s_law_log_calls) (defScope s_law_log_calls) .none kV doc pm an (.ref c) ct), osl⟩) (hcd : PySem.W.codeIn K (.ref c) "_law_log_calls" = true) :
    FnOk P w K mg base CX0 1 f (PySem.W.fnOf "_law_log_calls" "_law_log_calls" (defArgs s_law_log_calls) (defBody s_law_log_calls) (defScope s_law_log_calls) .none kV doc pm an (.ref c) ct) ["_law_x"] (sp_law_log_calls P w K mg base CL T) := by
  refine maker_ok [(1, "_law_rule_here"), (0, "_law_x")] lk hcd sc_law_log_calls (by decide +kernel) (by decide) (fun vs H Q E h => ?_) fun A outer s H vs Q E hr h => ?_
  · obtain ⟨x, d, rfl, _⟩ := h
    rfl
  · obtain ⟨x, d, rfl, dp, bad, hT, q⟩ := h
    have pa1 := pa_lams (X := cxOf CX0 P w K mg base ["_law_x", "_law_rule_here", "_law_found"] "_law_log_calls" (defScope s_law_log_calls) f (.ref c) A outer s H E) TB rfl hmT hu (lamsOf (stE ((defBody s_law_log_calls).getD 1 (.Pass ⟨0, 0, 0, 0⟩)))) (by decide +kernel) (mk_law_log_calls_1 (X := cxOf CX0 P w K mg base ["_law_x", "_law_rule_here", "_law_found"] "_law_log_calls" (defScope s_law_log_calls) f (.ref c) A outer s H E) B R rfl rfl rfl rfl rfl rfl rfl)
    have pa2 := pa_lams (X := cxOf CX0 P w K mg base ["_law_x", "_law_rule_here", "_law_found"] "_law_log_calls" (defScope s_law_log_calls) f (.ref c) A outer s H E) TB rfl hmT hu (lamsOf (stE ((defBody s_law_log_calls).getD 2 (.Pass ⟨0, 0, 0, 0⟩)))) (by decide +kernel) (mk_law_log_calls_2 (X := cxOf CX0 P w K mg base ["_law_x", "_law_rule_here", "_law_found"] "_law_log_calls" (defScope s_law_log_calls) f (.ref c) A outer s H E) B R rfl rfl rfl rfl rfl rfl rfl)
    have pa3 := pa_lams (X := cxOf CX0 P w K mg base ["_law_x", "_law_rule_here", "_law_found"] "_law_log_calls" (defScope s_law_log_calls) f (.ref c) A outer s H E) TB rfl hmT hu (lamsOf (stE ((defBody s_law_log_calls).getD 3 (.Pass ⟨0, 0, 0, 0⟩)))) (by decide +kernel) (mk_law_log_calls_3 (X := cxOf CX0 P w K mg base ["_law_x", "_law_rule_here", "_law_found"] "_law_log_calls" (defScope s_law_log_calls) f (.ref c) A outer s H E) B R rfl rfl rfl rfl rfl rfl rfl)
    have pa4 := pa_lams (X := cxOf CX0 P w K mg base ["_law_x", "_law_rule_here", "_law_found"] "_law_log_calls" (defScope s_law_log_calls) f (.ref c) A outer s H E) TB rfl hmT hu (lamsOf (stE ((defBody s_law_log_calls).getD 4 (.Pass ⟨0, 0, 0, 0⟩)))) (by decide +kernel) (mk_law_log_calls_4 (X := cxOf CX0 P w K mg base ["_law_x", "_law_rule_here", "_law_found"] "_law_log_calls" (defScope s_law_log_calls) f (.ref c) A outer s H E) B R rfl rfl rfl rfl rfl rfl rfl)
    have pa5 := pa_lams (X := cxOf CX0 P w K mg base ["_law_x", "_law_rule_here", "_law_found"] "_law_log_calls" (defScope s_law_log_calls) f (.ref c) A outer s H E) TB rfl hmT hu (lamsOf (stE ((defBody s_law_log_calls).getD 5 (.Pass ⟨0, 0, 0, 0⟩)))) (by decide +kernel) (mk_law_log_calls_5 (X := cxOf CX0 P w K mg base ["_law_x", "_law_rule_here", "_law_found"] "_law_log_calls" (defScope s_law_log_calls) f (.ref c) A outer s H E) B R rfl rfl rfl rfl rfl rfl rfl)
    have pa6 := pa_lams (X := cxOf CX0 P w K mg base ["_law_x", "_law_rule_here", "_law_found"] "_law_log_calls" (defScope s_law_log_calls) f (.ref c) A outer s H E) TB rfl hmT hu (lamsOf (stE ((defBody s_law_log_calls).getD 6 (.Pass ⟨0, 0, 0, 0⟩)))) (by decide +kernel) (mk_law_log_calls_6 (X := cxOf CX0 P w K mg base ["_law_x", "_law_rule_here", "_law_found"] "_law_log_calls" (defScope s_law_log_calls) f (.ref c) A outer s H E) B R rfl rfl rfl rfl rfl rfl rfl)
    refine ⟨_, psg_cons (ps_set (i := 1) sc_law_log_calls.nd rfl (Or.inr rfl) (pe_tup (pa_cons pe_int (pa_cons pe_int pa_nil))))
      (psg_cons (ps_set (i := 2) sc_law_log_calls.nd rfl (Or.inl rfl) (pe_lst pa1))
      (psg_cons (ps_set (i := 2) sc_law_log_calls.nd rfl (Or.inl rfl) (pe_op op_cat (pv 2) (pe_lst pa2)))
      (psg_cons (ps_set (i := 2) sc_law_log_calls.nd rfl (Or.inl rfl) (pe_op op_cat (pv 2) (pe_lst pa3)))
      (psg_cons (ps_set (i := 2) sc_law_log_calls.nd rfl (Or.inl rfl) (pe_op op_cat (pv 2) (pe_lst pa4)))
      (psg_cons (ps_set (i := 2) sc_law_log_calls.nd rfl (Or.inl rfl) (pe_op op_cat (pv 2) (pe_lst pa5)))
      (psg_ret (pe_op op_cat (pv 2) (pe_lst pa6)))))))), ?_⟩
    refine ⟨(by show 2 ≤ sizeLine; decide), fun r hr0 => ?_⟩
    have x0 : ExtN H (upd H r (.tup [.int 2, .int 5])) := extN_new hr0
    have hr1 : (upd H r (.tup [.int 2, .int 5])) r = some (.tup [.int 2, .int 5]) := upd_same
    have hT0 := tabs_new (o := .tup [.int 2, .int 5]) hT hr0
    generalize upd H r (.tup [.int 2, .int 5]) = H0 at x0 hr1 hT0
    refine gName_ok ?_
    dsimp only
    refine asg_ok ?_
    refine lams_first hT0 fun p1 fs1 H1 x1 g1 => ?_
    refine lams_more rfl g1 (by decide) fun p2 fs2 H2 x2 g2 => ?_
    refine lams_more rfl g2 (by decide) fun p3 fs3 H3 x3 g3 => ?_
    refine lams_more rfl g3 (by decide) fun p4 fs4 H4 x4 g4 => ?_
    refine lams_more rfl g4 (by decide) fun p5 fs5 H5 x5 g5 => ?_
    refine lams_more rfl g5 (by decide) fun p6 fs6 H6 x6 g6 => ?_
    have xx : ExtN H H6 := ((((((x0.trans x1).trans x2).trans x3).trans x4).trans x5).trans x6)
    have xr : ExtN H0 H6 := (((((x1.trans x2).trans x3).trans x4).trans x5).trans x6)
    refine ⟨.ref r, rfl, fun Cr hCr nCr => ⟨x, rfl, fun C hC nC inj => ?_⟩⟩
    have xC : ExtN H6 (upd (upd H6 Cr (CellO Cr (.ref r))) C (CellO C x)) := (extN_new nCr).trans (extN_new nC)
    refine q _ p6 fs6 (xx.trans xC) (tabs_new (tabs_new g6.tabs nCr) nC) (xC _ _ g6.at_ fun ps z => nomatch z) (Nat.le_trans g6.len (by decide)) fun f hf H2 E2 e2 r2 => ?_
    refine ((g6.made f hf).ext (xC.trans e2)).clo (σ := [some (.ref r), some x]) (by decide) rfl inj (fun i y hi => ?_) (fun cs ac => ?_)
    · match i, hi with
      | 0, hi =>
        cases hi
        exact ⟨Cr, .ref r, hCr, rfl, e2 _ _ (by rw [upd_ne (ne_of_none upd_same nC)]; exact upd_same) fun ps => cellO_ne ps⟩
      | 1, hi =>
        cases hi
        exact ⟨C, x, hC, rfl, e2 _ _ upd_same fun ps => cellO_ne ps⟩
      | i + 2, hi => cases hi
    · exact ⟨.ref r, x, .tuple [.int 2, .int 5], d, rfl, dp_move (seqs_hide ac) (dp_move (seqs_ext ((xr.trans xC).trans e2)) (.tup (sqT_of hr1) (.cons (.int _) (.cons (.int _) .nil)))), rfl, dp_move (seqs_hide ac) (dp_move (seqs_ext ((xx.trans xC).trans e2)) dp), bad, rz_back r2⟩
end
end Au
set_option maxHeartbeats 4000000
/-! The name of an error. -/
namespace Au
open PySem PySem.Spec PyProof.Rows L2 L2H HotX AuH
abbrev s_law_error : Stmt := topS 87
abbrev N_law_error : List Str := ["_law_e", "_law_some", "_law_words", "_law_word", "_law_good"]
theorem sc_law_error : FnScope N_law_error ["_law_e"] (defScope s_law_error) := ⟨rfl, rfl, rfl, by decide +kernel, rfl, by decide +kernel, by decide +kernel⟩
/-- whether an error of the class D is one of the class named n -/
structure KitC (K : PySem.W.Frag) (mg : Str → Option Value) (D : Addr) (n : Str) (b : Bool) : Prop where
  ex : ∃ c : Addr, mg n = some (.ref c) ∧ PySem.W.kitOne K (.ref D) (.ref c) = some b
def words8 : List Str := ["InvalidRule", "InvalidLog", "InvalidTime", "InvalidNumber", "InvalidIndex", "InvalidSeen", "NothingToUndo", "TooMany"]
def sel (l : List (Str × Bool)) : List Str := (l.filter (·.2)).map (·.1)
theorem sel_more {l : List (Str × Bool)} {i : Nat} {x : Str} {b : Bool} (h : l[i]? = some (x, b)) : sel (l.take (i + 1)) = sel (l.take i) ++ (if b = true then [x] else []) := by
  unfold sel
  rw [List.take_add_one, h, List.filter_append, List.map_append]
  cases b <;> rfl
structure CalE (P : Program) (w : World) (K : PySem.W.Frag) (mg : Str → Option Value) (base : Heap) (k : Nat) (x : Str) (ps : List Str) (sp : Addr × Obj → List V → Hp → VK → Prop) : Prop where
  ex : ∃ (f : Addr) (fd : FuncData), FnE P w K mg base k f fd ps sp ∧ mg x = some (.ref f) ∧ PySem.W.keepIn K (.ref f) = true ∧ Binds K fd ps []
def spErr (D : Addr) (word : Str) : Addr × Obj → List V → Hp → VK → Prop := fun p vs H Q => vs = [.ref p.1] ∧ Zc (.ref D) none p.2 ∧ (∃ fs, p.2.data = .fields fs) ∧ ∀ H2, Same H H2 → Q (.str word) H2
section
variable {P : Program} {w : World} {K : PySem.W.Frag} {mg : Str → Option Value} {base : Heap}
theorem same_seqL {K : PySem.W.Frag} {H H2 : Hp} {a : Addr} {xs : List V} (e : Same H H2) (h : SqL K H a xs) : SqL K H2 a xs := by
  rcases h with (h | ⟨o, h⟩) | h
  · exact .inl (.inl (e _ _ h))
  · exact .inl (.inr ⟨o, e _ _ h⟩)
  · exact .inr h
theorem relRef {c : Addr} {u : Value} (r : RelV (.ref c) u) : u = .ref c := r
theorem err_law_error (B : Blt mg) (D' : DefT K mg "_law_error" s_law_error ["_law_e"]) {D : Addr} (EC : ExcC K D) {word : Str} {b0 : Bool} (k0 : KitC K mg D "InvalidRule" b0) {b1 : Bool} (k1 : KitC K mg D "InvalidLog" b1) {b2 : Bool} (k2 : KitC K mg D "InvalidTime" b2) {b3 : Bool} (k3 : KitC K mg D "InvalidNumber" b3) {b4 : Bool} (k4 : KitC K mg D "InvalidIndex" b4) {b5 : Bool} (k5 : KitC K mg D "InvalidSeen" b5) {b6 : Bool} (k6 : KitC K mg D "NothingToUndo" b6) {b7 : Bool} (k7 : KitC K mg D "TooMany" b7)
    (hw : Txt.join "" (sel (words8.zip [b0, b1, b2, b3, b4, b5, b6, b7])) = word) (hs : ((sel (words8.zip [b0, b1, b2, b3, b4, b5, b6, b7])).map (·.length)).sum ≤ 16777216) : CalE P w K mg base 1 "_law_error" ["_law_e"] (spErr D word) := by
  obtain ⟨f, fd, F, hm, b⟩ := D'.ex
  refine ⟨f, fd, fnE_of F sc_law_error (fun p vs H Q h => ?_) (fun cdv A outer s H vs Q p hot hr h => ?_), hm, F.kp, b⟩
  · rw [h.1]
    rfl
  · obtain ⟨rfl, hz, hf, q⟩ := h
    obtain ⟨c0, g0, e0⟩ := k0.ex
    obtain ⟨c1, g1, e1⟩ := k1.ex
    obtain ⟨c2, g2, e2⟩ := k2.ex
    obtain ⟨c3, g3, e3⟩ := k3.ex
    obtain ⟨c4, g4, e4⟩ := k4.ex
    obtain ⟨c5, g5, e5⟩ := k5.ex
    obtain ⟨c6, g6, e6⟩ := k6.ex
    obtain ⟨c7, g7, e7⟩ := k7.ex
    refine ⟨_, pss_cons (ps_set (i := 1) sc_law_error.nd rfl (Or.inl rfl) (pe_lst (pa_cons (pe_callB (call_isP (oe := p.2) EC (List.mem_singleton.mpr rfl) hz hf) (by rfl) B.m_isinstance (by decide +kernel) (pa_cons (pv 0) (pa_cons (pe_glob (v := .ref c0) (by rfl) g0 rfl) pa_nil))) (pa_cons (pe_callB (call_isP (oe := p.2) EC (List.mem_singleton.mpr rfl) hz hf) (by rfl) B.m_isinstance (by decide +kernel) (pa_cons (pv 0) (pa_cons (pe_glob (v := .ref c1) (by rfl) g1 rfl) pa_nil))) (pa_cons (pe_callB (call_isP (oe := p.2) EC (List.mem_singleton.mpr rfl) hz hf) (by rfl) B.m_isinstance (by decide +kernel) (pa_cons (pv 0) (pa_cons (pe_glob (v := .ref c2) (by rfl) g2 rfl) pa_nil))) pa_nil)))))
        (pss_cons (ps_set (i := 1) sc_law_error.nd rfl (Or.inl rfl) (pe_op op_cat (pv 1) (pe_lst (pa_cons (pe_callB (call_isP (oe := p.2) EC (List.mem_singleton.mpr rfl) hz hf) (by rfl) B.m_isinstance (by decide +kernel) (pa_cons (pv 0) (pa_cons (pe_glob (v := .ref c3) (by rfl) g3 rfl) pa_nil))) (pa_cons (pe_callB (call_isP (oe := p.2) EC (List.mem_singleton.mpr rfl) hz hf) (by rfl) B.m_isinstance (by decide +kernel) (pa_cons (pv 0) (pa_cons (pe_glob (v := .ref c4) (by rfl) g4 rfl) pa_nil))) (pa_cons (pe_callB (call_isP (oe := p.2) EC (List.mem_singleton.mpr rfl) hz hf) (by rfl) B.m_isinstance (by decide +kernel) (pa_cons (pv 0) (pa_cons (pe_glob (v := .ref c5) (by rfl) g5 rfl) pa_nil))) pa_nil))))))
        (pss_cons (ps_set (i := 1) sc_law_error.nd rfl (Or.inl rfl) (pe_op op_cat (pv 1) (pe_lst (pa_cons (pe_callB (call_isP (oe := p.2) EC (List.mem_singleton.mpr rfl) hz hf) (by rfl) B.m_isinstance (by decide +kernel) (pa_cons (pv 0) (pa_cons (pe_glob (v := .ref c6) (by rfl) g6 rfl) pa_nil))) (pa_cons (pe_callB (call_isP (oe := p.2) EC (List.mem_singleton.mpr rfl) hz hf) (by rfl) B.m_isinstance (by decide +kernel) (pa_cons (pv 0) (pa_cons (pe_glob (v := .ref c7) (by rfl) g7 rfl) pa_nil))) pa_nil)))))
        (pss_cons (ps_set (i := 2) sc_law_error.nd rfl (Or.inl rfl) (pe_lst (pa_cons pe_str (pa_cons pe_str (pa_cons pe_str (pa_cons pe_str (pa_cons pe_str (pa_cons pe_str pa_nil))))))))
        (pss_cons (ps_set (i := 2) sc_law_error.nd rfl (Or.inl rfl) (pe_op op_cat (pv 2) (pe_lst (pa_cons pe_str (pa_cons pe_str pa_nil)))))
        (pss_one (ps_ret (pe_join pe_str (pe_lcH (own := [("_law_word", 3), ("_law_good", 4)]) (g := gTup K 2 (gCons (gName 3) (gCons (gName 4) gNil))) ⟨p, hot, List.mem_singleton.mpr rfl⟩ sc_law_error.nd (pi_zipH (by rfl) B.m_zip (pa_cons (pv 2) (pa_cons (pv 1) pa_nil))) (blkOk_by (N := N_law_error) (sc := defScope s_law_error) (by decide +kernel)) (fun _ _ _ _ _ => pg_tupH ⟨p, hot, List.mem_singleton.mpr rfl⟩ (pgs_cons (pg_name (i := 3) sc_law_error.nd rfl (Or.inl rfl)) (pgs_cons (pg_name (i := 4) sc_law_error.nd rfl (Or.inl rfl)) pgs_nil))) (fun _ _ _ _ _ => pts_one (pt_val (pv 4))) (fun _ _ _ _ _ => pv 3))))))))), ?_⟩
    refine ⟨_, rfl, _, _, b0, rfl, (fun _ r => relRef r), e0, _, rfl, _, _, b1, rfl, (fun _ r => relRef r), e1, _, rfl, _, _, b2, rfl, (fun _ r => relRef r), e2, (by show 3 ≤ sizeLine; decide), fun p1 n1 => ?_⟩
    have h1 := @upd_same H p1 (.lst [.bl b0, .bl b1, .bl b2])
    have s1 := @same_new H p1 (.lst [.bl b0, .bl b1, .bl b2]) n1
    generalize upd H p1 (.lst [.bl b0, .bl b1, .bl b2]) = H1 at h1 s1 ⊢
    refine ⟨_, rfl, _, rfl, _, _, b3, rfl, (fun _ r => relRef r), e3, _, rfl, _, _, b4, rfl, (fun _ r => relRef r), e4, _, rfl, _, _, b5, rfl, (fun _ r => relRef r), e5, (by show 3 ≤ sizeLine; decide), fun p2 n2 => ⟨p1, p2, _, _, rfl, rfl, same_new n2 _ _ h1, upd_same, (by show 3 + 3 ≤ sizeLine; decide), fun p3 n3 => ?_⟩⟩
    have s3 := s1.trans ((same_new n2).trans (same_new (o := .lst ([.bl b0, .bl b1, .bl b2] ++ [.bl b3, .bl b4, .bl b5])) n3))
    have h3 := @upd_same (upd H1 p2 (.lst [.bl b3, .bl b4, .bl b5])) p3 (.lst ([.bl b0, .bl b1, .bl b2] ++ [.bl b3, .bl b4, .bl b5]))
    generalize upd (upd H1 p2 (.lst [.bl b3, .bl b4, .bl b5])) p3 (.lst ([.bl b0, .bl b1, .bl b2] ++ [.bl b3, .bl b4, .bl b5])) = H3 at h3 s3 ⊢
    refine ⟨_, rfl, _, rfl, _, _, b6, rfl, (fun _ r => relRef r), e6, _, rfl, _, _, b7, rfl, (fun _ r => relRef r), e7, (by show 2 ≤ sizeLine; decide), fun p4 n4 => ⟨p3, p4, _, _, rfl, rfl, same_new n4 _ _ h3, upd_same, (by show 6 + 2 ≤ sizeLine; decide), fun p5 n5 => ?_⟩⟩
    have s5 := s3.trans ((same_new n4).trans (same_new (o := .lst (([.bl b0, .bl b1, .bl b2] ++ [.bl b3, .bl b4, .bl b5]) ++ [.bl b6, .bl b7])) n5))
    have h5 := @upd_same (upd H3 p4 (.lst [.bl b6, .bl b7])) p5 (.lst (([.bl b0, .bl b1, .bl b2] ++ [.bl b3, .bl b4, .bl b5]) ++ [.bl b6, .bl b7]))
    generalize upd (upd H3 p4 (.lst [.bl b6, .bl b7])) p5 (.lst (([.bl b0, .bl b1, .bl b2] ++ [.bl b3, .bl b4, .bl b5]) ++ [.bl b6, .bl b7])) = H5 at h5 s5 ⊢
    refine ⟨(by show 6 ≤ sizeLine; decide), fun p6 n6 => ?_⟩
    have h6 := @upd_same H5 p6 (.lst [.str "InvalidRule", .str "InvalidLog", .str "InvalidTime", .str "InvalidNumber", .str "InvalidIndex", .str "InvalidSeen"])
    have h5' := same_new (o := .lst [.str "InvalidRule", .str "InvalidLog", .str "InvalidTime", .str "InvalidNumber", .str "InvalidIndex", .str "InvalidSeen"]) n6 _ _ h5
    have s6 := s5.trans (same_new (o := .lst [.str "InvalidRule", .str "InvalidLog", .str "InvalidTime", .str "InvalidNumber", .str "InvalidIndex", .str "InvalidSeen"]) n6)
    generalize upd H5 p6 (.lst [.str "InvalidRule", .str "InvalidLog", .str "InvalidTime", .str "InvalidNumber", .str "InvalidIndex", .str "InvalidSeen"]) = H6 at h6 h5' s6 ⊢
    refine ⟨_, rfl, (by show 2 ≤ sizeLine; decide), fun p7 n7 => ⟨p6, p7, _, _, rfl, rfl, same_new n7 _ _ h6, upd_same, (by show 6 + 2 ≤ sizeLine; decide), fun p8 n8 => ?_⟩⟩
    have h5n := same_new (o := .lst ([.str "InvalidRule", .str "InvalidLog", .str "InvalidTime", .str "InvalidNumber", .str "InvalidIndex", .str "InvalidSeen"] ++ [.str "NothingToUndo", .str "TooMany"])) n8 _ _ (same_new n7 _ _ h5')
    have s8 := s6.trans ((same_new n7).trans (same_new (o := .lst ([.str "InvalidRule", .str "InvalidLog", .str "InvalidTime", .str "InvalidNumber", .str "InvalidIndex", .str "InvalidSeen"] ++ [.str "NothingToUndo", .str "TooMany"])) n8))
    have h8 := @upd_same (upd H6 p7 (.lst [.str "NothingToUndo", .str "TooMany"])) p8 (.lst ([.str "InvalidRule", .str "InvalidLog", .str "InvalidTime", .str "InvalidNumber", .str "InvalidIndex", .str "InvalidSeen"] ++ [.str "NothingToUndo", .str "TooMany"]))
    generalize upd (upd H6 p7 (.lst [.str "NothingToUndo", .str "TooMany"])) p8 (.lst ([.str "InvalidRule", .str "InvalidLog", .str "InvalidTime", .str "InvalidNumber", .str "InvalidIndex", .str "InvalidSeen"] ++ [.str "NothingToUndo", .str "TooMany"])) = H8 at h8 s8 h5n ⊢
    have hx : SqL K H8 p8 (words8.map V.str) := sqL_of h8
    have hy : SqL K H8 p5 ([b0, b1, b2, b3, b4, b5, b6, b7].map V.bl) := sqL_of h5n
    generalize hbs : [b0, b1, b2, b3, b4, b5, b6, b7] = bs at hy hw hs
    have lb : bs.length = 8 := by rw [← hbs]; rfl
    have lz : (words8.zip bs).length = 8 := by rw [List.length_zip, lb]; rfl
    refine ⟨⟨_, rfl⟩, _, rfl, _, rfl, p8, p5, _, _, rfl, hx, hy, fun L nL => ?_⟩
    refine ⟨fun i m H' => i + m = 8 ∧ Same H8 H' ∧ H' L = some (.lst ((sel ((words8.zip bs).take i)).map V.str)), ⟨8, rfl, same_new nL, upd_same⟩, fun i m H' h => ?_⟩
    obtain ⟨im, ss, hL⟩ := h
    cases m with
    | zero =>
      refine .inl ⟨⟨_, same_seqL ss hx, by rw [List.length_map]; show 8 ≤ i; omega⟩, ?_⟩
      have et : (words8.zip bs).take i = words8.zip bs := List.take_of_length_le (by omega)
      rw [et] at hL
      refine ⟨_, L, sel (words8.zip bs), rfl, rfl, .inl (sqL_of hL), by rw [show ("" : Str).length = 0 from rfl, Nat.mul_zero, Nat.add_zero]; exact hs, ?_⟩
      rw [hw]
      exact q _ (s8.trans ss)
    | succ m =>
      have hi : i < (words8.zip bs).length := by omega
      obtain ⟨⟨x, b⟩, hz⟩ : ∃ z, (words8.zip bs)[i]? = some z := ⟨_, List.getElem?_eq_getElem hi⟩
      obtain ⟨zx, zb⟩ := List.getElem?_zip_eq_some.mp hz
      have ex : (words8.map V.str)[i]? = some (.str x) := by rw [List.getElem?_map, zx]; rfl
      have ey : (bs.map V.bl)[i]? = some (.bl b) := by rw [List.getElem?_map, zb]; rfl
      refine .inr ⟨⟨_, _, _, _, same_seqL ss hx, same_seqL ss hy, ex, ey⟩, fun H'' => (i + 1) + m = 8 ∧ Same H8 H'' ∧ H'' L = some (.lst ((sel ((words8.zip bs).take (i + 1))).map V.str)), fun H'' z => ⟨m, Nat.lt_succ_self m, z⟩, ?_⟩
      rintro _ _ ⟨T, x', y', rfl, nT, rfl, gx, gy⟩
      cases (gx _ (same_seqL ss hx)).symm.trans ex
      cases (gy _ (same_seqL ss hy)).symm.trans ey
      have hLT : upd H' T (.tup [.str x, .bl b]) L = some (.lst ((sel ((words8.zip bs).take i)).map V.str)) := same_new nT _ _ hL
      refine ⟨T, _, rfl, sqT_of upd_same, rfl, _, _, rfl, _, _, rfl, rfl, rfl, _, rfl, ?_⟩
      have sm := sel_more hz
      have len : ((sel ((words8.zip bs).take i)).map V.str).length < sizeLine := by
        have l1 : (sel ((words8.zip bs).take i)).length ≤ ((words8.zip bs).take i).length := by
          unfold sel
          rw [List.length_map]
          exact List.length_filter_le _ _
        rw [List.length_take] at l1
        rw [List.length_map]
        have : (8 : Nat) < sizeLine := by decide
        omega
      cases b with
      | false =>
        refine ⟨_, rfl, ?_⟩
        refine ⟨by omega, ss.trans (same_new nT), ?_⟩
        rw [sm]
        simpa using hLT
      | true =>
        refine ⟨_, rfl, ?_⟩
        refine ⟨_, rfl, _, hLT, len, by omega, same_mut (ss.trans (same_new nT)) nL, ?_⟩
        rw [sm, upd_same, List.map_append]
        rfl
end
end Au
set_option maxHeartbeats 4000000
/-! What a call returns, or the name of its error. -/
namespace Au
open PySem PySem.Spec PyProof.Rows L2 L2H HotX AuH LamX
abbrev s_law_outcome : Stmt := topS 88
abbrev N_law_outcome : List Str := ["_law_call", "_law_found", "_law_e"]
theorem sc_law_outcome : FnScope N_law_outcome ["_law_call"] (defScope s_law_outcome) := ⟨rfl, rfl, rfl, by decide +kernel, rfl, by decide +kernel, by decide +kernel⟩
/-- f(), f a closure of no parameter, raises the class at D, all kept -/
def Raises (P : Program) (w : World) (K : PySem.W.Frag) (mg : Str → Option Value) (base : Heap) (k : Nat) (D f : Addr) (H : Hp) : Prop := CloOk P w K mg base k f H (fun _ _ => False) fun cls d H' => cls = .ref D ∧ d = none ∧ Same H H'
def spOutcome (P : Program) (w : World) (K : PySem.W.Frag) (mg : Str → Option Value) (base : Heap) (D : Addr) (word : Str) : Sp := fun vs H Q _ => ∃ f, vs = [.ref f] ∧ (∀ H1, ExtN H H1 → Raises P w K mg base 7 D f H1) ∧ ∀ H' T, Same H H' → H' T = none → Q (.ref T) (upd H' T (.tup [.str word]))
/-- _law_error(e) within the suite -/
def tErr (D a : Addr) (word : Str) (cls : Value) (d : Option Addr) (i : Nat) : TE := fun σ H Q => σ[i]? = some (some (.ref a)) ∧ cls = .ref D ∧ d = none ∧ ∀ H2, Same H H2 → Q (.str word) H2
section
variable {P : Program} {w : World} {K : PySem.W.Frag} {mg : Str → Option Value} {base : Heap}
theorem CloOk.any {k : Nat} {f : Addr} {H : Hp} {Q : VK} {E : XK} (c : CloOk P w K mg base k f H (fun _ _ => False) E) : CloOk P w K mg base k f H Q E := by
  refine ⟨c.ob, fun A outer s hr e0 => codeAny_mono (c.run A outer s hr e0) fun r s' z => ?_⟩
  cases r with
  | error e => exact z
  | ok fl =>
    cases fl with
    | ret u =>
      obtain ⟨v, H', a1, a2, a3, a4, a5, z⟩ := z
      exact z.elim
    | next => exact z
    | brk => exact z
    | cont => exact z
theorem pe_errAt {X : Cx} {a D : Addr} {oe : Obj} {pn : List (Addr × Obj)} {cls : Value} {d : Option Addr} {word : Str} {i : Nat} {q q2 pos : Pos} (c : CalE X.prog X.w X.K X.mg X.base 1 "_law_error" ["_law_e"] (spErr D word)) (hr : Room 1 X.A) (hz : L2N.Zn cls d oe) (hf : ∃ vs, oe.data = .fields vs) (hg : Gl (X.suite a ((a, oe) :: pn)) "_law_error")
    (hN : X.N[i]? = some "_law_e") (hv : Vis X.env.scope "_law_e") (he : starEach [.Name "_law_e" q2] X.env = (false, eval (.Name "_law_e" q2) X.env) :: starEach [] X.env := by rfl) : PE (X.suite a ((a, oe) :: pn)) (.Call (.Name "_law_error" q) [.Name "_law_e" q2] [] pos) (tErr D a word cls d i) := by
  obtain ⟨f, fd, F, hm, hk, hb⟩ := c.ex
  refine ⟨fun pins s σ H Q I h => (pe_callE (X := X.suite a ((a, oe) :: pn)) (p := (a, oe)) F ⟨hr.dp, hr.un⟩ (suite_hot hz hf) List.mem_cons_self hg hm hk hb (pa_cons (pe_var hN hv) pa_nil) (by decide) he).run pins s σ H Q I ?_⟩
  obtain ⟨h1, rfl, rfl, q⟩ := h
  exact ⟨_, h1, rfl, hz.zc, hf, q⟩
theorem ok_law_outcome (D' : DefT K mg "_law_outcome" s_law_outcome ["_law_call"]) {D S : Addr} {word : Str} (gS : mg "SaveError" = some (.ref S)) (sub : PySem.W.exmOne K (.ref D) (.ref S) = some true) (c : CalE P w K mg base 1 "_law_error" ["_law_e"] (spErr D word)) :
    C8.Cal P w K mg base 8 "_law_outcome" (spOutcome P w K mg base D word) [] := by
  refine cal_of D' sc_law_outcome (fun vs H Q E h => ?_) (fun f cdv A outer s H vs Q E hr h => ?_)
  · obtain ⟨g, rfl, _⟩ := h
    rfl
  · obtain ⟨g, rfl, cl, q⟩ := h
    refine ⟨_, pss_cons (ps_set (i := 1) sc_law_outcome.nd rfl (Or.inl rfl) (pe_tup (pa_cons pe_str pa_nil)))
      (pss_cons (L2N.ps_try_as (i := 2) (c := .ref S) (Wout := fun _ _ _ _ => False) (tb := fun W => tAsg (tTup (tCons (tC (.str "value")) (tCons (tClo P w K mg base 7 0 W) tNil))) (gName 1)) (ts := fun a cls d => tAsg (tTup (tCons (tErr D a word cls d 2) tNil)) (gName 1)) rfl rfl sc_law_outcome.nd rfl rfl ⟨by rfl, by decide, .inl gS⟩ (fun u s' z => by
          obtain ⟨_, _, _, _, _, _, _, _, _, _, _, _, _, _, _, _, z⟩ := z
          exact z)
        (fun W pn xe tk po => pss_one (ps_set (i := 1) sc_law_outcome.nd rfl (Or.inl rfl) (pe_tup (pa_cons pe_str (pa_cons (pe_clo tk hr rfl (Or.inl rfl)) pa_nil)))))
        (fun a oe cls d pn hz hf => pss_one (ps_set (i := 1) sc_law_outcome.nd rfl (Or.inl rfl) (pe_tup (pa_cons (pe_errAt c (hr.mono (by decide)) hz hf (by rfl) rfl (Or.inl rfl)) pa_nil)))))
      (pss_one (ps_ret (pv 1)))), ?_⟩
    refine ⟨(by show 1 ≤ sizeLine; decide), fun T0 n0 => ?_⟩
    have s0 := same_new (o := .tup [.str "nothing"]) n0
    refine ⟨g, _, rfl, fun cls d H' h => ?_, (cl _ (extN_new n0)).any⟩
    obtain ⟨rfl, rfl, s1⟩ := h
    refine ⟨true, sub, fun _ a na => ?_, fun e => Bool.noConfusion e⟩
    refine ⟨rfl, rfl, rfl, fun H2 s2 => ⟨(by show 1 ≤ sizeLine; decide), fun T nT => ?_⟩⟩
    exact ⟨_, rfl, q H2 T (s0.trans (s1.trans s2)) nT⟩
end
end Au
set_option maxHeartbeats 4000000
/-! Every call raises. -/
namespace Au
open PySem PySem.Spec PyProof.Rows L2 L2H HotX AuH LamX
abbrev s_law_all_raise : Stmt := topS 86
abbrev N_law_all_raise : List Str := ["_law_calls", "_law_word", "_law_call"]
theorem sc_law_all_raise : FnScope N_law_all_raise ["_law_calls", "_law_word"] (defScope s_law_all_raise) := ⟨rfl, rfl, rfl, by decide +kernel, rfl, by decide +kernel, by decide +kernel⟩
def spAllRaise (P : Program) (w : World) (K : PySem.W.Frag) (mg : Str → Option Value) (base : Heap) (D : Addr) (word : Str) : Sp := fun vs H Q _ => ∃ (L : Addr) (fs : List Addr), vs = [.ref L, .str word] ∧ SqL K H L (fs.map V.ref) ∧ (∀ f ∈ fs, ∀ H1, ExtN H H1 → Raises P w K mg base 7 D f H1) ∧ ∀ H', Same H H' → Q (.bl true) H'
theorem op_neK {X : Cx} {K : PySem.W.Frag} (hK : X.K = K) (hu : X.A.units + 64 < cLine) : OpR X (compareOp .NotEq) (rNeD K) := by
  subst hK
  exact op_neD hu
section
variable {P : Program} {w : World} {K : PySem.W.Frag} {mg : Str → Option Value} {base : Heap}
theorem ok_law_all_raise (D' : DefT K mg "_law_all_raise" s_law_all_raise ["_law_calls", "_law_word"]) {D : Addr} {word : Str} (he : PyData.eqv (.tuple [.str word]) (.tuple [.str word]) = true) (hs : SeqAt.shaped (.tuple [.str word]) = true) (hn : SeqAt.shaped (.list []) = true) (c : C8.Cal P w K mg base 8 "_law_outcome" (spOutcome P w K mg base D word) []) :
    C8.Cal P w K mg base 9 "_law_all_raise" (spAllRaise P w K mg base D word) [] := by
  refine cal_of D' sc_law_all_raise (fun vs H Q E h => ?_) (fun f cdv A outer s H vs Q E hr h => ?_)
  · obtain ⟨L, fs, rfl, _⟩ := h
    rfl
  · obtain ⟨L, fs, rfl, hL, hc, q⟩ := h
    refine ⟨_, pss_one (ps_ret (pe_cmpR (op_eqD hr.units) (pe_lc (own := [("_law_call", 2)]) (g := gName 2) rfl sc_law_all_raise.nd (pi_list (pv 0)) (blkOk_by (N := N_law_all_raise) (sc := defScope s_law_all_raise) (by decide +kernel)) (fun _ _ _ _ _ => pg_name (i := 2) sc_law_all_raise.nd rfl (Or.inl rfl)) (fun _ _ _ _ _ => pts_one (pt_cmpR (op_neK (K := K) rfl hr.units) (C8.pe_c c hr (by decide) (by rfl) (pa_cons (pv 2) pa_nil)) (pe_tup (pa_cons (pv 1) pa_nil)) (nomark _))) (fun _ _ _ _ _ => pe_int)) (pe_lst pa_nil) (nomark _))), ?_⟩
    refine ⟨_, rfl, L, rfl, ⟨_, hL⟩, fun M hM => ?_⟩
    refine lc_list (K := K) (a := L) (xs := fs.map V.ref) (fun _ H' => Same H H' ∧ H' M = some (.lst [])) ⟨same_new hM, upd_same⟩ (fun _ H' _ e => same_seqL e.1 hL) ?_ ?_
    · rintro k x H1 hx ⟨s1, z1⟩
      obtain ⟨g, hg, rfl⟩ : ∃ g, g ∈ fs ∧ V.ref g = x := by
        have m := List.mem_of_getElem? hx
        exact List.mem_map.mp m
      refine ⟨rfl, _, rfl, g, rfl, fun H2 e2 => hc g hg H2 ((ExtN.of s1).trans e2), fun H2 T s2 nT => ?_⟩
      refine ⟨_, rfl, (by show 1 ≤ sizeLine; decide), fun T2 nT2 => ?_⟩
      have sT : Same H2 (upd H2 T (.tup [.str word])) := same_new nT
      refine ⟨.tuple [.str word], .tuple [.str word], .tup (sqT_of (same_new nT2 _ _ upd_same)) (.cons (.str _) .nil), .tup (sqT_of upd_same) (.cons (.str _) .nil), hs, hs, ?_⟩
      rw [he]
      have s12 := s2.trans (sT.trans (same_new (o := .tup [.str word]) nT2))
      refine ⟨_, rfl, s1.trans s12, s12 _ _ z1⟩
    · rintro H1 ⟨s1, z1⟩
      refine ⟨Nat.zero_le _, fun M2 nM2 => ?_⟩
      refine ⟨.list [], .list [], .lst (sqL_of (same_new nM2 _ _ z1)) .nil, .lst (sqL_of upd_same) .nil, hn, hn, ?_⟩
      have e0 : PyData.eqv (.list []) (.list []) = true := rfl
      rw [e0]
      exact q _ (s1.trans (same_new nM2))
end
end Au
set_option maxHeartbeats 4000000
/-! The law's own reading of a rule and a log. -/
namespace Au
open PySem PySem.Spec PyProof.Rows L2
abbrev s_law_good_rule : Stmt := topS 92
abbrev N_law_good_rule : List Str := ["_law_x"]
theorem sc_law_good_rule : FnScope N_law_good_rule ["_law_x"] (defScope s_law_good_rule) := ⟨rfl, rfl, rfl, by decide +kernel, rfl, by decide +kernel, by decide +kernel⟩
section
variable {P : Program} {w : World} {K : PySem.W.Frag} {mg : Str → Option Value} {base : Heap}
theorem ok_law_in (B : Blt mg) (D : DefT K mg "_law_in" s_law_in ["_law_x", "_law_low", "_law_high"]) : C8.Cal P w K mg base 1 "_law_in" (spInRange K) [] := by
  refine cal_of D sc_law_in (fun vs H Q E h => ?_) (fun f cdv A outer s H vs Q E hr h => ?_)
  · obtain ⟨x, d, lo, hi, rfl, _⟩ := h
    rfl
  · obtain ⟨x, d, lo, hi, rfl, dp, q⟩ := h
    refine ⟨_, pss_one (ps_ret (pe_and (pe_isi (T := "int") B.m_isinstance B.m_int (by decide +kernel) (pv 0)) (pe_and (pe_not (pe_isi (T := "bool") B.m_isinstance B.m_bool (by decide +kernel) (pv 0))) (pe_one (pe_chain op_le op_le (pv 1) (pv 0) (pv 2)))))), ?_⟩
    cases dp with
    | int i =>
      refine ⟨_, rfl, _, _, _, _, true, rfl, .ty _, tyx_int, kit_ty (by decide +kernel), _, rfl, iteT ⟨_, rfl, _, _, _, _, false, rfl, .ty _, tyx_int, kit_ty (by decide +kernel), _, rfl, _, rfl, iteT ?_⟩⟩
      refine ⟨_, rfl, _, rfl, _, _, rfl, rfl, _, rfl, ?_⟩
      refine ite2 (fun c => ?_) (fun c => ?_)
      · refine ⟨_, rfl, _, _, rfl, rfl, ?_⟩
        have e : inRD (.int i) lo hi = decide (i ≤ hi) := by
          show (decide (lo ≤ i) && decide (i ≤ hi)) = _
          rw [c, Bool.true_and]
        rw [e] at q
        exact q
      · have e : inRD (.int i) lo hi = false := by
          show (decide (lo ≤ i) && decide (i ≤ hi)) = _
          rw [Bool.eq_false_iff.mpr c, Bool.false_and]
        rw [e] at q
        exact q
    | bl b => exact ⟨_, rfl, _, _, _, _, true, rfl, .ty _, tyx_bl, kit_ty (by decide +kernel), _, rfl, iteT ⟨_, rfl, _, _, _, _, true, rfl, .ty _, tyx_bl, kit_ty (by decide +kernel), _, rfl, _, rfl, iteF q⟩⟩
    | non => exact ⟨_, rfl, _, _, _, _, false, rfl, .ty _, tyx_non, kit_ty (by decide +kernel), _, rfl, iteF q⟩
    | str z => exact ⟨_, rfl, _, _, _, _, false, rfl, .ty _, tyx_str, kit_ty (by decide +kernel), _, rfl, iteF q⟩
    | lst h _ => exact ⟨_, rfl, _, _, _, _, false, rfl, .ty _, tyx_lst h, kit_ty (by decide +kernel), _, rfl, iteF q⟩
    | tup h _ => exact ⟨_, rfl, _, _, _, _, false, rfl, .ty _, tyx_tup h, kit_ty (by decide +kernel), _, rfl, iteF q⟩
theorem ok_law_good_rule (B : Blt mg) (D : DefT K mg "_law_good_rule" s_law_good_rule ["_law_x"]) (c_law_in : C8.Cal P w K mg base 1 "_law_in" (spInRange K) []) : C8.Cal P w K mg base 2 "_law_good_rule" (spIsRule K) [] := by
  refine cal_of D sc_law_good_rule (fun vs H Q E h => ?_) (fun f cdv A outer s H vs Q E hr h => ?_)
  · obtain ⟨x, d, rfl, _⟩ := h
    rfl
  · obtain ⟨x, d, rfl, dp, q⟩ := h
    refine ⟨_, pss_cons (ps_if (PW.pt (pw_or (pt_not (pt_val (pe_isi (T := "tuple") B.m_isinstance B.m_tuple (by decide +kernel) (pv 0)))) (pw_or1 (pt_cmpR op_ne (pe_callB call_len_seq (by rfl) B.m_len (by decide +kernel) (pa_cons (pv 0) pa_nil)) pe_int (nomark _))))) (pss_one (ps_ret pe_bl)) (pss_nil))
      (pss_one (ps_ret (pe_and (C8.pe_c c_law_in hr (by decide) (by rfl) (pa_cons (pe_ix ix_tup (pv 0) pe_int (fun _ _ => rfl)) (pa_cons pe_int (pa_cons pe_int pa_nil)))) (pe_one (C8.pe_c c_law_in hr (by decide) (by rfl) (pa_cons (pe_ix ix_tup (pv 0) pe_int (fun _ _ => rfl)) (pa_cons pe_int (pa_cons pe_int pa_nil)))))))), ?_⟩
    cases dp with
    | int i => exact ⟨_, rfl, _, _, _, _, false, rfl, .ty _, tyx_int, kit_ty (by decide +kernel), _, rfl, iteT (iteT q)⟩
    | bl b => exact ⟨_, rfl, _, _, _, _, false, rfl, .ty _, tyx_bl, kit_ty (by decide +kernel), _, rfl, iteT (iteT q)⟩
    | non => exact ⟨_, rfl, _, _, _, _, false, rfl, .ty _, tyx_non, kit_ty (by decide +kernel), _, rfl, iteT (iteT q)⟩
    | str z => exact ⟨_, rfl, _, _, _, _, false, rfl, .ty _, tyx_str, kit_ty (by decide +kernel), _, rfl, iteT (iteT q)⟩
    | lst h _ => exact ⟨_, rfl, _, _, _, _, false, rfl, .ty _, tyx_lst h, kit_ty (by decide +kernel), _, rfl, iteT (iteT q)⟩
    | @tup a xs ds h ha =>
      refine ⟨_, rfl, _, _, _, _, true, rfl, .ty _, tyx_tup h, kit_ty (by decide +kernel), _, rfl, iteF ⟨_, rfl, _, _, rfl, .inr h, rfl, _, rfl, ?_⟩⟩
      have ln := dps_len ha
      refine ite2 (fun c => ?_) (fun c => ?_)
      · have hn : ds.length ≠ 2 := fun e => by
          rw [ln, e] at c
          exact absurd c (by decide)
        rw [ruleD_not hn] at q
        exact q
      · have hn : ds.length = 2 := by
          cases hd : decide (V.int (xs.length : Int) = V.int 2) with
          | false =>
            rw [hd] at c
            exact absurd rfl c
          | true =>
            have c2 := V.int.inj (of_decide_eq_true hd)
            omega
        obtain ⟨d1, d2, rfl⟩ := two_of hn
        cases ha with
        | @cons x1 _ _ _ h1 r =>
          cases r with
          | @cons x2 _ _ _ h2 r2 =>
            cases r2
            refine ⟨_, rfl, _, _, _, _, rfl, rfl, h, atI_nat (j := 0) rfl, x1, d1, 1, 20, rfl, h1, _, rfl, ite2 (fun c1 => ?_) (fun c1 => ?_)⟩
            · refine ⟨_, rfl, _, _, _, _, rfl, rfl, h, atI_nat (j := 1) rfl, x2, d2, 1, 1000, rfl, h2, ?_⟩
              have e : ruleD (.tuple [d1, d2]) = inRD d2 1 1000 := by
                show (inRD d1 1 20 && inRD d2 1 1000) = _
                rw [c1, Bool.true_and]
              rw [e] at q
              exact q
            · have e : ruleD (.tuple [d1, d2]) = false := by
                show (inRD d1 1 20 && inRD d2 1 1000) = _
                rw [Bool.eq_false_iff.mpr c1, Bool.false_and]
              rw [e] at q
              exact q
end
end Au
set_option maxHeartbeats 4000000
/-! The law's own reading of a log. -/
namespace Au
open PySem PySem.Spec PyProof.Rows L2
theorem eqv_ints : ∀ {a b : List Int}, PyData.eqv (.list (a.map PyData.int)) (.list (b.map PyData.int)) = decide (a = b) := by
  have h : ∀ a b : List Int, PyData.eqvAll (a.map PyData.int) (b.map PyData.int) = decide (a = b) := by
    intro a
    induction a with
    | nil =>
      intro b
      cases b with
      | nil => simp [PyData.eqvAll]
      | cons y s => simp [PyData.eqvAll]
    | cons x r ih =>
      intro b
      cases b with
      | nil => simp [PyData.eqvAll]
      | cons y s =>
        have e : (x == y) = decide (x = y) := by
          rw [Bool.eq_iff_iff, beq_iff_eq, decide_eq_true_iff]
        simp [PyData.eqvAll, PyData.eqv, ih s, e]
  intro a b
  simp [PyData.eqv, h a b]
theorem sh_mem {n : Nat} : ∀ {ds : List PyData}, PyData.canLayAll0 ds = true → PyData.depthAll ds ≤ n → ∀ d ∈ ds, Sh n d
  | d :: r, h, l, e, m => by
    have h' : (d.canLay0 && PyData.canLayAll0 r) = true := h
    have l' : max d.depth (PyData.depthAll r) ≤ n := l
    rw [Bool.and_eq_true] at h'
    rcases List.mem_cons.mp m with rfl | m
    · exact ⟨h'.1, by omega⟩
    · exact sh_mem h'.2 (by omega) e m
theorem sh_tup_mem {n : Nat} {ds : List PyData} (h : Sh n (.tuple ds)) : ∀ d ∈ ds, Sh n d :=
  sh_mem h.1 (Nat.le_trans (Nat.le_succ _) (show PyData.depthAll ds + 1 ≤ n from h.2))
theorem adj_iff : ∀ {ns : List Int}, ((ns.zip (ns.drop 1)).all fun p => decide (p.1 ≤ p.2)) = true ↔ ns.Pairwise (· ≤ ·)
  | [] => by simp
  | [a] => by simp
  | a :: b :: r => by
    have ih := adj_iff (ns := b :: r)
    have e : ((a :: b :: r).zip ((a :: b :: r).drop 1)).all (fun p => decide (p.1 ≤ p.2)) = (decide (a ≤ b) && ((b :: r).zip ((b :: r).drop 1)).all fun p => decide (p.1 ≤ p.2)) := rfl
    rw [e, Bool.and_eq_true, decide_eq_true_eq, ih]
    constructor
    · rintro ⟨h1, h2⟩
      refine List.pairwise_cons.mpr ⟨fun x hx => ?_, h2⟩
      rcases List.mem_cons.mp hx with rfl | hx
      · exact h1
      · exact Int.le_trans h1 ((List.pairwise_cons.mp h2).1 x hx)
    · intro h
      have z := List.pairwise_cons.mp h
      exact ⟨z.1 b List.mem_cons_self, z.2⟩
theorem adj_data : ∀ ns : List Int, (((ns.map PyData.int).zip ((ns.map PyData.int).drop 1)).all fun p => decide (valD p.1 ≤ valD p.2)) = (ns.zip (ns.drop 1)).all fun p => decide (p.1 ≤ p.2)
  | [] => rfl
  | [_] => rfl
  | a :: b :: r => by
    have ih := adj_data (b :: r)
    show (decide (a ≤ b) && _) = (decide (a ≤ b) && _)
    exact congrArg _ ih
theorem sorted_tells {ns ys : List Int} (p : ys.Perm ns) (s : ys.Pairwise (· ≤ ·)) : decide (ns = ys) = (ns.zip (ns.drop 1)).all fun p => decide (p.1 ≤ p.2) := by
  rw [Bool.eq_iff_iff, decide_eq_true_eq, adj_iff]
  exact ⟨fun e => e ▸ s, fun h => List.Perm.eq_of_pairwise (fun _ _ _ _ a b => Int.le_antisymm a b) h s p.symm⟩
theorem ints_all : ∀ {ds : List PyData}, (∀ d ∈ ds, ∃ i : Int, d = .int i) → ∃ ns : List Int, ds = ns.map PyData.int
  | [], _ => ⟨[], rfl⟩
  | d :: r, h => by
    obtain ⟨i, rfl⟩ := h d List.mem_cons_self
    obtain ⟨ns, rfl⟩ := ints_all (ds := r) fun x hx => h x (List.mem_cons_of_mem _ hx)
    exact ⟨i :: ns, rfl⟩
theorem vals_ints {K : PySem.W.Frag} {H : Hp} : ∀ {xs : List V} {ns : List Int}, DpAll K H xs (ns.map PyData.int) → xs = ns.map V.int
  | [], [], _ => rfl
  | x :: xs, n :: ns, h => by
    cases h with
    | cons h1 h2 =>
      cases h1
      rw [vals_ints h2]
      rfl
theorem dps_app {K : PySem.W.Frag} {H : Hp} : ∀ {xs ys : List V} {ds es : List PyData}, DpAll K H xs ds → DpAll K H ys es → DpAll K H (xs ++ ys) (ds ++ es)
  | _, _, _, _, .nil, b => b
  | _, _, _, _, .cons h t, b => .cons h (dps_app t b)
abbrev s_law_good_log : Stmt := topS 93
abbrev N_law_good_log : List Str := ["_law_x", "_law_time"]
theorem sc_law_good_log : FnScope N_law_good_log ["_law_x"] (defScope s_law_good_log) := ⟨rfl, rfl, rfl, by decide +kernel, rfl, by decide +kernel, by decide +kernel⟩
def spGoodLog (K : PySem.W.Frag) : Sp := fun vs H Q _ => ∃ (x : V) (d : PyData), vs = [x] ∧ Dp K H x d ∧ Sh 20 d ∧ ∀ H', Same H H' → Q (.bl (logD d)) H'
section
variable {P : Program} {w : World} {K : PySem.W.Frag} {mg : Str → Option Value} {base : Heap}
theorem ok_law_good_log (B : Blt mg) (D : DefT K mg "_law_good_log" s_law_good_log ["_law_x"]) (c_law_in : C8.Cal P w K mg base 1 "_law_in" (spInRange K) []) : C8.Cal P w K mg base 2 "_law_good_log" (spGoodLog K) [] := by
  refine cal_of D sc_law_good_log (fun vs H Q E h => ?_) (fun f cdv A outer s H vs Q E hr h => ?_)
  · obtain ⟨x, d, rfl, _⟩ := h
    rfl
  · obtain ⟨x, d, rfl, dp, sh, q⟩ := h
    refine ⟨_, pss_cons (ps_if (PW.pt (pw_or (pt_not (pt_val (pe_isi (T := "tuple") B.m_isinstance B.m_tuple (by decide +kernel) (pv 0)))) (pw_or1 (pt_cmpR op_gt (pe_callB call_len_seq (by rfl) B.m_len (by decide +kernel) (pa_cons (pv 0) pa_nil)) pe_int (nomark _))))) (pss_one (ps_ret pe_bl)) (pss_nil))
      (pss_cons (ps_if (pt_cmpR (op_neK (K := K) rfl hr.units) (pe_lc (own := [("_law_time", 1)]) (g := gName 1) rfl sc_law_good_log.nd (pi_tup (pv 0)) (blkOk_by (N := N_law_good_log) (sc := defScope s_law_good_log) (by decide +kernel)) (fun _ _ _ _ _ => pg_name (i := 1) sc_law_good_log.nd rfl (Or.inl rfl)) (fun _ _ _ _ _ => pts_one (pt_not (pt_val (C8.pe_c c_law_in hr (by decide) (by rfl) (pa_cons (pv 1) (pa_cons pe_int (pa_cons (pe_op op_pow pe_int pe_int) pa_nil))))))) (fun _ _ _ _ _ => pv 1)) (pe_lst pa_nil) (nomark _)) (pss_one (ps_ret pe_bl)) (pss_nil))
      (pss_one (ps_ret (pe_cmpR (op_eqD hr.units) (pe_callTy call_list_of (by rfl) B.m_list (by decide +kernel) (pa_cons (pv 0) pa_nil)) (pe_callB cr_sortedT (by rfl) B.m_sorted (by decide +kernel) (pa_cons (pv 0) pa_nil)) (nomark _))))), ?_⟩
    cases dp with
    | int i => exact ⟨_, rfl, _, _, _, _, false, rfl, .ty _, tyx_int, kit_ty (by decide +kernel), _, rfl, iteT (iteT (q H (Same.refl H)))⟩
    | bl b => exact ⟨_, rfl, _, _, _, _, false, rfl, .ty _, tyx_bl, kit_ty (by decide +kernel), _, rfl, iteT (iteT (q H (Same.refl H)))⟩
    | non => exact ⟨_, rfl, _, _, _, _, false, rfl, .ty _, tyx_non, kit_ty (by decide +kernel), _, rfl, iteT (iteT (q H (Same.refl H)))⟩
    | str z => exact ⟨_, rfl, _, _, _, _, false, rfl, .ty _, tyx_str, kit_ty (by decide +kernel), _, rfl, iteT (iteT (q H (Same.refl H)))⟩
    | lst h _ => exact ⟨_, rfl, _, _, _, _, false, rfl, .ty _, tyx_lst h, kit_ty (by decide +kernel), _, rfl, iteT (iteT (q H (Same.refl H)))⟩
    | @tup a xs ds h ha =>
      have ln := dps_len ha
      refine ⟨_, rfl, _, _, _, _, true, rfl, .ty _, tyx_tup h, kit_ty (by decide +kernel), _, rfl, iteF ⟨_, rfl, _, _, rfl, .inr h, _, _, rfl, rfl, _, rfl, ?_⟩⟩
      refine ite2 (fun c => ?_) (fun c => ?_)
      · have e : logD (.tuple ds) = false := by
          have c' : (60 : Int) < xs.length := of_decide_eq_true c
          have c2 : decide (ds.length ≤ 60) = false := decide_eq_false (by omega)
          show (decide (ds.length ≤ 60) && _ && _) = false
          rw [c2, Bool.false_and, Bool.false_and]
        rw [e] at q
        exact q H (Same.refl H)
      · have l60 : ds.length ≤ 60 := by
          have c' : ¬ (60 : Int) < xs.length := fun z => c (decide_eq_true z)
          omega
        refine ⟨_, rfl, _, rfl, ⟨_, h⟩, fun L hL => ?_⟩
        refine lc_tup (K := K) (a := a) (xs := xs) (fun i H' => Same H H' ∧ ∃ acc, H' L = some (.lst acc) ∧ DpAll K H acc ((ds.take i).filter fun d => !inRD d 0 1000000)) ⟨same_new hL, [], upd_same, .nil⟩ (fun i H' _ e => same_seqT e.1 h) ?_ ?_
        · rintro i x H' hx ⟨s1, acc, hA, hacc⟩
          obtain ⟨d, hd, dx⟩ := dps_get ha hx
          refine ⟨rfl, _, rfl, _, _, rfl, rfl, ⟨by decide, by decide, by decide⟩, x, d, 0, 1000000, rfl, dp_same s1 dx, _, rfl, ?_⟩
          have lt : acc.length < sizeLine := by
            have l1 := List.length_filter_le (fun d => !inRD d 0 1000000) (ds.take i)
            have l2 := dps_len hacc
            rw [List.length_take] at l1
            exact small1000 (by omega)
          have em : (ds.take (i + 1)).filter (fun d => !inRD d 0 1000000) = (ds.take i).filter (fun d => !inRD d 0 1000000) ++ [d].filter (fun d => !inRD d 0 1000000) := by
            rw [List.take_add_one, hd, List.filter_append]
            rfl
          refine ite2 (fun c => ?_) (fun c => ?_)
          · refine ⟨_, rfl, acc, hA, lt, same_mut s1 hL, _, upd_same, ?_⟩
            rw [em, List.filter_cons, if_pos c]
            exact dps_app hacc (.cons dx .nil)
          · refine ⟨s1, acc, hA, ?_⟩
            rw [em, List.filter_cons, if_neg c, List.filter_nil, List.append_nil]
            exact hacc
        · rintro H' ⟨s1, acc, hA, hacc⟩
          rw [ln, List.take_length] at hacc
          refine ⟨Nat.zero_le _, fun N nN => ?_⟩
          have s2 := s1.trans (same_new (o := .lst []) nN)
          have shs : Sh 21 (.list (ds.filter fun d => !inRD d 0 1000000)) := sh_list fun d hd => sh_tup_mem sh d (List.mem_filter.mp hd).1
          refine ⟨_, _, .lst (sqL_of (same_new nN _ _ hA)) (dps_same s2 hacc), dp_nilL upd_same, shaped_of shs, shaped_of sh_nilL, _, rfl, ?_⟩
          rw [eqv_nilL]
          refine ite2 (fun c2 => ?_) (fun c2 => ?_)
          · have e : logD (.tuple ds) = false := by
              have c3 : (ds.all fun d => inRD d 0 1000000) = false := by
                cases hz : ds.all fun d => inRD d 0 1000000 with
                | false => rfl
                | true =>
                  have z : (ds.filter fun d => !inRD d 0 1000000) = [] := List.filter_eq_nil_iff.mpr fun d hd => by
                    rw [List.all_eq_true.mp hz d hd]
                    decide
                  rw [z] at c2
                  exact absurd c2 (by decide)
              show (_ && (ds.all fun d => inRD d 0 1000000) && _) = false
              rw [c3, Bool.and_false, Bool.false_and]
            rw [e] at q
            exact q _ s2
          · have c3 : (ds.all fun d => inRD d 0 1000000) = true := List.all_eq_true.mpr fun d hd => by
              cases hz : inRD d 0 1000000 with
              | true => rfl
              | false =>
                have m : d ∈ ds.filter fun d => !inRD d 0 1000000 := List.mem_filter.mpr ⟨hd, by rw [hz]; rfl⟩
                cases hf : ds.filter fun d => !inRD d 0 1000000 with
                | nil =>
                  rw [hf] at m
                  cases m
                | cons _ _ =>
                  rw [hf] at c2
                  exact absurd rfl c2
            obtain ⟨ns, rfl⟩ := ints_all fun d hd => by
              obtain ⟨i, e, _⟩ := inR_int (List.all_eq_true.mp c3 d hd)
              exact ⟨i, e⟩
            have el : logD (.tuple (ns.map PyData.int)) = (ns.zip (ns.drop 1)).all fun p => decide (p.1 ≤ p.2) := by
              show (decide ((ns.map PyData.int).length ≤ 60) && ((ns.map PyData.int).all fun d => inRD d 0 1000000) && _) = _
              rw [c3, decide_eq_true l60, Bool.true_and, Bool.true_and]
              exact adj_data ns
            rw [el] at q
            obtain rfl := vals_ints ha
            refine ⟨_, rfl, a, _, rfl, .inr (same_seqT s2 h), fun M nM => ?_⟩
            have s3 := s2.trans (same_new (o := .lst (ns.map V.int)) nM)
            refine ⟨_, rfl, a, ns, rfl, same_seqT s3 h, fun ys T pm so nT => ?_⟩
            refine ⟨_, _, dp_lst (sqL_of (same_new nT _ _ upd_same)), dp_lst (sqL_of upd_same), shaped_of (sh_ints _), shaped_of (sh_ints _), ?_⟩
            rw [eqv_ints, sorted_tells pm so]
            exact q _ (s3.trans (same_new nT))
end
end Au
set_option maxHeartbeats 4000000
/-! The words of the two errors, the two makers as calls. -/
namespace Au
open PySem PySem.Spec PyProof.Rows L2 L2H HotX AuH LamX
theorem word_rule : Txt.join "" (sel (words8.zip [true, false, false, false, false, false, false, false])) = "InvalidRule" := by decide +kernel
theorem word_log : Txt.join "" (sel (words8.zip [false, true, false, false, false, false, false, false])) = "InvalidLog" := by decide +kernel
theorem long_rule : ((sel (words8.zip [true, false, false, false, false, false, false, false])).map (·.length)).sum ≤ 16777216 := by decide +kernel
theorem long_log : ((sel (words8.zip [false, true, false, false, false, false, false, false])).map (·.length)).sum ≤ 16777216 := by decide +kernel
theorem shw_rule : Sh 1 (.tuple [.str "InvalidRule"]) := ⟨by decide +kernel, by decide +kernel⟩
theorem shw_log : Sh 1 (.tuple [.str "InvalidLog"]) := ⟨by decide +kernel, by decide +kernel⟩
section
variable {P : Program} {w : World} {K : PySem.W.Frag} {mg : Str → Option Value} {base : Heap} {CR CL : Addr}
/-- every call of a bad rule raises -/
theorem rule_all_raise (D' : DefT K mg "_law_all_raise" s_law_all_raise ["_law_calls", "_law_word"]) (Do : DefT K mg "_law_outcome" s_law_outcome ["_law_call"]) (De : DefT K mg "_law_error" s_law_error ["_law_e"]) (B : Blt mg) (EC : ExcC K CR) {S : Addr} (gS : mg "SaveError" = some (.ref S)) (sub : PySem.W.exmOne K (.ref CR) (.ref S) = some true)
    (k0 : KitC K mg CR "InvalidRule" true) (k1 : KitC K mg CR "InvalidLog" false) (k2 : KitC K mg CR "InvalidTime" false) (k3 : KitC K mg CR "InvalidNumber" false) (k4 : KitC K mg CR "InvalidIndex" false) (k5 : KitC K mg CR "InvalidSeen" false) (k6 : KitC K mg CR "NothingToUndo" false) (k7 : KitC K mg CR "TooMany" false) :
    C8.Cal P w K mg base 9 "_law_all_raise" (spAllRaise P w K mg base CR "InvalidRule") [] :=
  ok_law_all_raise D' (eqv_self shw_rule) (shaped_of shw_rule) (shaped_of sh_nilL) (ok_law_outcome Do gS sub (err_law_error B De EC k0 k1 k2 k3 k4 k5 k6 k7 word_rule long_rule))
/-- every call of a bad log raises -/
theorem log_all_raise (D' : DefT K mg "_law_all_raise" s_law_all_raise ["_law_calls", "_law_word"]) (Do : DefT K mg "_law_outcome" s_law_outcome ["_law_call"]) (De : DefT K mg "_law_error" s_law_error ["_law_e"]) (B : Blt mg) (EC : ExcC K CL) {S : Addr} (gS : mg "SaveError" = some (.ref S)) (sub : PySem.W.exmOne K (.ref CL) (.ref S) = some true)
    (k0 : KitC K mg CL "InvalidRule" false) (k1 : KitC K mg CL "InvalidLog" true) (k2 : KitC K mg CL "InvalidTime" false) (k3 : KitC K mg CL "InvalidNumber" false) (k4 : KitC K mg CL "InvalidIndex" false) (k5 : KitC K mg CL "InvalidSeen" false) (k6 : KitC K mg CL "NothingToUndo" false) (k7 : KitC K mg CL "TooMany" false) :
    C8.Cal P w K mg base 9 "_law_all_raise" (spAllRaise P w K mg base CL "InvalidLog") [] :=
  ok_law_all_raise D' (eqv_self shw_log) (shaped_of shw_log) (shaped_of sh_nilL) (ok_law_outcome Do gS sub (err_law_error B De EC k0 k1 k2 k3 k4 k5 k6 k7 word_log long_log))
/-- what a maker gives is what _law_all_raise wants -/
theorem raises_of {D : Addr} {f : Addr} {H1 : Hp} (h : ∀ (H2 : Hp) (E : XK), ExtN H1 H2 → Rz D H2 E → CloOk P w K mg base 7 f H2 (fun _ _ => False) E) : ∀ H2, ExtN H1 H2 → Raises P w K mg base 7 D f H2 :=
  fun H2 e => h H2 _ e fun H3 s => ⟨rfl, rfl, s⟩
end
end Au
set_option maxHeartbeats 4000000
/-! One part of a value changed. -/
namespace Au
open PySem PySem.Spec PyProof.Rows L2
/-- a heap without the lists of S -/
def off (S : List Addr) (H : Hp) : Hp := fun b => if b ∈ S then none else H b
theorem off_ne {S : List Addr} {b : Addr} {H : Hp} (n : b ∉ S) : off S H b = H b := if_neg n
theorem off_some {S : List Addr} {b : Addr} {H : Hp} {o : HO} (e : off S H b = some o) : b ∉ S ∧ H b = some o := by
  unfold off at e
  by_cases n : b ∈ S
  · rw [if_pos n] at e
    cases e
  · rw [if_neg n] at e
    exact ⟨n, e⟩
theorem off_same {S : List Addr} {H : Hp} : Same (off S H) H := fun _ _ e => (off_some e).2
theorem off_keep {S : List Addr} {g : Addr} {H H' : Hp} (hg : g ∈ S) (k : Keep g H H') : Same (off S H) (off S H') := fun b o e => by
  obtain ⟨n, e⟩ := off_some e
  rw [off_ne n]
  exact k b o (fun z => n (z ▸ hg)) e
/-- the bag and other lists, which no value tells -/
structure SL (S : List Addr) (g : Addr) (H : Hp) : Prop where
  bag : g ∈ S
  lst : ∀ b ∈ S, ∃ xs, H b = some (.lst xs)
theorem SL.same {S : List Addr} {g : Addr} {H H' : Hp} (h : SL S g H) (s : Same H H') : SL S g H' := ⟨h.bag, fun b m => by
  obtain ⟨xs, e⟩ := h.lst b m
  exact ⟨xs, s _ _ e⟩⟩
theorem SL.keep {S : List Addr} {g : Addr} {H H' : Hp} {n : Int} (h : SL S g H) (k : Keep g H H') (b : Bag H' g n) : SL S g H' := ⟨h.bag, fun c m => by
  by_cases e : c = g
  · obtain ⟨x, y, z, w, _⟩ := b
    rw [e]
    exact ⟨_, w⟩
  · obtain ⟨xs, w⟩ := h.lst c m
    exact ⟨xs, k _ _ e w⟩⟩
theorem SL.free {S : List Addr} {g p : Addr} {H : Hp} (h : SL S g H) (n : H p = none) : p ∉ S := fun m => by
  obtain ⟨xs, e⟩ := h.lst p m
  rw [n] at e
  cases e
theorem SL.tup {S : List Addr} {g p : Addr} {H : Hp} {xs : List V} (h : SL S g H) (n : H p = some (.tup xs)) : p ∉ S := fun m => by
  obtain ⟨xs, e⟩ := h.lst p m
  rw [n] at e
  cases e
theorem SL.ne {S : List Addr} {g p : Addr} {H : Hp} (h : SL S g H) (n : p ∉ S) : p ≠ g := fun z => n (z ▸ h.bag)
def Wd : Nat → PyData → Prop
  | 0, _ => False
  | n + 1, .list ds => ds.length ≤ 100 ∧ ∀ d ∈ ds, Wd n d
  | n + 1, .tuple ds => ds.length ≤ 100 ∧ ∀ d ∈ ds, Wd n d
  | _ + 1, d => Sh 0 d
theorem Wd.sh : ∀ {n : Nat} {d : PyData}, Wd n d → Sh n d
  | n + 1, .list ds, h => sh_list fun d m => (h.2 d m).sh
  | n + 1, .tuple ds, h => sh_tup fun d m => (h.2 d m).sh
  | n + 1, .none, h => Sh.mono (n := 0) h (Nat.zero_le _)
  | n + 1, .bool _, h => Sh.mono (n := 0) h (Nat.zero_le _)
  | n + 1, .int _, h => Sh.mono (n := 0) h (Nat.zero_le _)
  | n + 1, .str _, h => Sh.mono (n := 0) h (Nat.zero_le _)
  | n + 1, .dict _, h => Sh.mono (n := 0) h (Nat.zero_le _)
theorem Wd.up : ∀ {n : Nat} {d : PyData}, Wd n d → Wd (n + 1) d
  | n + 1, .list ds, h => ⟨h.1, fun d m => (h.2 d m).up⟩
  | n + 1, .tuple ds, h => ⟨h.1, fun d m => (h.2 d m).up⟩
  | n + 1, .none, h => h
  | n + 1, .bool _, h => h
  | n + 1, .int _, h => h
  | n + 1, .str _, h => h
  | n + 1, .dict _, h => h
theorem Wd.tup {n : Nat} {ds : List PyData} {k : Nat} {e : PyData} (h : Wd (n + 1) (.tuple ds)) (he : Wd (n + 1) e) : Wd (n + 2) (.tuple (ds.set k e)) := by
  refine ⟨by rw [List.length_set]; exact h.1, fun d m => ?_⟩
  rcases List.mem_or_eq_of_mem_set m with m | rfl
  · exact (h.2 d m).up
  · exact he
/-- what changed promises -/
def spChanged (K : PySem.W.Frag) (n : Nat) : Sp := fun vs H Q _ => ∃ (S : List Addr) (g : Addr) (x : V) (d : PyData) (m : Int), vs = [.ref g, x] ∧ SL S g H ∧ Bag H g m ∧ m + 3 * n ≤ 1000000000 ∧ Dp K (off S H) x d ∧ Wd n d ∧
  ∀ H' y d', Bag H' g (m + 3 * n) → Keep g H H' → Dp K (off S H') y d' → Wd (n + 1) d' → Q y H'
abbrev s_law_changed : Stmt := topS 91
abbrev N_law_changed : List Str := ["_law_bag", "_law_x", "_law_k", "_law_odd"]
theorem sc_law_changed : FnScope N_law_changed ["_law_bag", "_law_x"] (defScope s_law_changed) := ⟨rfl, rfl, rfl, by decide +kernel, rfl, by decide +kernel, by decide +kernel⟩
section
variable {P : Program} {w : World} {K : PySem.W.Frag} {mg : Str → Option Value} {base : Heap}
theorem Wd.le {n m : Nat} {d : PyData} (h : Wd n d) (l : n ≤ m) : Wd m d := by
  induction l with
  | refl => exact h
  | step _ ih => exact ih.up
theorem odd_wd : ∀ e ∈ ([.none, .bool true, .bool false, .int (-1), .int 0, .int 1, .int 21, .int 1001, .int ((10 : Int) ^ (6 : Int).toNat + 1), .str "1", .tuple [], .tuple [.int 1], .list [.int 1]] : List PyData), Wd 2 e := by
  intro e h
  simp only [List.mem_cons, List.not_mem_nil, or_false] at h
  have one : ∀ d ∈ [PyData.int 1], Wd 1 d := fun d m => by
    rcases List.mem_cons.mp m with rfl | m
    · exact sh_int 1
    · cases m
  rcases h with rfl | rfl | rfl | rfl | rfl | rfl | rfl | rfl | rfl | rfl | rfl | rfl | rfl
  · exact ⟨rfl, Nat.le_refl _⟩
  · exact ⟨rfl, Nat.le_refl _⟩
  · exact ⟨rfl, Nat.le_refl _⟩
  · exact sh_int _
  · exact sh_int _
  · exact sh_int _
  · exact sh_int _
  · exact sh_int _
  · exact sh_int _
  · exact sh_str (by decide +kernel)
  · exact ⟨Nat.zero_le _, fun d m => by cases m⟩
  · exact ⟨by decide, one⟩
  · exact ⟨by decide, one⟩
theorem dps_take {K : PySem.W.Frag} {H : Hp} : ∀ {xs : List V} {ds : List PyData} (n : Nat), DpAll K H xs ds → DpAll K H (xs.take n) (ds.take n)
  | _, _, 0, _ => by
    rw [List.take_zero, List.take_zero]
    exact .nil
  | _, _, _ + 1, .nil => .nil
  | _, _, n + 1, .cons h t => .cons h (dps_take n t)
theorem dps_drop {K : PySem.W.Frag} {H : Hp} : ∀ {xs : List V} {ds : List PyData} (n : Nat), DpAll K H xs ds → DpAll K H (xs.drop n) (ds.drop n)
  | _, _, 0, h => h
  | _, _, _ + 1, .nil => .nil
  | _, _, n + 1, .cons h t => dps_drop n t
theorem sqT_off {K : PySem.W.Frag} {H : Hp} {S : List Addr} {g a : Addr} {xs : List V} (h : SqT K H a xs) (sl : SL S g H) : SqT K (off S H) a xs := by
  have ne : ∀ {o : HO}, H a = some o → (∀ ys, o ≠ .lst ys) → off S H a = some o := fun {o} e n => by
    rw [off_ne fun m => by
      obtain ⟨ys, w⟩ := sl.lst a m
      rw [e] at w
      exact n ys (Option.some.inj w)]
    exact e
  rcases h with (h | ⟨o, h⟩) | h
  · exact .inl (.inl (ne h fun ys z => by cases z))
  · exact .inl (.inr ⟨o, ne h fun ys z => by cases z⟩)
  · exact .inr h
theorem rCatA_of {K : PySem.W.Frag} {H : Hp} {a b : Addr} {xs ys : List V} {Q : VK} (ha : SqT K H a xs) (hb : SqT K H b ys) (hz : xs.length + ys.length ≤ sizeLine) (h : ∀ p H', Same H H' → SqT K H' p (xs ++ ys) → Q (.ref p) H') : rCatA K (.ref a) (.ref b) H Q := by
  refine ⟨a, b, xs, ys, rfl, rfl, ha, hb, hz, fun e => ?_, fun _ e => ?_, fun _ _ p n => h p _ (same_new n) (sqT_of upd_same)⟩
  · subst e
    exact h b H (Same.refl H) hb
  · subst e
    refine h a H (Same.refl H) ?_
    rw [List.append_nil]
    exact ha
theorem two_step {t : TE} {σ : L2.St} {H : Hp} {Q : VK} {Good : V → Hp → Prop} (h1 : ∀ Q' : VK, (∀ y H5, Good y H5 → Q' y H5) → t σ H Q') (h2 : ∀ y H5, Good y H5 → Q y H5) : t σ H Q := h1 Q h2
theorem vac_changed (D : DefT K mg "_law_changed" s_law_changed ["_law_bag", "_law_x"]) : C8.Cal P w K mg base 1 "_law_changed" (spChanged K 0) [] := by
  obtain ⟨f, fd, F, hm, b⟩ := D.ex
  refine ⟨f, fd, ["_law_bag", "_law_x"], [], ⟨fun vs H Q E h => ?_, fun A outer s H args us vs Q E _ _ _ _ h => ?_⟩, hm, F.kp, b, .nil⟩
  · obtain ⟨S, g, x, d, m, rfl, _⟩ := h
    rfl
  · obtain ⟨S, g, x, d, m, _, _, _, _, _, o, _⟩ := h
    exact o.elim
theorem ok_changed (B : Blt mg) (D : DefT K mg "_law_changed" s_law_changed ["_law_bag", "_law_x"]) (c_law_take : C8.Cal P w K mg base 1 "_law_take" spTake []) : ∀ n, n ≤ 40 → C8.Cal P w K mg base (n + 1) "_law_changed" (spChanged K n) []
  | 0, _ => vac_changed D
  | n + 1, hn => by
    have c_law_changed : C8.Cal P w K mg base (n + 1) "_law_changed" (spChanged K n) [] := ok_changed B D c_law_take n (by omega)
    refine cal_of D sc_law_changed (fun vs H Q E h => ?_) (fun f cdv A outer s H vs Q E hr h => ?_)
    · obtain ⟨S, g, x, d, m, rfl, _⟩ := h
      rfl
    · obtain ⟨S, g, x, d, m, rfl, sl, bag, hm, dp, wd, q⟩ := h
      obtain ⟨t2, hp2, odd⟩ : ∃ t2, PSs (cxOf CX0 P w K mg base N_law_changed "_law_changed" (defScope s_law_changed) f cdv A outer s H E).nox ((defBody s_law_changed).drop 1) t2 ∧
          ∀ (nx : L2.St → Hp → Prop) (k : Option V) (m1 : Int) (H1 : Hp), Bag H1 g m1 → m1 ≤ m + 3 * n + 2 → Keep g H H1 → t2 { nx := nx, rt := Q } [some (.ref g), some x, k, none] H1 := by
        refine ⟨_, (pss_cons (ps_set (i := 3) sc_law_changed.nd rfl (Or.inl rfl) (pe_lst (pa_cons pe_non (pa_cons pe_bl (pa_cons pe_bl (pa_cons (pe_un un_neg pe_int) (pa_cons pe_int (pa_cons pe_int (pa_cons pe_int (pa_cons pe_int (pa_cons (pe_op op_add (pe_op op_pow pe_int pe_int) pe_int) (pa_cons pe_str (pa_cons (pe_tup pa_nil) (pa_cons (pe_tup (pa_cons pe_int pa_nil)) (pa_cons (pe_lst (pa_cons pe_int pa_nil)) pa_nil)))))))))))))))
          (pss_one (ps_ret (pe_ix ix_list (pe_op op_cat (pv 3) (pe_lst (pa_cons (pe_ifExp (pt_val (pe_isi (T := "tuple") B.m_isinstance B.m_tuple (by decide +kernel) (pv 1))) (pe_callTy call_list_of (by rfl) B.m_list (by decide +kernel) (pa_cons (pv 1) pa_nil)) (pv 1)) pa_nil))) (C8.pe_c c_law_take hr (by omega) (by rfl) (pa_cons (pv 0) (pa_cons pe_int pa_nil))) (fun _ _ => rfl))))), fun nx k m1 H1 bag1 hm1 kp1 => ?_⟩
        have dp1 := dp_same (off_keep sl.bag kp1) dp
        refine ⟨_, rfl, _, _, rfl, rfl, ⟨by decide, by decide, by decide⟩, _, _, rfl, rfl, Nat.zero_le _, fun p1 n1 => ⟨(by show 1 ≤ sizeLine; decide), fun p2 n2 => ⟨(by show 1 ≤ sizeLine; decide), fun p3 n3 => ⟨(by show 13 ≤ sizeLine; decide), fun p4 n4 => ?_⟩⟩⟩⟩
        refine ⟨_, rfl, ?_⟩
        have s1 := same_new (o := .tup []) n1
        have s2 := same_new (o := .tup [.int 1]) n2
        have s3 := same_new (o := .lst [.int 1]) n3
        have sl1 := sl.keep kp1 bag1
        have ne3 : p3 ∉ S := ((sl1.same s1).same s2).free n3
        have e1 : (upd H1 p1 (.tup [])) p1 = some (.tup []) := upd_same
        have e2 := @upd_same (upd H1 p1 (.tup [])) p2 (.tup [.int 1])
        have e3 := @upd_same (upd (upd H1 p1 (.tup [])) p2 (.tup [.int 1])) p3 (.lst [.int 1])
        have e1 := s3 _ _ (s2 _ _ e1)
        have e2 := s3 _ _ e2
        have s13 := s1.trans (s2.trans s3)
        generalize upd (upd (upd H1 p1 (.tup [])) p2 (.tup [.int 1])) p3 (.lst [.int 1]) = H3 at n4 e1 e2 e3 s13 ⊢
        have bag3 := bag1.same s13
        have sl3 := sl1.same s13
        have s34 := same_new (o := .lst [.non, .bl true, .bl false, .int (-1), .int 0, .int 1, .int 21, .int 1001, .int ((10 : Int) ^ (6 : Int).toNat + 1), .str "1", .ref p1, .ref p2, .ref p3]) n4
        have e4 := @upd_same H3 p4 (.lst [.non, .bl true, .bl false, .int (-1), .int 0, .int 1, .int 21, .int 1001, .int ((10 : Int) ^ (6 : Int).toNat + 1), .str "1", .ref p1, .ref p2, .ref p3])
        have s14 := s13.trans s34
        refine two_step (t := tLst (tCons (tIf _ _ _) tNil)) (H := (upd H3 p4 (.lst [.non, .bl true, .bl false, .int (-1), .int 0, .int 1, .int 21, .int 1001, .int ((10 : Int) ^ (6 : Int).toNat + 1), .str "1", .ref p1, .ref p2, .ref p3]))) (Good := fun y H5 => ∃ (p5 : Addr) (v : V) (d' : PyData), y = .ref p5 ∧ H5 p5 = some (.lst [v]) ∧ Same (upd H3 p4 (.lst [.non, .bl true, .bl false, .int (-1), .int 0, .int 1, .int 21, .int 1001, .int ((10 : Int) ^ (6 : Int).toNat + 1), .str "1", .ref p1, .ref p2, .ref p3])) H5 ∧ Dp K (off S H5) v d' ∧ Wd (n + 2) d') (fun Q' hQ => ?_) (fun y H5 hy => ?_)
        · cases dp1 with
          | int i => exact ⟨_, rfl, _, _, _, _, false, rfl, .ty _, tyx_int , kit_ty (by decide +kernel), _, rfl, iteF ⟨_, rfl, (by show 1 ≤ sizeLine; decide), fun p5 n5 => hQ _ _ ⟨p5, _, _, rfl, upd_same, same_new n5, dp_same (off_keep sl.bag (Keep.of_same (s14.trans (same_new n5)))) (.int i) , wd.up⟩⟩⟩
          | bl b => exact ⟨_, rfl, _, _, _, _, false, rfl, .ty _, tyx_bl , kit_ty (by decide +kernel), _, rfl, iteF ⟨_, rfl, (by show 1 ≤ sizeLine; decide), fun p5 n5 => hQ _ _ ⟨p5, _, _, rfl, upd_same, same_new n5, dp_same (off_keep sl.bag (Keep.of_same (s14.trans (same_new n5)))) (.bl b) , wd.up⟩⟩⟩
          | non => exact ⟨_, rfl, _, _, _, _, false, rfl, .ty _, tyx_non , kit_ty (by decide +kernel), _, rfl, iteF ⟨_, rfl, (by show 1 ≤ sizeLine; decide), fun p5 n5 => hQ _ _ ⟨p5, _, _, rfl, upd_same, same_new n5, dp_same (off_keep sl.bag (Keep.of_same (s14.trans (same_new n5)))) .non , wd.up⟩⟩⟩
          | str z => exact ⟨_, rfl, _, _, _, _, false, rfl, .ty _, tyx_str , kit_ty (by decide +kernel), _, rfl, iteF ⟨_, rfl, (by show 1 ≤ sizeLine; decide), fun p5 n5 => hQ _ _ ⟨p5, _, _, rfl, upd_same, same_new n5, dp_same (off_keep sl.bag (Keep.of_same (s14.trans (same_new n5)))) (.str z) , wd.up⟩⟩⟩
          | lst h ha => exact ⟨_, rfl, _, _, _, _, false, rfl, .ty _, (tyx_lst (same_seqL (off_same.trans s14) h)) , kit_ty (by decide +kernel), _, rfl, iteF ⟨_, rfl, (by show 1 ≤ sizeLine; decide), fun p5 n5 => hQ _ _ ⟨p5, _, _, rfl, upd_same, same_new n5, dp_same (off_keep sl.bag (Keep.of_same (s14.trans (same_new n5)))) (.lst h ha) , wd.up⟩⟩⟩
          | @tup a xs ds h ha =>
            have h4 := same_seqT (off_same.trans s14) h
            refine ⟨_, rfl, _, _, _, _, true, rfl, .ty _, tyx_tup h4, kit_ty (by decide +kernel), _, rfl, iteT ⟨_, rfl, a, xs, rfl, .inr h4, fun M nM => ⟨(by show 1 ≤ sizeLine; decide), fun p5 n5 => hQ _ _ ⟨p5, .ref M, .list ds, rfl, upd_same, (same_new nM).trans (same_new n5), ?_, ?_⟩⟩⟩⟩
            · have nMg : M ∉ S := (sl3.same s34).free nM
              refine .lst (sqL_of ?_) (dps_same (off_keep sl.bag (Keep.of_same (s14.trans ((same_new nM).trans (same_new n5))))) ha)
              rw [off_ne nMg]
              exact same_new n5 _ _ upd_same
            · exact ⟨wd.1, fun d m => (wd.2 d m).up⟩
        · obtain ⟨p5, v, d', rfl, h5, s45, dv, wv⟩ := hy
          refine ⟨p4, p5, _, _, rfl, rfl, s45 _ _ e4, h5, (by show 13 + 1 ≤ sizeLine; decide), fun p6 n6 => ?_⟩
          have s56 := same_new (o := .lst ([.non, .bl true, .bl false, .int (-1), .int 0, .int 1, .int 21, .int 1001, .int ((10 : Int) ^ (6 : Int).toNat + 1), .str "1", .ref p1, .ref p2, .ref p3] ++ [v])) n6
          have s46 := s45.trans s56
          have s16 := s14.trans s46
          refine ⟨_, rfl, g, 14, m1, rfl, bag1.same s16, by omega, by decide, by decide, fun H7 r r0 r14 bag7 kp7 => ?_⟩
          have nz : ∀ {b : Addr} {xs : List V}, H3 b = some (.tup xs) → b ∉ S := fun e => sl3.tup e
          have ne6 : p6 ≠ g := sl.ne ((sl3.same (s34.trans s45)).free n6)
          have to7 := kp7
          have k37 : ∀ b o, b ∉ S → H3 b = some o → (off S H7) b = some o := fun b o nb e => by
            rw [off_ne nb]
            exact kp7 b o (sl.ne nb) (s46 _ _ (s34 _ _ e))
          have all : DpAll K (off S H7) ([.non, .bl true, .bl false, .int (-1), .int 0, .int 1, .int 21, .int 1001, .int ((10 : Int) ^ (6 : Int).toNat + 1), .str "1", .ref p1, .ref p2, .ref p3] ++ [v])
              ([.none, .bool true, .bool false, .int (-1), .int 0, .int 1, .int 21, .int 1001, .int ((10 : Int) ^ (6 : Int).toNat + 1), .str "1", .tuple [], .tuple [.int 1], .list [.int 1]] ++ [d']) :=
            dps_app (.cons .non (.cons (.bl _) (.cons (.bl _) (.cons (.int _) (.cons (.int _) (.cons (.int _) (.cons (.int _) (.cons (.int _) (.cons (.int _) (.cons (.str _) (.cons (.tup (sqT_of (k37 _ _ (nz e1) e1)) .nil) (.cons (.tup (sqT_of (k37 _ _ (nz e2) e2)) (.cons (.int _) .nil)) (.cons (.lst (sqL_of (k37 _ _ ne3 e3)) (.cons (.int _) .nil)) .nil)))))))))))))
              (.cons (dp_same (off_keep sl.bag ((Keep.of_same s56).trans kp7)) dv) .nil)
          have l14 : r.toNat < ([V.non, .bl true, .bl false, .int (-1), .int 0, .int 1, .int 21, .int 1001, .int ((10 : Int) ^ (6 : Int).toNat + 1), .str "1", .ref p1, .ref p2, .ref p3] ++ [v]).length := by
            show r.toNat < 14
            omega
          obtain ⟨u, hu⟩ : ∃ u, ([V.non, .bl true, .bl false, .int (-1), .int 0, .int 1, .int 21, .int 1001, .int ((10 : Int) ^ (6 : Int).toNat + 1), .str "1", .ref p1, .ref p2, .ref p3] ++ [v])[r.toNat]? = some u := ⟨_, List.getElem?_eq_getElem l14⟩
          obtain ⟨e, he, du⟩ := dps_get all hu
          have we : Wd (n + 2) e := by
            have me := List.mem_of_getElem? he
            rcases List.mem_append.mp me with me | me
            · exact (odd_wd e me).le (by omega)
            · rcases List.mem_cons.mp me with rfl | me
              · exact wv
              · cases me
          refine ⟨p6, _, r, u, rfl, rfl, sqL_of (kp7 _ _ ne6 upd_same), ?_, ?_⟩
          · have z := atI_nat hu
            rw [Int.toNat_of_nonneg r0] at z
            exact z
          · exact q H7 u e (bag7.more (by omega)) (kp1.trans ((Keep.of_same s16).trans kp7)) du we
      refine ⟨_, pss_cons (ps_if (PW.pt (pw_and (pt_val (pe_isi (T := "tuple") B.m_isinstance B.m_tuple (by decide +kernel) (pv 1))) (pw_and (pt_cmpR (op_neK (K := K) rfl hr.units) (pv 1) (pe_tup pa_nil) (nomark _)) (pw_and1 (pt_cmpR op_gt (C8.pe_c c_law_take hr (by omega) (by rfl) (pa_cons (pv 0) (pa_cons pe_int pa_nil))) pe_int (nomark _))))))
          (pss_cons (ps_set (i := 2) sc_law_changed.nd rfl (Or.inl rfl) (C8.pe_c c_law_take hr (by omega) (by rfl) (pa_cons (pv 0) (pa_cons (pe_callB call_len_seq (by rfl) B.m_len (by decide +kernel) (pa_cons (pv 1) pa_nil)) pa_nil))))
            (pss_one (ps_ret (pe_op op_catA (pe_op op_catA (pe_slice sl_tup (pv 1) po_none (po_some (pv 2))) (pe_tup (pa_cons (C8.pe_c c_law_changed hr (by omega) (by rfl) (pa_cons (pv 0) (pa_cons (pe_ix ix_tup (pv 1) (pv 2) (fun _ _ => rfl)) pa_nil))) pa_nil))) (pe_slice sl_tup (pv 1) (po_some (pe_op op_add (pv 2) pe_int)) po_none))))) (pss_nil)) hp2, ?_⟩
      cases dp with
      | int i => exact ⟨_, rfl, _, _, _, _, false, rfl, .ty _, tyx_int, kit_ty (by decide +kernel), _, rfl, iteF (iteF (odd _ none m H bag (by omega) (Keep.refl H)))⟩
      | bl b => exact ⟨_, rfl, _, _, _, _, false, rfl, .ty _, tyx_bl, kit_ty (by decide +kernel), _, rfl, iteF (iteF (odd _ none m H bag (by omega) (Keep.refl H)))⟩
      | non => exact ⟨_, rfl, _, _, _, _, false, rfl, .ty _, tyx_non, kit_ty (by decide +kernel), _, rfl, iteF (iteF (odd _ none m H bag (by omega) (Keep.refl H)))⟩
      | str z => exact ⟨_, rfl, _, _, _, _, false, rfl, .ty _, tyx_str, kit_ty (by decide +kernel), _, rfl, iteF (iteF (odd _ none m H bag (by omega) (Keep.refl H)))⟩
      | lst h ha => exact ⟨_, rfl, _, _, _, _, false, rfl, .ty _, tyx_lst (same_seqL off_same h), kit_ty (by decide +kernel), _, rfl, iteF (iteF (odd _ none m H bag (by omega) (Keep.refl H)))⟩
      | @tup a xs ds h ha =>
        have h0 := same_seqT off_same h
        refine ⟨_, rfl, _, _, _, _, true, rfl, .ty _, tyx_tup h0, kit_ty (by decide +kernel), _, rfl, iteT ⟨_, rfl, Nat.zero_le _, fun pN nN => ?_⟩⟩
        have sN := same_new (o := .tup []) nN
        refine ⟨.tuple ds, .tuple [], .tup (same_seqT sN h0) (dps_same (off_same.trans sN) ha), dp_nilT upd_same, shaped_of wd.sh (by omega), shaped_of sh_nilT, _, rfl, ?_⟩
        rw [eqv_nilT]
        refine ite2 (fun c => ?_) (fun c => iteF (odd _ none m _ (bag.same sN) (by omega) (Keep.of_same sN)))
        refine ⟨_, rfl, g, 6, m, rfl, bag.same sN, by omega, by decide, by decide, fun H2 r r0 r6 bag2 kp2 => ⟨_, _, rfl, rfl, _, rfl, ?_⟩⟩
        refine ite2 (fun c2 => ?_) (fun c2 => odd _ none (m + 1) H2 bag2 (by omega) ((Keep.of_same sN).trans kp2))
        have kN2 := (Keep.of_same sN).trans kp2
        have tN2 : ∀ {b : Addr} {ys : List V}, SqT K (off S H) b ys → SqT K H2 b ys := fun e => same_seqT off_same (same_seqT (off_keep sl.bag kN2) e)
        have ln := dps_len ha
        have l1 : 1 ≤ xs.length := by
          cases ds with
          | nil => exact absurd c (by decide)
          | cons _ _ =>
            rw [ln]
            exact Nat.le_add_left _ _
        have l100 : xs.length ≤ 100 := by rw [ln]; exact wd.1
        refine ⟨_, rfl, _, rfl, _, _, rfl, .inr (tN2 h), g, (xs.length : Int), m + 1, rfl, bag2, by omega, by omega, by omega, fun H3 k k0 kl bag3 kp3 => ?_⟩
        obtain ⟨j, rfl⟩ : ∃ j : Nat, k = (j : Int) := ⟨k.toNat, (Int.toNat_of_nonneg k0).symm⟩
        have kN3 := kN2.trans kp3
        have tN3 : ∀ {b : Addr} {ys : List V}, SqT K (off S H) b ys → SqT K H3 b ys := fun e => same_seqT off_same (same_seqT (off_keep sl.bag kN3) e)
        have jl : j < xs.length := by omega
        obtain ⟨v, hv⟩ : ∃ v, xs[j]? = some v := ⟨_, List.getElem?_eq_getElem jl⟩
        obtain ⟨dj, hdj, dv⟩ := dps_get ha hv
        refine ⟨_, rfl, _, rfl, (j : Int), rfl, a, xs, rfl, tN3 h, ?_, fun p7 n7 => ?_⟩
        · rintro ⟨_, z⟩
          rw [show HT.sIx xs.length xs.length (some (j : Int)) = min j xs.length from HT.sIx_nat xs.length xs.length j] at z
          omega
        have s7 := same_new (o := .tup (cutV xs none (some (j : Int)))) n7
        refine ⟨_, rfl, _, rfl, _, rfl, a, xs, (j : Int), v, rfl, rfl, same_seqT s7 (tN3 h), atI_nat hv, S, g, v, dj, m + 2, rfl, (sl.keep kN3 bag3).same s7, (bag3.same s7).more (by omega), by omega, dp_same (off_keep sl.bag (kN3.trans (Keep.of_same s7))) dv, wd.2 dj (List.mem_of_getElem? hdj), fun H5 y d' bag5 kp5 dy wy => ⟨(by show 1 ≤ sizeLine; decide), fun p8 n8 => ?_⟩⟩
        have ne7 : p7 ≠ g := sl.ne ((sl.keep kN3 bag3).free n7)
        have s8 := same_new (o := .tup [y]) n8
        have kN8 := kN3.trans ((Keep.of_same s7).trans (kp5.trans (Keep.of_same s8)))
        have tN8 : ∀ {b : Addr} {ys : List V}, SqT K (off S H) b ys → SqT K (upd H5 p8 (.tup [y])) b ys := fun e => same_seqT off_same (same_seqT (off_keep sl.bag kN8) e)
        have c100 := cutV_length xs none (some (j : Int))
        have big : (1000 : Nat) ≤ sizeLine := by decide
        refine rCatA_of (sqT_of (s8 _ _ (kp5 _ _ ne7 upd_same))) (sqT_of upd_same) (by show _ + 1 ≤ sizeLine; omega) fun p9 H9 s9 h9 => ?_
        refine ⟨_, rfl, _, rfl, _, _, rfl, rfl, _, rfl, a, xs, rfl, same_seqT s9 (tN8 h), ?_, fun p10 n10 => ?_⟩
        · rintro ⟨z, _⟩
          rw [show HT.sIx xs.length 0 (some ((j : Int) + 1)) = min (j + 1) xs.length from HT.sIx_nat xs.length 0 (j + 1)] at z
          omega
        have c100b := cutV_length xs (some ((j : Int) + 1)) none
        have s10 := same_new (o := .tup (cutV xs (some ((j : Int) + 1)) none)) n10
        refine rCatA_of (same_seqT s10 h9) (sqT_of upd_same) (by rw [List.length_append]; show _ + 1 + _ ≤ sizeLine; omega) fun p11 H11 s11 h11 => ?_
        have s5b := s8.trans (s9.trans (s10.trans s11))
        have e1 : cutV xs none (some (j : Int)) = xs.take j := by
          unfold cutV
          rw [show HT.sIx xs.length xs.length (some (j : Int)) = min j xs.length from HT.sIx_nat xs.length xs.length j, HT.sIx_none, List.drop_zero, Nat.sub_zero, Nat.min_eq_left (by omega)]
        have e2 : cutV xs (some ((j : Int) + 1)) none = xs.drop (j + 1) := by
          unfold cutV
          rw [show HT.sIx xs.length 0 (some ((j : Int) + 1)) = min (j + 1) xs.length from HT.sIx_nat xs.length 0 (j + 1), HT.sIx_none, Nat.min_eq_left (by omega)]
          exact List.take_of_length_le (by rw [List.length_drop]; omega)
        rw [e1, e2] at h11
        have bag11 := bag5.same s5b
        have kN11 := kN3.trans ((Keep.of_same s7).trans (kp5.trans (Keep.of_same s5b)))
        refine q H11 (.ref p11) (.tuple (ds.set j d')) (bag11.more (by omega)) kN11 (.tup (sqT_off h11 (sl.keep kN11 bag11)) ?_) (Wd.tup wd wy)
        have hx := dps_same (off_keep sl.bag kN11) ha
        rw [List.set_eq_take_append_cons_drop, if_pos (by omega), List.append_assoc]
        exact dps_app (dps_take j hx) (.cons (dp_same (off_keep sl.bag (Keep.of_same s5b)) dy) (dps_drop (j + 1) hx))
end
end Au
set_option maxHeartbeats 8000000
/-! The law. -/
namespace Au
open PySem PySem.Spec PyProof.Rows L2 L2H HotX AuH LamX
abbrev s_law : Stmt := topS 96
abbrev N_law : List Str := ["_law_script", "_law_bag", "_law_rule_here", "_law_log_here", "_law_some", "_law_turn", "_law_x"]
theorem sc_law : FnScope N_law ["_law_script"] (defScope s_law) := ⟨rfl, rfl, rfl, by decide +kernel, rfl, by decide +kernel, by decide +kernel⟩
/-! ### tables and lists beside a bag -/
theorem tabs_keep {T : List (Addr × Str)} {g : Addr} {H H' : Hp} {n : Int} (b : Bag H g n) (k : Keep g H H') (t : Tabs T H) : Tabs T H' := fun p hp => by
  obtain ⟨ps, h1, h2, h3⟩ := t p hp
  obtain ⟨x, y, z, w, _⟩ := b
  have ne : ∀ {c : Addr} {o : HO}, H c = some o → (∀ xs, o ≠ .lst xs) → c ≠ g := fun {c o} e n z => by
    rw [z, w] at e
    exact n _ (Option.some.inj e).symm
  refine ⟨ps, k _ _ (ne h1 fun _ z => by cases z) h1, h2, fun pos cv hc => ?_⟩
  obtain ⟨c, e1, e2⟩ := h3 pos cv hc
  exact ⟨c, e1, k _ _ (ne e2 fun _ z => by unfold CodeO at z; cases z) e2⟩
theorem sl_bag {H : Hp} {g : Addr} {n : Int} (b : Bag H g n) : SL [g] g H := ⟨List.mem_singleton_self g, fun c m => by
  rw [List.mem_singleton.mp m]
  exact b.lst⟩
theorem dps_one {K : PySem.W.Frag} {H : Hp} {xs : List V} {ds : List PyData} {v : V} {d : PyData} (a : DpAll K H xs ds) (h : Dp K H v d) : DpAll K H (xs ++ [v]) (ds ++ [d]) := dps_app a (.cons h .nil)
theorem dps_rep {K : PySem.W.Frag} {H : Hp} : ∀ k : Nat, DpAll K H (List.replicate k [V.int 0]).flatten ((List.replicate k (0 : Int)).map PyData.int)
  | 0 => .nil
  | k + 1 => .cons (.int 0) (dps_rep k)
/-- values gathered from H0 on -/
structure Acc (K : PySem.W.Frag) (g : Addr) (H0 H : Hp) (xs : List V) (ds : List PyData) : Prop where
  s : Same H0 H
  sl : SL [g] g H
  dp : DpAll K (off [g] H) xs ds
theorem Acc.one {K : PySem.W.Frag} {g : Addr} {H0 H : Hp} {xs : List V} {ds : List PyData} (a : Acc K g H0 H xs ds) {v : V} {d : PyData} (h : Dp K (off [g] H0) v d) : Acc K g H0 H (xs ++ [v]) (ds ++ [d]) :=
  ⟨a.s, a.sl, dps_one a.dp (dp_same (off_keep a.sl.bag (Keep.of_same a.s)) h)⟩
theorem Acc.obj {K : PySem.W.Frag} {g : Addr} {H0 H : Hp} {xs : List V} {ds : List PyData} (a : Acc K g H0 H xs ds) {p : Addr} (n : H p = none) (o : HO) {d : PyData} (h : Dp K (off [g] (upd H p o)) (.ref p) d) : Acc K g H0 (upd H p o) (xs ++ [.ref p]) (ds ++ [d]) :=
  have s := same_new (o := o) n
  ⟨a.s.trans s, a.sl.same s, dps_one (dps_same (off_keep a.sl.bag (Keep.of_same s)) a.dp) h⟩
theorem Acc.tup {K : PySem.W.Frag} {g : Addr} {H0 H : Hp} {xs : List V} {ds : List PyData} (a : Acc K g H0 H xs ds) {p : Addr} (n : H p = none) {ys : List V} {es : List PyData} (h : DpAll K (off [g] H) ys es) : Acc K g H0 (upd H p (.tup ys)) (xs ++ [.ref p]) (ds ++ [.tuple es]) :=
  a.obj n _ (.tup (sqT_off (sqT_of upd_same) (a.sl.same (same_new n))) (dps_same (off_keep a.sl.bag (Keep.of_same (same_new n))) h))
theorem Acc.lst {K : PySem.W.Frag} {g : Addr} {H0 H : Hp} {xs : List V} {ds : List PyData} (a : Acc K g H0 H xs ds) {p : Addr} (n : H p = none) {ys : List V} {es : List PyData} (h : DpAll K (off [g] H) ys es) : Acc K g H0 (upd H p (.lst ys)) (xs ++ [.ref p]) (ds ++ [.list es]) :=
  a.obj n _ (.lst (sqL_of (by rw [off_ne (a.sl.free n)]; exact upd_same)) (dps_same (off_keep a.sl.bag (Keep.of_same (same_new n))) h))
/-- at L a list of k values, n deep at most, none of which is the bag -/
def Vals (K : PySem.W.Frag) (g : Addr) (H : Hp) (L : Addr) (n k : Nat) : Prop := ∃ (xs : List V) (ds : List PyData), H L = some (.lst xs) ∧ L ≠ g ∧ DpAll K (off [g] H) xs ds ∧ (∀ d ∈ ds, Wd n d) ∧ xs.length = k
theorem Vals.keep {K : PySem.W.Frag} {g : Addr} {H H' : Hp} {L : Addr} {n k : Nat} (v : Vals K g H L n k) (h : Keep g H H') : Vals K g H' L n k := by
  obtain ⟨xs, ds, e, ne, dp, w, l⟩ := v
  exact ⟨xs, ds, h _ _ ne e, ne, dps_same (off_keep (List.mem_singleton_self g) h) dp, w, l⟩
theorem Vals.new {K : PySem.W.Frag} {g : Addr} {H : Hp} {p : Addr} {n k : Nat} {xs : List V} {ds : List PyData} (sl : SL [g] g H) (np : H p = none) (dp : DpAll K (off [g] H) xs ds) (w : ∀ d ∈ ds, Wd n d) (l : xs.length = k) : Vals K g (upd H p (.lst xs)) p n k :=
  ⟨xs, ds, upd_same, sl.ne (sl.free np), dps_same (off_keep sl.bag (Keep.new np)) dp, w, l⟩
theorem wd_cons {n : Nat} {d : PyData} {ds : List PyData} (h : Wd n d) (t : ∀ d ∈ ds, Wd n d) : ∀ e ∈ d :: ds, Wd n e := fun e m => by
  rcases List.mem_cons.mp m with rfl | m
  · exact h
  · exact t e m
theorem wd_nil {n : Nat} : ∀ e ∈ ([] : List PyData), Wd n e := fun e m => by cases m
theorem wd_app {n : Nat} {ds es : List PyData} (h : ∀ d ∈ ds, Wd n d) (t : ∀ d ∈ es, Wd n d) : ∀ e ∈ ds ++ es, Wd n e := fun e m => by
  rcases List.mem_append.mp m with m | m
  · exact h e m
  · exact t e m
theorem wd_all {l : List Int} : ∀ d ∈ l.map PyData.int, Wd 1 d := fun d m => by
  obtain ⟨i, _, rfl⟩ := List.mem_map.mp m
  exact sh_int i
theorem wd_ints {l : List Int} (h : l.length ≤ 100) : Wd 2 (.tuple (l.map PyData.int)) := ⟨by rw [List.length_map]; exact h, wd_all⟩
theorem wd_intsL {l : List Int} (h : l.length ≤ 100) : Wd 2 (.list (l.map PyData.int)) := ⟨by rw [List.length_map]; exact h, wd_all⟩
theorem off_two {g D : Addr} {H5 H' : Hp} (k : Keep g H5 H') (n : H5 D = none) : Same (off [g] H5) (off [g, D] H') := fun b o e => by
  obtain ⟨m, e⟩ := off_some e
  rw [off_ne fun z => by
    rcases List.mem_cons.mp z with z | z
    · exact m (List.mem_singleton.mpr z)
    · rw [List.mem_singleton.mp z, n] at e
      cases e]
  exact k b o (fun z => m (List.mem_singleton.mpr z)) e
theorem off_less {g D : Addr} {H : Hp} : Same (off [g, D] H) (off [g] H) := fun b o e => by
  obtain ⟨m, e⟩ := off_some e
  rw [off_ne fun z => m (List.mem_cons.mpr (.inl (List.mem_singleton.mp z)))]
  exact e
/-- a new list of changed values -/
structure ChI (K : PySem.W.Frag) (g D : Addr) (H5 : Hp) (m : Int) (i : Nat) (H' : Hp) : Prop where
  ex : ∃ (acc : List V) (ds : List PyData), H' D = some (.lst acc) ∧ acc.length = i ∧ DpAll K (off [g, D] H') acc ds ∧ ∀ d ∈ ds, Wd 4 d
  bag : Bag H' g (m + 9 * i)
  keep : Keep g H5 H'
theorem ChI.zero {K : PySem.W.Frag} {g D : Addr} {H5 : Hp} {m : Int} (n : H5 D = none) (b : Bag H5 g m) : ChI K g D H5 m 0 (upd H5 D (.lst [])) :=
  ⟨⟨[], [], upd_same, rfl, .nil, wd_nil⟩, (b.same (same_new n)).more (by omega), .new n⟩
theorem ChI.sl {K : PySem.W.Frag} {g D : Addr} {H5 H' : Hp} {m : Int} {i : Nat} (c : ChI K g D H5 m i H') : SL [g, D] g H' := ⟨List.mem_cons_self, fun b z => by
  rcases List.mem_cons.mp z with rfl | z
  · exact c.bag.lst
  · obtain ⟨acc, _, e, _⟩ := c.ex
    rw [List.mem_singleton.mp z]
    exact ⟨_, e⟩⟩
theorem ChI.next {K : PySem.W.Frag} {g D : Addr} {H5 H6 H7 : Hp} {m : Int} {i : Nat} {y : V} {d' : PyData} (c : ChI K g D H5 m i H6) (n : H5 D = none) (ne : D ≠ g) (hi : i < 1000) (b7 : Bag H7 g (m + 9 * i + 3 * ((3 : Nat) : Int))) (k7 : Keep g H6 H7) (dy : Dp K (off [g, D] H7) y d') (wy : Wd 4 d') :
    ∃ acc, H7 D = some (.lst acc) ∧ acc.length < sizeLine ∧ ChI K g D H5 m (i + 1) (upd H7 D (.lst (acc ++ [y]))) := by
  obtain ⟨acc, ds, e, l, dp, w⟩ := c.ex
  have up : Same (off [g, D] H7) (off [g, D] (upd H7 D (.lst (acc ++ [y])))) := fun b o e => by
    obtain ⟨m, e⟩ := off_some e
    rw [off_ne m, upd_ne fun z => m (List.mem_cons.mpr (.inr (List.mem_singleton.mpr z)))]
    exact e
  refine ⟨acc, k7 _ _ ne e, ?_, ⟨acc ++ [y], ds ++ [d'], upd_same, by rw [List.length_append, l]; rfl, dps_same up (dps_one (dps_same (off_keep c.sl.bag k7) dp) dy), wd_app w (wd_cons wy wd_nil)⟩, ?_, fun b o nb h => ?_⟩
  · rw [l]
    exact Nat.lt_of_lt_of_le hi (by decide)
  · obtain ⟨x, y, z, w1, w2, w3, w4⟩ := b7
    exact ⟨x, y, z, by rw [upd_ne (Ne.symm ne)]; exact w1, w2, w3, by omega⟩
  · rw [upd_ne fun z => by
      rw [z, n] at h
      cases h]
    exact k7 b o nb (c.keep b o nb h)
theorem ChI.vals {K : PySem.W.Frag} {g D : Addr} {H5 H' : Hp} {m : Int} {i : Nat} (c : ChI K g D H5 m i H') (ne : D ≠ g) : Vals K g H' D 4 i := by
  obtain ⟨acc, ds, e, l, dp, w⟩ := c.ex
  exact ⟨acc, ds, e, ne, dps_same off_less dp, w, l⟩
theorem app_tup {K : PySem.W.Frag} {g : Addr} {H0 H : Hp} {xs : List V} {ds : List PyData} (a : Acc K g H0 H xs ds) {L p : Addr} (nL : H L = none) (np : (upd H L (.lst xs)) p = none) {ys : List V} {es : List PyData} (h : DpAll K (off [g] H) ys es) {n k : Nat} (w : ∀ d ∈ ds, Wd n d) (we : Wd n (.tuple es)) (l : xs.length + 1 = k) :
    Same H0 (upd (upd (upd H L (.lst xs)) p (.tup ys)) L (.lst (xs ++ [.ref p]))) ∧ Vals K g (upd (upd (upd H L (.lst xs)) p (.tup ys)) L (.lst (xs ++ [.ref p]))) L n k := by
  have s : Same H (upd (upd (upd H L (.lst xs)) p (.tup ys)) L (.lst (xs ++ [.ref p]))) := same_mut ((same_new nL).trans (same_new np)) nL
  have k1 := off_keep a.sl.bag (Keep.of_same s)
  have ne : p ≠ L := fun z => by
    rw [z, upd_same] at np
    cases np
  refine ⟨a.s.trans s, _, _, upd_same, a.sl.ne (a.sl.free nL), dps_one (dps_same k1 a.dp) (.tup (sqT_off (sqT_of ?_) (a.sl.same s)) (dps_same k1 h)), wd_app w (wd_cons we wd_nil), by rw [List.length_append]; exact l⟩
  rw [upd_ne ne]
  exact upd_same
theorem Acc.skip {K : PySem.W.Frag} {g : Addr} {H0 H : Hp} {xs : List V} {ds : List PyData} (a : Acc K g H0 H xs ds) {p : Addr} (n : H p = none) {o : HO} : Acc K g H0 (upd H p o) xs ds :=
  ⟨a.s.trans (same_new n), a.sl.same (same_new n), dps_same (off_keep a.sl.bag (Keep.of_same (same_new n))) a.dp⟩
theorem cat_vals {K : PySem.W.Frag} {g : Addr} {H0 H : Hp} {xs ys : List V} {ds es : List PyData} (a : Acc K g H0 H ys es) {L2 L3 : Addr} (n2 : H L2 = none) (n3 : (upd H L2 (.lst ys)) L3 = none) (dp : DpAll K (off [g] H0) xs ds) {n k : Nat} (w : ∀ d ∈ ds, Wd n d) (we : ∀ d ∈ es, Wd n d) (l : xs.length + ys.length = k) :
    Same H0 (upd (upd H L2 (.lst ys)) L3 (.lst (xs ++ ys))) ∧ Vals K g (upd (upd H L2 (.lst ys)) L3 (.lst (xs ++ ys))) L3 n k := by
  have a2 := a.skip (o := .lst ys) n2
  have k2 := off_keep a.sl.bag (Keep.of_same a2.s)
  exact ⟨a2.s.trans (same_new n3), Vals.new a2.sl n3 (dps_app (dps_same k2 dp) a2.dp) (wd_app w we) (by rw [List.length_append]; exact l)⟩
theorem Vals.cat {K : PySem.W.Frag} {g : Addr} {H : Hp} {L M : Addr} {n n' k k' : Nat} (sl : SL [g] g H) (v : Vals K g H L n k) (u : Vals K g H M n' k') (le : n ≤ n') :
    ∃ xs ys, H L = some (.lst xs) ∧ H M = some (.lst ys) ∧ xs.length + ys.length = k + k' ∧ ∀ p, H p = none → Vals K g (upd H p (.lst (xs ++ ys))) p n' (k + k') := by
  obtain ⟨xs, ds, e1, _, d1, w1, l1⟩ := v
  obtain ⟨ys, es, e2, _, d2, w2, l2⟩ := u
  refine ⟨xs, ys, e1, e2, by rw [l1, l2], fun p np => Vals.new sl np (dps_app d1 d2) (wd_app (fun d m => (w1 d m).le le) w2) (by rw [List.length_append, l1, l2])⟩
theorem last_of {xs : List V} {ds : List PyData} {K : PySem.W.Frag} {H : Hp} (dp : DpAll K H xs ds) (h : 0 < xs.length) : ∃ v d, atI xs (-1) = some v ∧ Dp K H v d ∧ d ∈ ds := by
  have e : ixN xs.length (-1) = some (xs.length - 1) := by
    unfold ixN
    rw [if_neg (by decide), if_pos (by omega)]
    congr 1
    omega
  have hv : xs[xs.length - 1]? = some xs[xs.length - 1] := List.getElem?_eq_getElem (by omega)
  obtain ⟨d, hd, q⟩ := dps_get dp hv
  refine ⟨_, d, ?_, q, List.mem_of_getElem? hd⟩
  unfold atI
  rw [e]
  exact hv
section
variable {P : Program} {w : World} {K : PySem.W.Frag} {mg : Str → Option Value} {base : Heap} {CR CL : Addr}
def spLaw (K : PySem.W.Frag) (T : List (Addr × Str)) : Sp := fun vs H Q _ => ∃ (a : Addr) (ns : List Int), vs = [.ref a] ∧ SqL K H a (ns.map V.int) ∧ ns.length ≤ 63 ∧ Tabs T H ∧ ∀ H', Q (.bl true) H'
theorem ok_law (B : Blt mg) {T : List (Addr × Str)} {f : Addr} {fd : FuncData} (F : L2.Fun K "law" "law" s_law f fd) (c_law_bags : C8.Cal P w K mg base 2 "_law_bags" (spBags K) []) (c_law_rule : C8.Cal P w K mg base 2 "_law_rule" (spRule K) [])
    (c_law_log : C8.Cal P w K mg base 2 "_law_log" (spLog K) []) (c_law_changed : C8.Cal P w K mg base 4 "_law_changed" (spChanged K 3) []) (c_law_changed4 : C8.Cal P w K mg base 5 "_law_changed" (spChanged K 4) [])
    (c_law_same : C8.Cal P w K mg base 1 "_law_same" (spSame K 1) []) (c_is_rule : C8.Cal P w K mg base 2 "is_rule" (spIsRule K) []) (c_is_log : C8.Cal P w K mg base 2 "is_log" (spIsLog K) [])
    (c_law_good_rule : C8.Cal P w K mg base 2 "_law_good_rule" (spIsRule K) []) (c_law_good_log : C8.Cal P w K mg base 2 "_law_good_log" (spGoodLog K) [])
    (c_law_rule_calls : C8.Cal P w K mg base 1 "_law_rule_calls" (sp_law_rule_calls P w K mg base CR T) []) (c_law_log_calls : C8.Cal P w K mg base 1 "_law_log_calls" (sp_law_log_calls P w K mg base CL T) [])
    (c_rule_all_raise : C8.Cal P w K mg base 9 "_law_all_raise" (spAllRaise P w K mg base CR "InvalidRule") []) (c_log_all_raise : C8.Cal P w K mg base 9 "_law_all_raise" (spAllRaise P w K mg base CL "InvalidLog") []) :
    FnOk P w K mg base CX0 10 f fd ["_law_script"] (spLaw K T) := by
  refine F.ok sc_law (fun vs H Q E h => ?_) (fun cdv A outer s H vs Q E hr h => ?_)
  · obtain ⟨a, ns, rfl, _⟩ := h
    rfl
  · obtain ⟨a, ns, rfl, hS, hlen, hT, q⟩ := h
    refine ⟨_, pss_cons (ps_for PassesOwn.never rfl (pi_list (C8.pe_c c_law_bags hr (by decide) (by rfl) (pa_cons (pv 0) (pa_cons pe_int pa_nil)))) (pg_name (i := 1) sc_law.nd rfl (Or.inr rfl))
        (pss_cons (ps_set (i := 2) sc_law.nd rfl (Or.inr rfl) (C8.pe_c c_law_rule hr (by decide) (by rfl) (pa_cons (pv 1) pa_nil)))
      (pss_cons (ps_set (i := 3) sc_law.nd rfl (Or.inr rfl) (C8.pe_c c_law_log hr (by decide) (by rfl) (pa_cons (pv 1) (pa_cons pe_int (pa_cons (pv 2) pa_nil)))))
      (pss_cons (ps_set (i := 4) sc_law.nd rfl (Or.inl rfl) (pe_lst (pa_cons (pv 2) (pa_cons (pv 3) (pa_cons (pe_callTy call_list_of (by rfl) B.m_list (by decide +kernel) (pa_cons (pv 2) pa_nil)) (pa_cons (pe_callTy call_list_of (by rfl) B.m_list (by decide +kernel) (pa_cons (pv 3) pa_nil)) (pa_cons (pe_tup pa_nil) (pa_cons (pe_tup (pa_cons pe_int (pa_cons pe_int pa_nil))) (pa_cons (pe_tup (pa_cons pe_int (pa_cons pe_int pa_nil))) (pa_cons (pe_tup (pa_cons pe_int (pa_cons pe_int pa_nil))) (pa_cons (pe_tup (pa_cons pe_int (pa_cons pe_int pa_nil))) (pa_cons (pe_tup (pa_cons pe_int (pa_cons pe_int pa_nil))) (pa_cons pe_non (pa_cons pe_int pa_nil))))))))))))))
      (pss_cons (ps_app (pv 4) (pe_tup (pa_cons pe_bl (pa_cons pe_int pa_nil))))
      (pss_cons (ps_set (i := 4) sc_law.nd rfl (Or.inl rfl) (pe_op op_cat (pv 4) (pe_lst (pa_cons (pe_op op_repT (pe_tup (pa_cons pe_int pa_nil)) pe_int) (pa_cons (pe_op op_repT (pe_tup (pa_cons pe_int pa_nil)) pe_int) (pa_cons (pe_tup (pa_cons (pe_op op_pow pe_int pe_int) pa_nil)) (pa_cons (pe_tup (pa_cons (pe_op op_add (pe_op op_pow pe_int pe_int) pe_int) pa_nil)) (pa_cons (pe_tup (pa_cons (pe_un un_neg pe_int) pa_nil)) (pa_cons (pe_tup (pa_cons pe_int (pa_cons pe_int (pa_cons pe_int pa_nil)))) (pa_cons (pe_tup (pa_cons pe_int (pa_cons pe_int pa_nil))) (pa_cons (pe_tup (pa_cons pe_int (pa_cons pe_str pa_nil))) pa_nil)))))))))))
      (pss_cons (ps_set (i := 4) sc_law.nd rfl (Or.inl rfl) (pe_op op_cat (pe_op op_cat (pv 4) (pe_lc (own := [("_law_turn", 5)]) (g := gName 5) rfl sc_law.nd (pi_range1 (by rfl) B.m_range (pa_cons pe_int pa_nil)) (blkOk_by (N := N_law) (sc := defScope s_law) (by decide +kernel)) (fun _ _ _ _ _ => pg_name (i := 5) sc_law.nd rfl (Or.inl rfl)) (fun _ _ _ _ _ => pts_nil) (fun _ _ _ _ _ => C8.pe_c c_law_changed hr (by decide) (by rfl) (pa_cons (pv 1) (pa_cons (pv 2) pa_nil))))) (pe_lc (own := [("_law_turn", 5)]) (g := gName 5) rfl sc_law.nd (pi_range1 (by rfl) B.m_range (pa_cons pe_int pa_nil)) (blkOk_by (N := N_law) (sc := defScope s_law) (by decide +kernel)) (fun _ _ _ _ _ => pg_name (i := 5) sc_law.nd rfl (Or.inl rfl)) (fun _ _ _ _ _ => pts_nil) (fun _ _ _ _ _ => C8.pe_c c_law_changed hr (by decide) (by rfl) (pa_cons (pv 1) (pa_cons (pv 3) pa_nil))))))
      (pss_one (ps_for PassesOwn.never rfl (pi_list (pe_op op_cat (pv 4) (pe_lst (pa_cons (C8.pe_c c_law_changed4 hr (by decide) (by rfl) (pa_cons (pv 1) (pa_cons (pe_ix ix_list (pv 4) (pe_un un_neg pe_int) (fun _ _ => rfl)) pa_nil))) pa_nil)))) (pg_name (i := 6) sc_law.nd rfl (Or.inl rfl))
        (pss_cons (ps_if (PW.pt (pw_or (pt_not (pt_val (C8.pe_c c_law_same hr (by decide) (by rfl) (pa_cons (C8.pe_c c_is_rule hr (by decide) (by rfl) (pa_cons (pv 6) pa_nil)) (pa_cons (C8.pe_c c_law_good_rule hr (by decide) (by rfl) (pa_cons (pv 6) pa_nil)) pa_nil))))) (pw_or1 (pt_not (pt_val (C8.pe_c c_law_same hr (by decide) (by rfl) (pa_cons (C8.pe_c c_is_log hr (by decide) (by rfl) (pa_cons (pv 6) pa_nil)) (pa_cons (C8.pe_c c_law_good_log hr (by decide) (by rfl) (pa_cons (pv 6) pa_nil)) pa_nil)))))))) (pss_one (ps_ret pe_bl)) (pss_nil))
      (pss_cons (ps_if (PW.pt (pw_and (pt_not (pt_val (C8.pe_c c_law_good_rule hr (by decide) (by rfl) (pa_cons (pv 6) pa_nil)))) (pw_and1 (pt_not (pt_val (C8.pe_c c_rule_all_raise hr (by decide) (by rfl) (pa_cons (C8.pe_c c_law_rule_calls hr (by decide) (by rfl) (pa_cons (pv 6) pa_nil)) (pa_cons pe_str pa_nil)))))))) (pss_one (ps_ret pe_bl)) (pss_nil))
      (pss_one (ps_if (PW.pt (pw_and (pt_not (pt_val (C8.pe_c c_law_good_log hr (by decide) (by rfl) (pa_cons (pv 6) pa_nil)))) (pw_and1 (pt_not (pt_val (C8.pe_c c_log_all_raise hr (by decide) (by rfl) (pa_cons (C8.pe_c c_law_log_calls hr (by decide) (by rfl) (pa_cons (pv 6) pa_nil)) (pa_cons pe_str pa_nil)))))))) (pss_one (ps_ret pe_bl)) (pss_nil))))))))))))))
      (pss_one (ps_ret (pe_and (pe_cmpR op_is_bl (C8.pe_c c_is_log hr (by decide) (by rfl) (pa_cons (pe_tup pa_nil) pa_nil)) pe_bl (nomark _)) (pe_one (pe_cmpR op_is_bl (C8.pe_c c_is_rule hr (by decide) (by rfl) (pa_cons (pe_tup (pa_cons pe_int (pa_cons pe_int pa_nil))) pa_nil)) pe_bl (nomark _)))))), ?_⟩
    refine ⟨_, rfl, a, ns, 10, rfl, hS, by decide, hlen, fun H1 p gs bg => ⟨p, rfl, ⟨_, sqL_of bg.lst⟩, ?_⟩⟩
    refine for_list (K := K) (a := p) (xs := gs.map V.ref) (fun i σ H' => ∃ y1 y2 y3 y4 y5 y6 : Option V, σ = [some (.ref a), y1, y2, y3, y4, y5, y6] ∧ H' p = some (.lst (gs.map V.ref)) ∧ Tabs T H' ∧
      ∀ j g, i ≤ j → gs[j]? = some g → Bag H' g 20000) ?_ ?_ ?_ ?_
    · exact ⟨none, none, none, none, none, none, rfl, bg.lst, hT.ext bg.same, fun j g _ hg => bg.bag g (List.mem_of_getElem? hg)⟩
    · rintro i σ H' _ ⟨_, _, _, _, _, _, _, k, _⟩
      exact sqL_of k
    · rintro i x σ H2 hx ⟨y1, y2, y3, y4, y5, y6, rfl, hp2, T2, bb⟩
      obtain ⟨g, hg, rfl⟩ : ∃ g, gs[i]? = some g ∧ x = V.ref g := by
        rw [List.getElem?_map] at hx
        cases e : gs[i]? with
        | none =>
          rw [e] at hx
          cases hx
        | some g =>
          rw [e] at hx
          exact ⟨g, rfl, (Option.some.inj hx).symm⟩
      have b2 : Bag H2 g 20000 := bb i g (Nat.le_refl _) hg
      refine ⟨_, rfl, g, 20000, rfl, b2, by decide, fun H3 r c d hcd b3 k3 hr0 hr3 => ?_⟩
      refine ⟨_, rfl, _, rfl, g, r, 8, c, d, 20004, rfl, b3, sqT_of hr3, ⟨hcd.2.2.1, hcd.2.2.2⟩, by decide, by decide, by decide, fun H4 l ns' lo _ b4 k4 hl4 => ?_⟩
      have hrt4 : SqT K H4 r [.int c, .int d] := k4.sqT b3 (sqT_of hr3)
      have k24 := k3.trans k4
      have sl4 := sl_bag b4
      have dr4 : Dp K (off [g] H4) (.ref r) (.tuple [.int c, .int d]) := .tup (sqT_off hrt4 sl4) (dps_ints [c, d])
      have dl4 : Dp K (off [g] H4) (.ref l) (.tuple (ns'.map PyData.int)) := .tup (sqT_off hl4 sl4) (dps_ints ns')
      have wr : Wd 2 (.tuple [.int c, .int d]) := wd_ints (l := [c, d]) (by show 2 ≤ 100; decide)
      have wl : Wd 2 (.tuple (ns'.map PyData.int)) := wd_ints (Nat.le_trans lo.len (by decide))
      have wl2 : Wd 2 (.list (ns'.map PyData.int)) := wd_intsL (Nat.le_trans lo.len (by decide))
      clear hr3 hr0 k3 k4 b3 sl4
      have a2 : Acc K g H4 H4 [.ref r, .ref l] _ := ((⟨Same.refl _, sl_bag b4, .nil⟩ : Acc K g H4 H4 [] []).one dr4).one dl4
      refine ⟨_, rfl, _, rfl, _, rfl, r, _, rfl, .inr hrt4, fun M1 n1 => ?_⟩
      have a3 := a2.lst (ys := [.int c, .int d]) n1 (dps_ints [c, d])
      generalize upd H4 M1 _ = H5 at a3 ⊢
      refine ⟨_, rfl, l, _, rfl, .inr (same_seqT a3.s hl4), fun M2 n2 => ?_⟩
      have a4 := a3.lst n2 (dps_ints ns')
      generalize upd H5 M2 _ = H6 at a4 ⊢
      refine ⟨Nat.zero_le _, fun p1 m1 => ?_⟩
      have a5 := a4.tup m1 .nil
      generalize upd H6 p1 _ = H7 at a5 ⊢
      refine ⟨(by show 2 ≤ sizeLine; decide), fun p2 m2 => ?_⟩
      have a6 := a5.tup (ys := [.int 0, .int 1]) m2 (dps_ints [0, 1])
      generalize upd H7 p2 _ = H8 at a6 ⊢
      refine ⟨(by show 2 ≤ sizeLine; decide), fun p3 m3 => ?_⟩
      have a7 := a6.tup (ys := [.int 1, .int 0]) m3 (dps_ints [1, 0])
      generalize upd H8 p3 _ = H9 at a7 ⊢
      refine ⟨(by show 2 ≤ sizeLine; decide), fun p4 m4 => ?_⟩
      have a8 := a7.tup (ys := [.int 20, .int 1000]) m4 (dps_ints [20, 1000])
      generalize upd H9 p4 _ = H10 at a8 ⊢
      refine ⟨(by show 2 ≤ sizeLine; decide), fun p5 m5 => ?_⟩
      have a9 := a8.tup (ys := [.int 21, .int 1]) m5 (dps_ints [21, 1])
      generalize upd H10 p5 _ = H11 at a9 ⊢
      refine ⟨(by show 2 ≤ sizeLine; decide), fun p6 m6 => ?_⟩
      have a10 := a9.tup (ys := [.int 1, .int 1001]) m6 (dps_ints [1, 1001])
      generalize upd H11 p6 _ = H12 at a10 ⊢
      have a12 : Acc K g H4 H12 [.ref r, .ref l, .ref M1, .ref M2, .ref p1, .ref p2, .ref p3, .ref p4, .ref p5, .ref p6, .non, .int 5]
          [.tuple [.int c, .int d], .tuple (ns'.map PyData.int), .list [.int c, .int d], .list (ns'.map PyData.int), .tuple [], .tuple [.int 0, .int 1], .tuple [.int 1, .int 0], .tuple [.int 20, .int 1000], .tuple [.int 21, .int 1], .tuple [.int 1, .int 1001], .none, .int 5] :=
        (a10.one .non).one (.int 5)
      have w2 : ∀ x y : Int, Wd 2 (.tuple [.int x, .int y]) := fun x y => wd_ints (l := [x, y]) (by show 2 ≤ 100; decide)
      have w12 := wd_cons wr (wd_cons wl (wd_cons (wd_intsL (l := [c, d]) (by show 2 ≤ 100; decide)) (wd_cons wl2 (wd_cons (wd_ints (l := []) (by decide)) (wd_cons (w2 0 1) (wd_cons (w2 1 0) (wd_cons (w2 20 1000) (wd_cons (w2 21 1) (wd_cons (w2 1 1001) (wd_cons (show Wd 2 .none from ⟨rfl, Nat.le_refl _⟩) (wd_cons (show Wd 2 (.int 5) from sh_int 5) wd_nil)))))))))))
      refine ⟨(by show 12 ≤ sizeLine; decide), fun L nL => ?_⟩
      refine ⟨_, rfl, .inl ⟨rfl, _, sqL_of upd_same⟩, (by show 2 ≤ sizeLine; decide), fun p7 m7 => ?_⟩
      refine ⟨L, _, _, rfl, rfl, same_new m7 _ _ upd_same, (by show 12 < sizeLine; decide), ?_⟩
      obtain ⟨s14, v14⟩ := app_tup (ys := [.bl true, .int 1]) (es := [.bool true, .int 1]) (k := 13) a12 nL m7 (.cons (.bl true) (.cons (.int 1) .nil)) w12 ⟨by show 2 ≤ 100; decide, wd_cons (show Wd 1 (.bool true) from ⟨rfl, Nat.le_refl _⟩) (wd_cons (show Wd 1 (.int 1) from sh_int 1) wd_nil)⟩ rfl
      have dr14 := dp_same (off_keep (List.mem_singleton_self g) (Keep.of_same s14)) dr4
      have dl14 := dp_same (off_keep (List.mem_singleton_self g) (Keep.of_same s14)) dl4
      have b14 := b4.same s14
      have k14 := k24.trans (Keep.of_same s14)
      clear a12 a10 a9 a8 a7 a6 a5 a4 a3 a2 w12 m7 nL m6 m5 m4 m3 m2 m1 n2 n1
      generalize upd (upd (upd H12 L _) p7 _) L _ = H14 at s14 v14 dr14 dl14 b14 k14 ⊢
      clear s14 hl4 hrt4 b4 dr4 dl4 wl2 k24
      clear H5 H6 H7 H8 H9 H10 H11 H12
      obtain ⟨xs, ds, hL, neL, dpL, wL, lenL⟩ := v14
      have a0 : Acc K g H14 H14 [] [] := ⟨Same.refl _, sl_bag b14, .nil⟩
      refine ⟨_, rfl, (by show 1 ≤ sizeLine; decide), fun q1 m1 => ⟨q1, 60, _, rfl, rfl, sqT_of upd_same, List.cons_ne_nil _ _, by decide, by decide, by decide, fun q2 m2 => ?_⟩⟩
      have e0 := a0.skip (o := .tup [.int 0]) m1
      generalize upd H14 q1 _ = H15 at e0 m2 ⊢
      have a1 := e0.tup (ys := (List.replicate (60 : Int).toNat [V.int 0]).flatten) m2 (dps_rep 60)
      generalize upd H15 q2 _ = H16 at a1 ⊢
      refine ⟨(by show 1 ≤ sizeLine; decide), fun q3 m3 => ⟨q3, 61, _, rfl, rfl, sqT_of upd_same, List.cons_ne_nil _ _, by decide, by decide, by decide, fun q4 m4 => ?_⟩⟩
      have e1 := a1.skip (o := .tup [.int 0]) m3
      generalize upd H16 q3 _ = H17 at e1 m4 ⊢
      have a2 := e1.tup (ys := (List.replicate (61 : Int).toNat [V.int 0]).flatten) m4 (dps_rep 61)
      generalize upd H17 q4 _ = H18 at a2 ⊢
      refine ⟨_, _, rfl, rfl, ⟨by decide, by decide, by decide⟩, (by show 1 ≤ sizeLine; decide), fun q5 m5 => ?_⟩
      have a3 := a2.tup (ys := [.int ((10 : Int) ^ (6 : Int).toNat)]) m5 (dps_ints [(10 : Int) ^ (6 : Int).toNat])
      generalize upd H18 q5 _ = H19 at a3 ⊢
      refine ⟨_, _, rfl, rfl, ⟨by decide, by decide, by decide⟩, _, _, rfl, rfl, (by show 1 ≤ sizeLine; decide), fun q6 m6 => ?_⟩
      have a4 := a3.tup (ys := [.int ((10 : Int) ^ (6 : Int).toNat + 1)]) m6 (dps_ints [(10 : Int) ^ (6 : Int).toNat + 1])
      generalize upd H19 q6 _ = H20 at a4 ⊢
      refine ⟨_, rfl, (by show 1 ≤ sizeLine; decide), fun q7 m7 => ?_⟩
      have a5 := a4.tup (ys := [.int (-1)]) m7 (dps_ints [-1])
      generalize upd H20 q7 _ = H21 at a5 ⊢
      refine ⟨(by show 3 ≤ sizeLine; decide), fun q8 m8 => ?_⟩
      have a6 := a5.tup (ys := [.int 1, .int 2, .int 3]) m8 (dps_ints [1, 2, 3])
      generalize upd H21 q8 _ = H22 at a6 ⊢
      refine ⟨(by show 2 ≤ sizeLine; decide), fun q9 m9 => ?_⟩
      have a7 := a6.tup (ys := [.int 3, .int 2]) m9 (dps_ints [3, 2])
      generalize upd H22 q9 _ = H23 at a7 ⊢
      refine ⟨(by show 2 ≤ sizeLine; decide), fun q10 m10 => ?_⟩
      have a8 := a7.tup (ys := [.int 2, .str "3"]) m10 (.cons (.int 2) (.cons (.str "3") .nil) : DpAll K _ [.int 2, .str "3"] [.int 2, .str "3"])
      generalize upd H23 q10 _ = H24 at a8 ⊢
      have a8 : Acc K g H14 H24 [.ref q2, .ref q4, .ref q5, .ref q6, .ref q7, .ref q8, .ref q9, .ref q10]
          [.tuple ((List.replicate 60 (0 : Int)).map PyData.int), .tuple ((List.replicate 61 (0 : Int)).map PyData.int), .tuple ([(10 : Int) ^ (6 : Int).toNat].map PyData.int), .tuple ([(10 : Int) ^ (6 : Int).toNat + 1].map PyData.int), .tuple [.int (-1)], .tuple [.int 1, .int 2, .int 3], .tuple [.int 3, .int 2], .tuple [.int 2, .str "3"]] := a8
      have one : ∀ x : Int, Wd 2 (.tuple ([x].map PyData.int)) := fun x => wd_ints (l := [x]) (by show 1 ≤ 100; decide)
      have w8 := wd_cons (wd_ints (l := List.replicate 60 (0 : Int)) (by rw [List.length_replicate]; decide)) (wd_cons (wd_ints (l := List.replicate 61 (0 : Int)) (by rw [List.length_replicate]; decide)) (wd_cons (one ((10 : Int) ^ (6 : Int).toNat)) (wd_cons (one ((10 : Int) ^ (6 : Int).toNat + 1)) (wd_cons (one (-1)) (wd_cons (wd_ints (l := [1, 2, 3]) (by show 3 ≤ 100; decide)) (wd_cons (w2 3 2)
        (wd_cons (show Wd 2 (.tuple [.int 2, .str "3"]) from ⟨by show 2 ≤ 100; decide, wd_cons (show Wd 1 (.int 2) from sh_int 2) (wd_cons (show Wd 1 (.str "3") from sh_str (by decide +kernel)) wd_nil)⟩) wd_nil)))))))
      refine ⟨(by show 8 ≤ sizeLine; decide), fun L2 n2 => ⟨L, L2, xs, _, rfl, rfl, same_new n2 _ _ (a8.s _ _ hL), upd_same, (by rw [lenL]; show 13 + 8 ≤ sizeLine; decide), fun L3 n3 => ?_⟩⟩
      obtain ⟨s23, v23⟩ := cat_vals a8 n2 n3 dpL wL w8 (k := 21) (by rw [lenL]; rfl)
      have dr23 := dp_same (off_keep (List.mem_singleton_self g) (Keep.of_same s23)) dr14
      have dl23 := dp_same (off_keep (List.mem_singleton_self g) (Keep.of_same s23)) dl14
      have b23 := b14.same s23
      have k23 := k14.trans (Keep.of_same s23)
      clear a8 a7 a6 a5 a4 a3 a2 a1 a0 e1 e0 m10 m9 m8 m7 m6 m5 m4 m3 m2 m1 w8 wL dpL
      generalize upd (upd H24 L2 _) L3 _ = H23 at s23 v23 dr23 dl23 b23 k23 ⊢
      clear s23 dr14 dl14 b14 k14 hL n3 n2
      clear lenL
      clear xs ds
      refine ⟨_, rfl, (6 : Int), rfl, by decide, by decide, fun D nD => ?_⟩
      have neD : D ≠ g := (sl_bag b23).ne ((sl_bag b23).free nD)
      refine lc_range (lo := 0) (n := (6 : Int).toNat) (fun i H' => ChI K g D H23 (20004 + 300) i H') (ChI.zero nD b23) ?_ ?_
      · rintro i H6 hi ci
        have hi : i < 6 := hi
        exact ⟨rfl, _, rfl, _, rfl, [g, D], g, .ref r, _, _, rfl, ci.sl, ci.bag, by omega, dp_same (off_two ci.keep nD) dr23, wr.le (by decide), fun H7 y d' b7 k7 dy wy => ci.next nD neD (by omega) b7 k7 dy wy⟩
      · intro H24 c24
        obtain ⟨xs, ys, e1, e2, le, cat⟩ := Vals.cat (sl_bag c24.bag) (v23.keep c24.keep) (c24.vals neD) (by decide)
        refine ⟨L3, D, xs, ys, rfl, rfl, e1, e2, (by rw [le]; show 21 + 6 ≤ sizeLine; decide), fun L4 n4 => ?_⟩
        have v25 := cat L4 n4
        have k25 := c24.keep.trans (Keep.new (o := .lst (xs ++ ys)) n4)
        have b25 := c24.bag.same (same_new (o := .lst (xs ++ ys)) n4)
        generalize upd H24 L4 _ = H25 at v25 k25 b25 ⊢
        have dl25 := dp_same (off_keep (List.mem_singleton_self g) k25) dl23
        have k25 := k23.trans k25
        clear e1 e2 le cat n4 c24 dr23 v23 b23 k23 dl23
        clear xs ys H24 neD nD
        refine ⟨(6 : Int), rfl, by decide, by decide, fun D2 nD2 => ?_⟩
        have neD : D2 ≠ g := (sl_bag b25).ne ((sl_bag b25).free nD2)
        refine lc_range (lo := 0) (n := (6 : Int).toNat) (fun i H' => ChI K g D2 H25 (20004 + 300 + 9 * ((6 : Nat) : Int)) i H') (ChI.zero nD2 b25) ?_ ?_
        · rintro i H6 hi ci
          have hi : i < 6 := hi
          exact ⟨rfl, _, rfl, _, rfl, [g, D2], g, .ref l, _, _, rfl, ci.sl, ci.bag, by omega, dp_same (off_two ci.keep nD2) dl25, wl.le (by decide), fun H7 y d' b7 k7 dy wy => ci.next nD2 neD (by omega) b7 k7 dy wy⟩
        · intro H26 c26
          obtain ⟨xs, ys, e1, e2, le, cat⟩ := Vals.cat (sl_bag c26.bag) (v25.keep c26.keep) (c26.vals neD) (by decide)
          refine ⟨L4, D2, xs, ys, rfl, rfl, e1, e2, (by rw [le]; show 27 + 6 ≤ sizeLine; decide), fun L5 n5 => ?_⟩
          have v27 := cat L5 n5
          have k27 := k25.trans (c26.keep.trans (Keep.new (o := .lst (xs ++ ys)) n5))
          have b27 := c26.bag.same (same_new (o := .lst (xs ++ ys)) n5)
          generalize upd H26 L5 _ = H27 at v27 k27 b27 ⊢
          clear e1 e2 le cat n5 c26 v25 b25 k25 dl25
          clear xs ys H26 neD nD2
          obtain ⟨xs, ds, hL, neL, dp, wd, len⟩ := v27
          obtain ⟨v, dv, hv, pv, mv⟩ := last_of dp (by rw [len]; decide)
          refine ⟨_, rfl, _, rfl, _, rfl, _, rfl, L5, xs, -1, v, rfl, rfl, sqL_of hL, hv, [g], g, v, dv, _, rfl, sl_bag b27, b27, by decide, pv, wd dv mv, fun H28 y d' b28 k28 dy wy => ⟨(by show 1 ≤ sizeLine; decide), fun L6 n6 => ?_⟩⟩
          refine ⟨L5, L6, xs, [y], rfl, rfl, same_new n6 _ _ (k28 _ _ neL hL), upd_same, (by rw [len]; show 33 + 1 ≤ sizeLine; decide), fun M nM => ?_⟩
          obtain ⟨s29, v29⟩ := cat_vals (⟨Same.refl _, sl_bag b28, .cons dy .nil⟩ : Acc K g H28 H28 [y] [d']) n6 nM (dps_same (off_keep (List.mem_singleton_self g) k28) dp) (n := 5) (k := 34) (fun d m => (wd d m).up) (wd_cons wy wd_nil) (by rw [len]; rfl)
          have b29 := b28.same s29
          have k29 := k27.trans (k28.trans (Keep.of_same s29))
          generalize upd (upd H28 L6 _) M _ = H29 at v29 b29 k29 ⊢
          clear s29 nM n6 dy k28 b28 pv hv dp hL b27 k27
          clear neL wd mv len xs ds
          obtain ⟨xs, ds, hM, neM, dp, wd, len⟩ := v29
          have dp := dps_same off_same dp
          refine ⟨M, rfl, ⟨_, sqL_of hM⟩, ?_⟩
          refine for_list (K := K) (a := M) (xs := xs) (fun j σ H' => ∃ z5 z6 : Option V, σ = [some (.ref a), some (.ref g), some (.ref r), some (.ref l), some (.ref L5), z5, z6] ∧ ExtN H29 H' ∧ Tabs T H') ?_ ?_ ?_ ?_
          · exact ⟨_, _, rfl, ExtN.refl _, tabs_keep b2 k29 T2⟩
          · rintro j σ H' _ ⟨_, _, _, e, _⟩
            exact sqL_of (e _ _ hM fun _ z => by cases z)
          · rintro j x σ H30 hx ⟨z5, z6, rfl, e30, T30⟩
            obtain ⟨dx, hdx, px⟩ := dps_get dp hx
            have wx := wd dx (List.mem_of_getElem? hdx)
            have px := dp_move (seqs_ext e30) px
            refine ⟨_, rfl, x, dx, rfl, px, _, rfl, x, dx, rfl, px, .bl (ruleD dx), .bl (ruleD dx), .bool (ruleD dx), rfl, .bl _, .bl _, trivial, fun H31 s31 => ⟨_, rfl, iteF ?_⟩⟩
            refine ⟨_, rfl, x, dx, rfl, dp_same s31 px, fun H32 s32 => ⟨_, rfl, x, dx, rfl, dp_same (s31.trans s32) px, wx.sh.mono (by decide), fun H33 s33 => ⟨.bl (logD dx), .bl (logD dx), .bool (logD dx), rfl, .bl _, .bl _, trivial, fun H34 s34 => ⟨_, rfl, iteF ?_⟩⟩⟩⟩
            have s3034 := s31.trans (s32.trans (s33.trans s34))
            have px34 := dp_same s3034 px
            have e34 := e30.trans (ExtN.of s3034)
            have T34 := T30.ext s3034
            refine ⟨_, rfl, x, dx, rfl, px34, _, rfl, ite2 (fun c1 => ?_) (fun c1 => iteF ?_)⟩
            · have bad : ruleD dx = false := by simpa using c1
              refine ⟨_, rfl, x, dx, rfl, px34, bad, T34, fun H35 L fs e35 T35 hL35 l35 ra => ?_⟩
              refine ⟨L, fs, rfl, sqL_of hL35, fun f m H1 e1 => raises_of (ra f m) H1 e1, fun H35b s35 => ⟨_, rfl, iteF ?_⟩⟩
              have e36 := e34.trans (e35.trans (ExtN.of s35))
              have T36 := T35.ext s35
              have px36 := dp_move (seqs_ext (e35.trans (ExtN.of s35))) px34
              refine ⟨_, rfl, x, dx, rfl, px36, wx.sh.mono (by decide), fun H36 s36 => ⟨_, rfl, ite2 (fun c2 => ?_) (fun c2 => ?_)⟩⟩
              · have bad : logD dx = false := by simpa using c2
                refine ⟨_, rfl, x, dx, rfl, dp_same s36 px36, bad, (T36).ext s36, fun H37 L fs e37 T37 hL37 l37 ra => ?_⟩
                refine ⟨L, fs, rfl, sqL_of hL37, fun f m H1 e1 => raises_of (ra f m) H1 e1, fun H38 s38 => ⟨_, rfl, iteF ?_⟩⟩
                exact ⟨_, _, rfl, (e36).trans ((ExtN.of s36).trans (e37.trans (ExtN.of s38))), T37.ext s38⟩
              · exact iteF ⟨_, _, rfl, (e36).trans (ExtN.of s36), (T36).ext s36⟩
            · refine ⟨_, rfl, x, dx, rfl, px34, wx.sh.mono (by decide), fun H36 s36 => ⟨_, rfl, ite2 (fun c2 => ?_) (fun c2 => ?_)⟩⟩
              · have bad : logD dx = false := by simpa using c2
                refine ⟨_, rfl, x, dx, rfl, dp_same s36 px34, bad, (T34).ext s36, fun H37 L fs e37 T37 hL37 l37 ra => ?_⟩
                refine ⟨L, fs, rfl, sqL_of hL37, fun f m H1 e1 => raises_of (ra f m) H1 e1, fun H38 s38 => ⟨_, rfl, iteF ?_⟩⟩
                exact ⟨_, _, rfl, (e34).trans ((ExtN.of s36).trans (e37.trans (ExtN.of s38))), T37.ext s38⟩
              · exact iteF ⟨_, _, rfl, (e34).trans (ExtN.of s36), (T34).ext s36⟩
          · rintro σ H30 ⟨z5, z6, rfl, e30, T30⟩
            refine ⟨_, _, _, _, _, _, rfl, e30 _ _ (k29 _ _ (fun z => bg.np (z ▸ List.mem_of_getElem? hg)) hp2) (fun _ z => by cases z), T30, fun j g' hj hg' => ?_⟩
            have ne : g' ≠ g := fun z => by
              rw [z] at hg'
              have := nd_ix bg.nd hg' hg
              omega
            obtain ⟨x1, x2, x3, e1, e2⟩ := bb j g' (by omega) hg'
            exact ⟨x1, x2, x3, e30 _ _ (k29 _ _ ne e1) (fun _ z => by cases z), e2⟩
    · rintro σ H2 ⟨y1, y2, y3, y4, y5, y6, rfl, _⟩
      refine ⟨Nat.zero_le _, fun A1 n1 => ?_⟩
      refine ⟨.ref A1, .tuple [], rfl, dp_nilT upd_same, fun H3 s3 => ?_⟩
      have e1 : logD (.tuple []) = true := by decide
      have e2 : ruleD (.tuple [.int 20, .int 1000]) = true := by decide
      rw [e1]
      refine ⟨true, true, rfl, rfl, _, rfl, iteT ⟨(by show 2 ≤ sizeLine; decide), fun A2 n2 => ⟨.ref A2, .tuple [.int 20, .int 1000], rfl, .tup (sqT_of upd_same) (dps_ints [20, 1000]), ?_⟩⟩⟩
      rw [e2]
      exact ⟨true, true, rfl, rfl, q _⟩
end
end Au
set_option maxHeartbeats 8000000
/-! The end. -/
namespace Au
open PySem PySem.Spec PyProof.Rows L2 L2H HotX AuH LamX
theorem defT_mk {K : PySem.W.Frag} {h : Heap} {mg : Str → Option Value} {x : Str} {st : Stmt} {ps : List Str} {f : Addr} {oc : Value} {od an : Option Addr} {osl : Array (Option Value)} {kV doc pm cdv ct : Value} (X : K.In h) (G : h.Ns mainGlobals mg)
    (a : PySem.W.nsIn K mainGlobals x = some (some (.ref f))) (l : K.lookup f = some ⟨oc, od, .func (PySem.W.fnOf x x (defArgs st) (defBody st) (defScope st) .none kV doc pm an cdv ct), osl⟩) (c : PySem.W.codeIn K cdv x = true) (k : PySem.W.keepIn K (.ref f) = true)
    (b : ∀ (kV doc pm : Value) (an : Option Addr) (cdv ct : Value) (us : List Value), us.length = ps.length → bindArgs (PySem.W.fnOf x x (defArgs st) (defBody st) (defScope st) .none kV doc pm an cdv ct) ⟨us, []⟩ = pure (ps.zip us)) : DefT K mg x st ps :=
  ⟨f, _, fun_mk l c k, PySem.W.mg_of X G a, (fun_mk (st := st) l c k).binds b⟩
theorem all_mk {l : PySem.W.OpenLaw} {w : World} {K : PySem.W.Frag} {h : Heap} {mg : Str → Option Value} {fa : Addr} {od0 an0 : Option Addr} {sl0 : Array (Option Value)} {oc0 kV0 dc0 pm0 cd0 ct0 : Value}
    {f0 : Addr}
    {od1 an1 : Option Addr} {sl1 : Array (Option Value)} {oc1 kV1 dc1 pm1 cd1 ct1 : Value}
    {f1 : Addr}
    {od2 an2 : Option Addr} {sl2 : Array (Option Value)} {oc2 kV2 dc2 pm2 cd2 ct2 : Value}
    {f2 : Addr}
    {od3 an3 : Option Addr} {sl3 : Array (Option Value)} {oc3 kV3 dc3 pm3 cd3 ct3 : Value}
    {f3 : Addr}
    {od4 an4 : Option Addr} {sl4 : Array (Option Value)} {oc4 kV4 dc4 pm4 cd4 ct4 : Value}
    {f4 : Addr}
    {od5 an5 : Option Addr} {sl5 : Array (Option Value)} {oc5 kV5 dc5 pm5 cd5 ct5 : Value}
    {f5 : Addr}
    {od6 an6 : Option Addr} {sl6 : Array (Option Value)} {oc6 kV6 dc6 pm6 cd6 ct6 : Value}
    {f6 : Addr}
    {od7 an7 : Option Addr} {sl7 : Array (Option Value)} {oc7 kV7 dc7 pm7 cd7 ct7 : Value}
    {f7 : Addr}
    {od8 an8 : Option Addr} {sl8 : Array (Option Value)} {oc8 kV8 dc8 pm8 cd8 ct8 : Value}
    {f8 : Addr}
    {od9 an9 : Option Addr} {sl9 : Array (Option Value)} {oc9 kV9 dc9 pm9 cd9 ct9 : Value}
    {f9 : Addr}
    {od10 an10 : Option Addr} {sl10 : Array (Option Value)} {oc10 kV10 dc10 pm10 cd10 ct10 : Value}
    {f10 : Addr}
    {od11 an11 : Option Addr} {sl11 : Array (Option Value)} {oc11 kV11 dc11 pm11 cd11 ct11 : Value}
    {f11 : Addr}
    {od12 an12 : Option Addr} {sl12 : Array (Option Value)} {oc12 kV12 dc12 pm12 cd12 ct12 : Value}
    {f12 : Addr}
    {od13 an13 : Option Addr} {sl13 : Array (Option Value)} {oc13 kV13 dc13 pm13 cd13 ct13 : Value}
    {f13 : Addr}
    {od14 an14 : Option Addr} {sl14 : Array (Option Value)} {oc14 kV14 dc14 pm14 cd14 ct14 : Value}
    {f14 : Addr}
    {od15 an15 : Option Addr} {sl15 : Array (Option Value)} {oc15 kV15 dc15 pm15 cd15 ct15 : Value}
    {f15 : Addr}
    {od16 an16 : Option Addr} {sl16 : Array (Option Value)} {oc16 kV16 dc16 pm16 cd16 ct16 : Value}
    {f16 : Addr}
    {od17 an17 : Option Addr} {sl17 : Array (Option Value)} {oc17 kV17 dc17 pm17 cd17 ct17 : Value}
    {f17 : Addr}
    {od18 an18 : Option Addr} {sl18 : Array (Option Value)} {oc18 kV18 dc18 pm18 cd18 ct18 : Value}
    {f18 : Addr}
    {od19 an19 : Option Addr} {sl19 : Array (Option Value)} {oc19 kV19 dc19 pm19 cd19 ct19 : Value}
    {f19 : Addr}
    {od20 an20 : Option Addr} {sl20 : Array (Option Value)} {oc20 kV20 dc20 pm20 cd20 ct20 : Value}
    {f20 : Addr}
    {od21 an21 : Option Addr} {sl21 : Array (Option Value)} {oc21 kV21 dc21 pm21 cd21 ct21 : Value}
    {f21 : Addr}
    {od22 an22 : Option Addr} {sl22 : Array (Option Value)} {oc22 kV22 dc22 pm22 cd22 ct22 : Value}
    {f22 : Addr}
    {od23 an23 : Option Addr} {sl23 : Array (Option Value)} {oc23 kV23 dc23 pm23 cd23 ct23 : Value}
    {f23 : Addr}
    {od24 an24 : Option Addr} {sl24 : Array (Option Value)} {oc24 kV24 dc24 pm24 cd24 ct24 : Value}
    {f24 : Addr}
    {od25 an25 : Option Addr} {sl25 : Array (Option Value)} {oc25 kV25 dc25 pm25 cd25 ct25 : Value}
    {f25 : Addr}
    {od26 an26 : Option Addr} {sl26 : Array (Option Value)} {oc26 kV26 dc26 pm26 cd26 ct26 : Value}
    {f26 : Addr}
    {od27 an27 : Option Addr} {sl27 : Array (Option Value)} {oc27 kV27 dc27 pm27 cd27 ct27 : Value}
    {f27 : Addr}
    {od28 an28 : Option Addr} {sl28 : Array (Option Value)} {oc28 kV28 dc28 pm28 cd28 ct28 : Value}
    {f28 : Addr}
    {od29 an29 : Option Addr} {sl29 : Array (Option Value)} {oc29 kV29 dc29 pm29 cd29 ct29 : Value}
    {f29 : Addr}
    {od30 an30 : Option Addr} {sl30 : Array (Option Value)} {oc30 kV30 dc30 pm30 cd30 ct30 : Value}
    {f30 : Addr}
    {od31 an31 : Option Addr} {sl31 : Array (Option Value)} {oc31 kV31 dc31 pm31 cd31 ct31 : Value}
    {f31 : Addr}
    {od32 an32 : Option Addr} {sl32 : Array (Option Value)} {oc32 kV32 dc32 pm32 cd32 ct32 : Value}
    {f32 : Addr}
    {od33 an33 : Option Addr} {sl33 : Array (Option Value)} {oc33 kV33 dc33 pm33 cd33 ct33 : Value}
    {f33 : Addr}
    {od34 an34 : Option Addr} {sl34 : Array (Option Value)} {oc34 kV34 dc34 pm34 cd34 ct34 : Value}
    {f34 : Addr}
    {od35 an35 : Option Addr} {sl35 : Array (Option Value)} {oc35 kV35 dc35 pm35 cd35 ct35 : Value}
    {f35 : Addr}
    {od36 an36 : Option Addr} {sl36 : Array (Option Value)} {oc36 kV36 dc36 pm36 cd36 ct36 : Value}
    {f36 : Addr}
    {od37 an37 : Option Addr} {sl37 : Array (Option Value)} {oc37 kV37 dc37 pm37 cd37 ct37 : Value}
    {f37 : Addr}
    {od38 an38 : Option Addr} {sl38 : Array (Option Value)} {oc38 kV38 dc38 pm38 cd38 ct38 : Value}
    {f38 : Addr}
    {od39 an39 : Option Addr} {sl39 : Array (Option Value)} {oc39 kV39 dc39 pm39 cd39 ct39 : Value}
    {f39 : Addr}
    {od40 an40 : Option Addr} {sl40 : Array (Option Value)} {oc40 kV40 dc40 pm40 cd40 ct40 : Value}
    {f40 : Addr}
    {od41 an41 : Option Addr} {sl41 : Array (Option Value)} {oc41 kV41 dc41 pm41 cd41 ct41 : Value}
    {f41 : Addr}
    {od42 an42 : Option Addr} {sl42 : Array (Option Value)} {oc42 kV42 dc42 pm42 cd42 ct42 : Value}
    {f42 : Addr}
    {od43 an43 : Option Addr} {sl43 : Array (Option Value)} {oc43 kV43 dc43 pm43 cd43 ct43 : Value}
    {f43 : Addr}
    {od44 an44 : Option Addr} {sl44 : Array (Option Value)} {oc44 kV44 dc44 pm44 cd44 ct44 : Value}
    {f44 : Addr}
    {kd45 : Addr}
    {od45 an45 : Option Addr} {sl45 : Array (Option Value)} {oc45 dc45 pm45 cd45 ct45 : Value} {f45 : Addr}
    {kd46 : Addr}
    {od46 an46 : Option Addr} {sl46 : Array (Option Value)} {oc46 dc46 pm46 cd46 ct46 : Value} {f46 : Addr}
    {q0 P0 : Addr} {to0 : Option Addr} {tv0 : Array Value} {ts0 : Array (Option Value)}
    {od47 an47 : Option Addr} {sl47 : Array (Option Value)} {oc47 kV47 dc47 pm47 ct47 : Value}
    {f47 : Addr}
    {q1 P1 : Addr} {to1 : Option Addr} {tv1 : Array Value} {ts1 : Array (Option Value)}
    {od48 an48 : Option Addr} {sl48 : Array (Option Value)} {oc48 kV48 dc48 pm48 ct48 : Value}
    {f48 : Addr}
    {DC : Addr}
    {od49 an49 : Option Addr} {sl49 : Array (Option Value)} {oc49 kV49 dc49 pm49 cd49 ct49 : Value}
    {f49 : Addr}
    {CR : Addr}
    {CL : Addr}
    {SE : Addr}
    {W0 : Addr}
    {W1 : Addr}
    {W2 : Addr}
    {W3 : Addr}
    {W4 : Addr}
    {W5 : Addr}
    {W6 : Addr}
    {W7 : Addr}
    {t_MOST_COUNT : Tok}
    {t_MOST_IDLE : Tok}
    {t_MOST_EDITS : Tok}
    {t_LAST : Tok}
    {t_FAR : Tok}
    {od50 an50 : Option Addr} {sl50 : Array (Option Value)} {oc50 kV50 dc50 pm50 cd50 ct50 : Value}
    {f50 : Addr}
    (X : K.In h) (G : h.Ns mainGlobals mg) (hfa : mg "law" = some (.ref fa))
    (a0 : PySem.W.nsIn K mainGlobals "in_range" = some (some (.ref f0)))
    (l0 : K.lookup f0 = some ⟨oc0, od0, .func (PySem.W.fnOf "in_range" "in_range" (defArgs s_in_range) (defBody s_in_range) (defScope s_in_range) .none kV0 dc0 pm0 an0 cd0 ct0), sl0⟩)
    (c0 : PySem.W.codeIn K cd0 "in_range" = true)
    (k0 : PySem.W.keepIn K (.ref f0) = true)
    (a1 : PySem.W.nsIn K mainGlobals "is_rule" = some (some (.ref f1)))
    (l1 : K.lookup f1 = some ⟨oc1, od1, .func (PySem.W.fnOf "is_rule" "is_rule" (defArgs s_is_rule) (defBody s_is_rule) (defScope s_is_rule) .none kV1 dc1 pm1 an1 cd1 ct1), sl1⟩)
    (c1 : PySem.W.codeIn K cd1 "is_rule" = true)
    (k1 : PySem.W.keepIn K (.ref f1) = true)
    (a2 : PySem.W.nsIn K mainGlobals "is_log" = some (some (.ref f2)))
    (l2 : K.lookup f2 = some ⟨oc2, od2, .func (PySem.W.fnOf "is_log" "is_log" (defArgs s_is_log) (defBody s_is_log) (defScope s_is_log) .none kV2 dc2 pm2 an2 cd2 ct2), sl2⟩)
    (c2 : PySem.W.codeIn K cd2 "is_log" = true)
    (k2 : PySem.W.keepIn K (.ref f2) = true)
    (a3 : PySem.W.nsIn K mainGlobals "check_rule" = some (some (.ref f3)))
    (l3 : K.lookup f3 = some ⟨oc3, od3, .func (PySem.W.fnOf "check_rule" "check_rule" (defArgs s_check_rule) (defBody s_check_rule) (defScope s_check_rule) .none kV3 dc3 pm3 an3 cd3 ct3), sl3⟩)
    (c3 : PySem.W.codeIn K cd3 "check_rule" = true)
    (k3 : PySem.W.keepIn K (.ref f3) = true)
    (a4 : PySem.W.nsIn K mainGlobals "check_log" = some (some (.ref f4)))
    (l4 : K.lookup f4 = some ⟨oc4, od4, .func (PySem.W.fnOf "check_log" "check_log" (defArgs s_check_log) (defBody s_check_log) (defScope s_check_log) .none kV4 dc4 pm4 an4 cd4 ct4), sl4⟩)
    (c4 : PySem.W.codeIn K cd4 "check_log" = true)
    (k4 : PySem.W.keepIn K (.ref f4) = true)
    (a5 : PySem.W.nsIn K mainGlobals "check_time" = some (some (.ref f5)))
    (l5 : K.lookup f5 = some ⟨oc5, od5, .func (PySem.W.fnOf "check_time" "check_time" (defArgs s_check_time) (defBody s_check_time) (defScope s_check_time) .none kV5 dc5 pm5 an5 cd5 ct5), sl5⟩)
    (c5 : PySem.W.codeIn K cd5 "check_time" = true)
    (k5 : PySem.W.keepIn K (.ref f5) = true)
    (a6 : PySem.W.nsIn K mainGlobals "unsaved" = some (some (.ref f6)))
    (l6 : K.lookup f6 = some ⟨oc6, od6, .func (PySem.W.fnOf "unsaved" "unsaved" (defArgs s_unsaved) (defBody s_unsaved) (defScope s_unsaved) .none kV6 dc6 pm6 an6 cd6 ct6), sl6⟩)
    (c6 : PySem.W.codeIn K cd6 "unsaved" = true)
    (k6 : PySem.W.keepIn K (.ref f6) = true)
    (a7 : PySem.W.nsIn K mainGlobals "lost" = some (some (.ref f7)))
    (l7 : K.lookup f7 = some ⟨oc7, od7, .func (PySem.W.fnOf "lost" "lost" (defArgs s_lost) (defBody s_lost) (defScope s_lost) .none kV7 dc7 pm7 an7 cd7 ct7), sl7⟩)
    (c7 : PySem.W.codeIn K cd7 "lost" = true)
    (k7 : PySem.W.keepIn K (.ref f7) = true)
    (a8 : PySem.W.nsIn K mainGlobals "saves" = some (some (.ref f8)))
    (l8 : K.lookup f8 = some ⟨oc8, od8, .func (PySem.W.fnOf "saves" "saves" (defArgs s_saves) (defBody s_saves) (defScope s_saves) .none kV8 dc8 pm8 an8 cd8 ct8), sl8⟩)
    (c8 : PySem.W.codeIn K cd8 "saves" = true)
    (k8 : PySem.W.keepIn K (.ref f8) = true)
    (a9 : PySem.W.nsIn K mainGlobals "saves_until" = some (some (.ref f9)))
    (l9 : K.lookup f9 = some ⟨oc9, od9, .func (PySem.W.fnOf "saves_until" "saves_until" (defArgs s_saves_until) (defBody s_saves_until) (defScope s_saves_until) .none kV9 dc9 pm9 an9 cd9 ct9), sl9⟩)
    (c9 : PySem.W.codeIn K cd9 "saves_until" = true)
    (k9 : PySem.W.keepIn K (.ref f9) = true)
    (a10 : PySem.W.nsIn K mainGlobals "most_unsaved" = some (some (.ref f10)))
    (l10 : K.lookup f10 = some ⟨oc10, od10, .func (PySem.W.fnOf "most_unsaved" "most_unsaved" (defArgs s_most_unsaved) (defBody s_most_unsaved) (defScope s_most_unsaved) .none kV10 dc10 pm10 an10 cd10 ct10), sl10⟩)
    (c10 : PySem.W.codeIn K cd10 "most_unsaved" = true)
    (k10 : PySem.W.keepIn K (.ref f10) = true)
    (a11 : PySem.W.nsIn K mainGlobals "largest_excess" = some (some (.ref f11)))
    (l11 : K.lookup f11 = some ⟨oc11, od11, .func (PySem.W.fnOf "largest_excess" "largest_excess" (defArgs s_largest_excess) (defBody s_largest_excess) (defScope s_largest_excess) .none kV11 dc11 pm11 an11 cd11 ct11), sl11⟩)
    (c11 : PySem.W.codeIn K cd11 "largest_excess" = true)
    (k11 : PySem.W.keepIn K (.ref f11) = true)
    (a12 : PySem.W.nsIn K mainGlobals "never_loses_more" = some (some (.ref f12)))
    (l12 : K.lookup f12 = some ⟨oc12, od12, .func (PySem.W.fnOf "never_loses_more" "never_loses_more" (defArgs s_never_loses_more) (defBody s_never_loses_more) (defScope s_never_loses_more) .none kV12 dc12 pm12 an12 cd12 ct12), sl12⟩)
    (c12 : PySem.W.codeIn K cd12 "never_loses_more" = true)
    (k12 : PySem.W.keepIn K (.ref f12) = true)
    (a13 : PySem.W.nsIn K mainGlobals "never_saves_more" = some (some (.ref f13)))
    (l13 : K.lookup f13 = some ⟨oc13, od13, .func (PySem.W.fnOf "never_saves_more" "never_saves_more" (defArgs s_never_saves_more) (defBody s_never_saves_more) (defScope s_never_saves_more) .none kV13 dc13 pm13 an13 cd13 ct13), sl13⟩)
    (c13 : PySem.W.codeIn K cd13 "never_saves_more" = true)
    (k13 : PySem.W.keepIn K (.ref f13) = true)
    (a14 : PySem.W.nsIn K mainGlobals "alike" = some (some (.ref f14)))
    (l14 : K.lookup f14 = some ⟨oc14, od14, .func (PySem.W.fnOf "alike" "alike" (defArgs s_alike) (defBody s_alike) (defScope s_alike) .none kV14 dc14 pm14 an14 cd14 ct14), sl14⟩)
    (c14 : PySem.W.codeIn K cd14 "alike" = true)
    (k14 : PySem.W.keepIn K (.ref f14) = true)
    (a15 : PySem.W.nsIn K mainGlobals "telling_loss" = some (some (.ref f15)))
    (l15 : K.lookup f15 = some ⟨oc15, od15, .func (PySem.W.fnOf "telling_loss" "telling_loss" (defArgs s_telling_loss) (defBody s_telling_loss) (defScope s_telling_loss) .none kV15 dc15 pm15 an15 cd15 ct15), sl15⟩)
    (c15 : PySem.W.codeIn K cd15 "telling_loss" = true)
    (k15 : PySem.W.keepIn K (.ref f15) = true)
    (a16 : PySem.W.nsIn K mainGlobals "telling_saves" = some (some (.ref f16)))
    (l16 : K.lookup f16 = some ⟨oc16, od16, .func (PySem.W.fnOf "telling_saves" "telling_saves" (defArgs s_telling_saves) (defBody s_telling_saves) (defScope s_telling_saves) .none kV16 dc16 pm16 an16 cd16 ct16), sl16⟩)
    (c16 : PySem.W.codeIn K cd16 "telling_saves" = true)
    (k16 : PySem.W.keepIn K (.ref f16) = true)
    (a17 : PySem.W.nsIn K mainGlobals "regular_saves" = some (some (.ref f17)))
    (l17 : K.lookup f17 = some ⟨oc17, od17, .func (PySem.W.fnOf "regular_saves" "regular_saves" (defArgs s_regular_saves) (defBody s_regular_saves) (defScope s_regular_saves) .none kV17 dc17 pm17 an17 cd17 ct17), sl17⟩)
    (c17 : PySem.W.codeIn K cd17 "regular_saves" = true)
    (k17 : PySem.W.keepIn K (.ref f17) = true)
    (a18 : PySem.W.nsIn K mainGlobals "burst_saves" = some (some (.ref f18)))
    (l18 : K.lookup f18 = some ⟨oc18, od18, .func (PySem.W.fnOf "burst_saves" "burst_saves" (defArgs s_burst_saves) (defBody s_burst_saves) (defScope s_burst_saves) .none kV18 dc18 pm18 an18 cd18 ct18), sl18⟩)
    (c18 : PySem.W.codeIn K cd18 "burst_saves" = true)
    (k18 : PySem.W.keepIn K (.ref f18) = true)
    (a19 : PySem.W.nsIn K mainGlobals "both" = some (some (.ref f19)))
    (l19 : K.lookup f19 = some ⟨oc19, od19, .func (PySem.W.fnOf "both" "both" (defArgs s_both) (defBody s_both) (defScope s_both) .none kV19 dc19 pm19 an19 cd19 ct19), sl19⟩)
    (c19 : PySem.W.codeIn K cd19 "both" = true)
    (k19 : PySem.W.keepIn K (.ref f19) = true)
    (a20 : PySem.W.nsIn K mainGlobals "rows_of" = some (some (.ref f20)))
    (l20 : K.lookup f20 = some ⟨oc20, od20, .func (PySem.W.fnOf "rows_of" "rows_of" (defArgs s_rows_of) (defBody s_rows_of) (defScope s_rows_of) .none kV20 dc20 pm20 an20 cd20 ct20), sl20⟩)
    (c20 : PySem.W.codeIn K cd20 "rows_of" = true)
    (k20 : PySem.W.keepIn K (.ref f20) = true)
    (a21 : PySem.W.nsIn K mainGlobals "longest_idle" = some (some (.ref f21)))
    (l21 : K.lookup f21 = some ⟨oc21, od21, .func (PySem.W.fnOf "longest_idle" "longest_idle" (defArgs s_longest_idle) (defBody s_longest_idle) (defScope s_longest_idle) .none kV21 dc21 pm21 an21 cd21 ct21), sl21⟩)
    (c21 : PySem.W.codeIn K cd21 "longest_idle" = true)
    (k21 : PySem.W.keepIn K (.ref f21) = true)
    (a22 : PySem.W.nsIn K mainGlobals "fewest_saves" = some (some (.ref f22)))
    (l22 : K.lookup f22 = some ⟨oc22, od22, .func (PySem.W.fnOf "fewest_saves" "fewest_saves" (defArgs s_fewest_saves) (defBody s_fewest_saves) (defScope s_fewest_saves) .none kV22 dc22 pm22 an22 cd22 ct22), sl22⟩)
    (c22 : PySem.W.codeIn K cd22 "fewest_saves" = true)
    (k22 : PySem.W.keepIn K (.ref f22) = true)
    (a23 : PySem.W.nsIn K mainGlobals "best_rule" = some (some (.ref f23)))
    (l23 : K.lookup f23 = some ⟨oc23, od23, .func (PySem.W.fnOf "best_rule" "best_rule" (defArgs s_best_rule) (defBody s_best_rule) (defScope s_best_rule) .none kV23 dc23 pm23 an23 cd23 ct23), sl23⟩)
    (c23 : PySem.W.codeIn K cd23 "best_rule" = true)
    (k23 : PySem.W.keepIn K (.ref f23) = true)
    (a24 : PySem.W.nsIn K mainGlobals "fitting_rules" = some (some (.ref f24)))
    (l24 : K.lookup f24 = some ⟨oc24, od24, .func (PySem.W.fnOf "fitting_rules" "fitting_rules" (defArgs s_fitting_rules) (defBody s_fitting_rules) (defScope s_fitting_rules) .none kV24 dc24 pm24 an24 cd24 ct24), sl24⟩)
    (c24 : PySem.W.codeIn K cd24 "fitting_rules" = true)
    (k24 : PySem.W.keepIn K (.ref f24) = true)
    (a25 : PySem.W.nsIn K mainGlobals "fitting_by_losses" = some (some (.ref f25)))
    (l25 : K.lookup f25 = some ⟨oc25, od25, .func (PySem.W.fnOf "fitting_by_losses" "fitting_by_losses" (defArgs s_fitting_by_losses) (defBody s_fitting_by_losses) (defScope s_fitting_by_losses) .none kV25 dc25 pm25 an25 cd25 ct25), sl25⟩)
    (c25 : PySem.W.codeIn K cd25 "fitting_by_losses" = true)
    (k25 : PySem.W.keepIn K (.ref f25) = true)
    (a26 : PySem.W.nsIn K mainGlobals "wrong_losses" = some (some (.ref f26)))
    (l26 : K.lookup f26 = some ⟨oc26, od26, .func (PySem.W.fnOf "wrong_losses" "wrong_losses" (defArgs s_wrong_losses) (defBody s_wrong_losses) (defScope s_wrong_losses) .none kV26 dc26 pm26 an26 cd26 ct26), sl26⟩)
    (c26 : PySem.W.codeIn K cd26 "wrong_losses" = true)
    (k26 : PySem.W.keepIn K (.ref f26) = true)
    (a27 : PySem.W.nsIn K mainGlobals "changed_saves" = some (some (.ref f27)))
    (l27 : K.lookup f27 = some ⟨oc27, od27, .func (PySem.W.fnOf "changed_saves" "changed_saves" (defArgs s_changed_saves) (defBody s_changed_saves) (defScope s_changed_saves) .none kV27 dc27 pm27 an27 cd27 ct27), sl27⟩)
    (c27 : PySem.W.codeIn K cd27 "changed_saves" = true)
    (k27 : PySem.W.keepIn K (.ref f27) = true)
    (a28 : PySem.W.nsIn K mainGlobals "alike_from" = some (some (.ref f28)))
    (l28 : K.lookup f28 = some ⟨oc28, od28, .func (PySem.W.fnOf "alike_from" "alike_from" (defArgs s_alike_from) (defBody s_alike_from) (defScope s_alike_from) .none kV28 dc28 pm28 an28 cd28 ct28), sl28⟩)
    (c28 : PySem.W.codeIn K cd28 "alike_from" = true)
    (k28 : PySem.W.keepIn K (.ref f28) = true)
    (a29 : PySem.W.nsIn K mainGlobals "walk" = some (some (.ref f29)))
    (l29 : K.lookup f29 = some ⟨oc29, od29, .func (PySem.W.fnOf "walk" "walk" (defArgs s_walk) (defBody s_walk) (defScope s_walk) .none kV29 dc29 pm29 an29 cd29 ct29), sl29⟩)
    (c29 : PySem.W.codeIn K cd29 "walk" = true)
    (k29 : PySem.W.keepIn K (.ref f29) = true)
    (a30 : PySem.W.nsIn K mainGlobals "_law_well" = some (some (.ref f30)))
    (l30 : K.lookup f30 = some ⟨oc30, od30, .func (PySem.W.fnOf "_law_well" "_law_well" (defArgs s_law_well) (defBody s_law_well) (defScope s_law_well) .none kV30 dc30 pm30 an30 cd30 ct30), sl30⟩)
    (c30 : PySem.W.codeIn K cd30 "_law_well" = true)
    (k30 : PySem.W.keepIn K (.ref f30) = true)
    (a31 : PySem.W.nsIn K mainGlobals "_law_take" = some (some (.ref f31)))
    (l31 : K.lookup f31 = some ⟨oc31, od31, .func (PySem.W.fnOf "_law_take" "_law_take" (defArgs s_law_take) (defBody s_law_take) (defScope s_law_take) .none kV31 dc31 pm31 an31 cd31 ct31), sl31⟩)
    (c31 : PySem.W.codeIn K cd31 "_law_take" = true)
    (k31 : PySem.W.keepIn K (.ref f31) = true)
    (a32 : PySem.W.nsIn K mainGlobals "_law_bags" = some (some (.ref f32)))
    (l32 : K.lookup f32 = some ⟨oc32, od32, .func (PySem.W.fnOf "_law_bags" "_law_bags" (defArgs s_law_bags) (defBody s_law_bags) (defScope s_law_bags) .none kV32 dc32 pm32 an32 cd32 ct32), sl32⟩)
    (c32 : PySem.W.codeIn K cd32 "_law_bags" = true)
    (k32 : PySem.W.keepIn K (.ref f32) = true)
    (a33 : PySem.W.nsIn K mainGlobals "_law_same" = some (some (.ref f33)))
    (l33 : K.lookup f33 = some ⟨oc33, od33, .func (PySem.W.fnOf "_law_same" "_law_same" (defArgs s_law_same) (defBody s_law_same) (defScope s_law_same) .none kV33 dc33 pm33 an33 cd33 ct33), sl33⟩)
    (c33 : PySem.W.codeIn K cd33 "_law_same" = true)
    (k33 : PySem.W.keepIn K (.ref f33) = true)
    (a34 : PySem.W.nsIn K mainGlobals "_law_in" = some (some (.ref f34)))
    (l34 : K.lookup f34 = some ⟨oc34, od34, .func (PySem.W.fnOf "_law_in" "_law_in" (defArgs s_law_in) (defBody s_law_in) (defScope s_law_in) .none kV34 dc34 pm34 an34 cd34 ct34), sl34⟩)
    (c34 : PySem.W.codeIn K cd34 "_law_in" = true)
    (k34 : PySem.W.keepIn K (.ref f34) = true)
    (a35 : PySem.W.nsIn K mainGlobals "_law_all_raise" = some (some (.ref f35)))
    (l35 : K.lookup f35 = some ⟨oc35, od35, .func (PySem.W.fnOf "_law_all_raise" "_law_all_raise" (defArgs s_law_all_raise) (defBody s_law_all_raise) (defScope s_law_all_raise) .none kV35 dc35 pm35 an35 cd35 ct35), sl35⟩)
    (c35 : PySem.W.codeIn K cd35 "_law_all_raise" = true)
    (k35 : PySem.W.keepIn K (.ref f35) = true)
    (a36 : PySem.W.nsIn K mainGlobals "_law_error" = some (some (.ref f36)))
    (l36 : K.lookup f36 = some ⟨oc36, od36, .func (PySem.W.fnOf "_law_error" "_law_error" (defArgs s_law_error) (defBody s_law_error) (defScope s_law_error) .none kV36 dc36 pm36 an36 cd36 ct36), sl36⟩)
    (c36 : PySem.W.codeIn K cd36 "_law_error" = true)
    (k36 : PySem.W.keepIn K (.ref f36) = true)
    (a37 : PySem.W.nsIn K mainGlobals "_law_outcome" = some (some (.ref f37)))
    (l37 : K.lookup f37 = some ⟨oc37, od37, .func (PySem.W.fnOf "_law_outcome" "_law_outcome" (defArgs s_law_outcome) (defBody s_law_outcome) (defScope s_law_outcome) .none kV37 dc37 pm37 an37 cd37 ct37), sl37⟩)
    (c37 : PySem.W.codeIn K cd37 "_law_outcome" = true)
    (k37 : PySem.W.keepIn K (.ref f37) = true)
    (a38 : PySem.W.nsIn K mainGlobals "_law_rule" = some (some (.ref f38)))
    (l38 : K.lookup f38 = some ⟨oc38, od38, .func (PySem.W.fnOf "_law_rule" "_law_rule" (defArgs s_law_rule) (defBody s_law_rule) (defScope s_law_rule) .none kV38 dc38 pm38 an38 cd38 ct38), sl38⟩)
    (c38 : PySem.W.codeIn K cd38 "_law_rule" = true)
    (k38 : PySem.W.keepIn K (.ref f38) = true)
    (a39 : PySem.W.nsIn K mainGlobals "_law_log" = some (some (.ref f39)))
    (l39 : K.lookup f39 = some ⟨oc39, od39, .func (PySem.W.fnOf "_law_log" "_law_log" (defArgs s_law_log) (defBody s_law_log) (defScope s_law_log) .none kV39 dc39 pm39 an39 cd39 ct39), sl39⟩)
    (c39 : PySem.W.codeIn K cd39 "_law_log" = true)
    (k39 : PySem.W.keepIn K (.ref f39) = true)
    (a40 : PySem.W.nsIn K mainGlobals "_law_changed" = some (some (.ref f40)))
    (l40 : K.lookup f40 = some ⟨oc40, od40, .func (PySem.W.fnOf "_law_changed" "_law_changed" (defArgs s_law_changed) (defBody s_law_changed) (defScope s_law_changed) .none kV40 dc40 pm40 an40 cd40 ct40), sl40⟩)
    (c40 : PySem.W.codeIn K cd40 "_law_changed" = true)
    (k40 : PySem.W.keepIn K (.ref f40) = true)
    (a41 : PySem.W.nsIn K mainGlobals "_law_good_rule" = some (some (.ref f41)))
    (l41 : K.lookup f41 = some ⟨oc41, od41, .func (PySem.W.fnOf "_law_good_rule" "_law_good_rule" (defArgs s_law_good_rule) (defBody s_law_good_rule) (defScope s_law_good_rule) .none kV41 dc41 pm41 an41 cd41 ct41), sl41⟩)
    (c41 : PySem.W.codeIn K cd41 "_law_good_rule" = true)
    (k41 : PySem.W.keepIn K (.ref f41) = true)
    (a42 : PySem.W.nsIn K mainGlobals "_law_good_log" = some (some (.ref f42)))
    (l42 : K.lookup f42 = some ⟨oc42, od42, .func (PySem.W.fnOf "_law_good_log" "_law_good_log" (defArgs s_law_good_log) (defBody s_law_good_log) (defScope s_law_good_log) .none kV42 dc42 pm42 an42 cd42 ct42), sl42⟩)
    (c42 : PySem.W.codeIn K cd42 "_law_good_log" = true)
    (k42 : PySem.W.keepIn K (.ref f42) = true)
    (a43 : PySem.W.nsIn K mainGlobals "total_saves" = some (some (.ref f43)))
    (l43 : K.lookup f43 = some ⟨oc43, od43, .func (PySem.W.fnOf "total_saves" "total_saves" (defArgs s_total_saves) (defBody s_total_saves) (defScope s_total_saves) .none kV43 dc43 pm43 an43 cd43 ct43), sl43⟩)
    (c43 : PySem.W.codeIn K cd43 "total_saves" = true)
    (k43 : PySem.W.keepIn K (.ref f43) = true)
    (a44 : PySem.W.nsIn K mainGlobals "least_unsaved" = some (some (.ref f44)))
    (l44 : K.lookup f44 = some ⟨oc44, od44, .func (PySem.W.fnOf "least_unsaved" "least_unsaved" (defArgs s_least_unsaved) (defBody s_least_unsaved) (defScope s_least_unsaved) .none kV44 dc44 pm44 an44 cd44 ct44), sl44⟩)
    (c44 : PySem.W.codeIn K cd44 "least_unsaved" = true)
    (k44 : PySem.W.keepIn K (.ref f44) = true)
    (a45 : PySem.W.nsIn K mainGlobals "count_logs" = some (some (.ref f45)))
    (l45 : K.lookup f45 = some ⟨oc45, od45, .func (PySem.W.fnOf "count_logs" "count_logs" (defArgs s_count_logs) (defBody s_count_logs) (defScope s_count_logs) .none (.ref kd45) dc45 pm45 an45 cd45 ct45), sl45⟩)
    (c45 : PySem.W.codeIn K cd45 "count_logs" = true)
    (k45 : PySem.W.keepIn K (.ref f45) = true)
    (w45 : PySem.W.nsIn K kd45 "saves" = some (some .none))
    (a46 : PySem.W.nsIn K mainGlobals "log_at" = some (some (.ref f46)))
    (l46 : K.lookup f46 = some ⟨oc46, od46, .func (PySem.W.fnOf "log_at" "log_at" (defArgs s_log_at) (defBody s_log_at) (defScope s_log_at) .none (.ref kd46) dc46 pm46 an46 cd46 ct46), sl46⟩)
    (c46 : PySem.W.codeIn K cd46 "log_at" = true)
    (k46 : PySem.W.keepIn K (.ref f46) = true)
    (w46 : PySem.W.nsIn K kd46 "saves" = some (some .none))
    (a47 : PySem.W.nsIn K mainGlobals "_law_rule_calls" = some (some (.ref f47)))
    (l47 : K.lookup f47 = some ⟨oc47, od47, .func (PySem.W.fnOf "_law_rule_calls" "_law_rule_calls" (defArgs s_law_rule_calls) (defBody s_law_rule_calls) (defScope s_law_rule_calls) .none kV47 dc47 pm47 an47 (.ref q0) ct47), sl47⟩)
    (c47 : PySem.W.codeIn K (.ref q0) "_law_rule_calls" = true)
    (k47 : PySem.W.keepIn K (.ref f47) = true)
    (t0 : K.lookup q0 = some ⟨.type "code", to0, .fields tv0, ts0⟩)
    (p0 : tv0[11]? = some (.ref P0))
    (z0 : PySem.W.codeHdIn K q0 P0 = true)
    (e0 : h.get? P0 = some { cls := .none, data := .fields #[] })
    (n0 : K.lookup P0 = none)
    (a48 : PySem.W.nsIn K mainGlobals "_law_log_calls" = some (some (.ref f48)))
    (l48 : K.lookup f48 = some ⟨oc48, od48, .func (PySem.W.fnOf "_law_log_calls" "_law_log_calls" (defArgs s_law_log_calls) (defBody s_law_log_calls) (defScope s_law_log_calls) .none kV48 dc48 pm48 an48 (.ref q1) ct48), sl48⟩)
    (c48 : PySem.W.codeIn K (.ref q1) "_law_log_calls" = true)
    (k48 : PySem.W.keepIn K (.ref f48) = true)
    (t1 : K.lookup q1 = some ⟨.type "code", to1, .fields tv1, ts1⟩)
    (p1 : tv1[11]? = some (.ref P1))
    (z1 : PySem.W.codeHdIn K q1 P1 = true)
    (e1 : h.get? P1 = some { cls := .none, data := .fields #[] })
    (n1 : K.lookup P1 = none)
    (ne : P0 ≠ P1)
    (dg : PySem.W.nsIn K mainGlobals "Document" = some (some (.ref DC)))
    (di : PySem.W.findIn K (.ref DC) "__init__" = some (some (.ref f49)))
    (l49 : K.lookup f49 = some ⟨oc49, od49, .func (PySem.W.fnOf "__init__" "Document.__init__" (defArgs s_init) (defBody s_init) (defScope s_init) .none kV49 dc49 pm49 an49 cd49 ct49), sl49⟩)
    (c49 : PySem.W.codeIn K cd49 "Document.__init__" = true)
    (k49 : PySem.W.keepIn K (.ref f49) = true)
    (dm : PySem.W.makesIn K DC = true)
    (df : PySem.W.isFn K (.ref f49) = true)
    (dk : PySem.W.keepIn K (.ref DC) = true)
    (gCR : PySem.W.nsIn K mainGlobals "InvalidRule" = some (some (.ref CR)))
    (xCR : PySem.W.excIn K CR [.type "ValueError", .type "Exception", .type "BaseException", .type "object"] "ValueError.__new__" = true)
    (kCR : PySem.W.keepIn K (.ref CR) = true)
    (bCR : PySem.W.subIn K (.ref CR) (.type "BaseException") = some true)
    (tCR : PySem.W.typeIn K (.ref CR) = some (.type "type"))
    (nCR : PySem.W.subIn K (.ref CR) (.type "StopIteration") = some false)
    (ECR1 : PySem.W.findIn K (.ref CR) "__getattribute__" = some (some (.builtin "BaseException.__getattribute__")))
    (ECR2 : PySem.W.findIn K (.ref CR) "__getattr__" = some none)
    (ECR3 : PySem.W.hasDictIn K CR = true)
    (ECR4 : PySem.W.findIn K (.ref CR) "__class__" = some (some (.builtin "object.__class__")))
    (ECR5 : PySem.W.mroIn K CR (.type "object") = some true)
    (gCL : PySem.W.nsIn K mainGlobals "InvalidLog" = some (some (.ref CL)))
    (xCL : PySem.W.excIn K CL [.type "ValueError", .type "Exception", .type "BaseException", .type "object"] "ValueError.__new__" = true)
    (kCL : PySem.W.keepIn K (.ref CL) = true)
    (bCL : PySem.W.subIn K (.ref CL) (.type "BaseException") = some true)
    (tCL : PySem.W.typeIn K (.ref CL) = some (.type "type"))
    (nCL : PySem.W.subIn K (.ref CL) (.type "StopIteration") = some false)
    (ECL1 : PySem.W.findIn K (.ref CL) "__getattribute__" = some (some (.builtin "BaseException.__getattribute__")))
    (ECL2 : PySem.W.findIn K (.ref CL) "__getattr__" = some none)
    (ECL3 : PySem.W.hasDictIn K CL = true)
    (ECL4 : PySem.W.findIn K (.ref CL) "__class__" = some (some (.builtin "object.__class__")))
    (ECL5 : PySem.W.mroIn K CL (.type "object") = some true)
    (sp : PySem.W.specialIn K (.builtin "object.__class__") "__get__" = some (some (.builtin "getset_descriptor.__get__")))
    (tk : PySem.W.takesIn K (.builtin "object.__class__") = some true)
    (gSE : PySem.W.nsIn K mainGlobals "SaveError" = some (some (.ref SE)))
    (mCR : PySem.W.exmOne K (.ref CR) (.ref SE) = some true)
    (mCL : PySem.W.exmOne K (.ref CL) (.ref SE) = some true)
    (gW0 : PySem.W.nsIn K mainGlobals "InvalidRule" = some (some (.ref W0)))
    (rW0 : PySem.W.kitOne K (.ref CR) (.ref W0) = some true)
    (lW0 : PySem.W.kitOne K (.ref CL) (.ref W0) = some false)
    (gW1 : PySem.W.nsIn K mainGlobals "InvalidLog" = some (some (.ref W1)))
    (rW1 : PySem.W.kitOne K (.ref CR) (.ref W1) = some false)
    (lW1 : PySem.W.kitOne K (.ref CL) (.ref W1) = some true)
    (gW2 : PySem.W.nsIn K mainGlobals "InvalidTime" = some (some (.ref W2)))
    (rW2 : PySem.W.kitOne K (.ref CR) (.ref W2) = some false)
    (lW2 : PySem.W.kitOne K (.ref CL) (.ref W2) = some false)
    (gW3 : PySem.W.nsIn K mainGlobals "InvalidNumber" = some (some (.ref W3)))
    (rW3 : PySem.W.kitOne K (.ref CR) (.ref W3) = some false)
    (lW3 : PySem.W.kitOne K (.ref CL) (.ref W3) = some false)
    (gW4 : PySem.W.nsIn K mainGlobals "InvalidIndex" = some (some (.ref W4)))
    (rW4 : PySem.W.kitOne K (.ref CR) (.ref W4) = some false)
    (lW4 : PySem.W.kitOne K (.ref CL) (.ref W4) = some false)
    (gW5 : PySem.W.nsIn K mainGlobals "InvalidSeen" = some (some (.ref W5)))
    (rW5 : PySem.W.kitOne K (.ref CR) (.ref W5) = some false)
    (lW5 : PySem.W.kitOne K (.ref CL) (.ref W5) = some false)
    (gW6 : PySem.W.nsIn K mainGlobals "NothingToUndo" = some (some (.ref W6)))
    (rW6 : PySem.W.kitOne K (.ref CR) (.ref W6) = some false)
    (lW6 : PySem.W.kitOne K (.ref CL) (.ref W6) = some false)
    (gW7 : PySem.W.nsIn K mainGlobals "TooMany" = some (some (.ref W7)))
    (rW7 : PySem.W.kitOne K (.ref CR) (.ref W7) = some false)
    (lW7 : PySem.W.kitOne K (.ref CL) (.ref W7) = some false)
    (m_isinstance : PySem.W.nsIn K mainGlobals "isinstance" = some none)
    (m_int : PySem.W.nsIn K mainGlobals "int" = some none)
    (m_bool : PySem.W.nsIn K mainGlobals "bool" = some none)
    (m_str : PySem.W.nsIn K mainGlobals "str" = some none)
    (m_list : PySem.W.nsIn K mainGlobals "list" = some none)
    (m_tuple : PySem.W.nsIn K mainGlobals "tuple" = some none)
    (m_len : PySem.W.nsIn K mainGlobals "len" = some none)
    (m_all : PySem.W.nsIn K mainGlobals "all" = some none)
    (m_zip : PySem.W.nsIn K mainGlobals "zip" = some none)
    (m_enumerate : PySem.W.nsIn K mainGlobals "enumerate" = some none)
    (m_range : PySem.W.nsIn K mainGlobals "range" = some none)
    (m_max : PySem.W.nsIn K mainGlobals "max" = some none)
    (m_sorted : PySem.W.nsIn K mainGlobals "sorted" = some none)
    (g_MOST_COUNT : PySem.W.nsIn K mainGlobals "MOST_COUNT" = some (some (.int 20 t_MOST_COUNT)))
    (g_MOST_IDLE : PySem.W.nsIn K mainGlobals "MOST_IDLE" = some (some (.int 1000 t_MOST_IDLE)))
    (g_MOST_EDITS : PySem.W.nsIn K mainGlobals "MOST_EDITS" = some (some (.int 60 t_MOST_EDITS)))
    (g_LAST : PySem.W.nsIn K mainGlobals "LAST" = some (some (.int 1000000 t_LAST)))
    (g_FAR : PySem.W.nsIn K mainGlobals "FAR" = some (some (.int 1000000000 t_FAR)))
    (a50 : PySem.W.nsIn K mainGlobals "law" = some (some (.ref f50)))
    (l50 : K.lookup f50 = some ⟨oc50, od50, .func (PySem.W.fnOf "law" "law" (defArgs s_law) (defBody s_law) (defScope s_law) .none kV50 dc50 pm50 an50 cd50 ct50), sl50⟩)
    (c50 : PySem.W.codeIn K cd50 "law" = true)
    (k50 : PySem.W.keepIn K (.ref f50) = true)
    : LawAtS l w K CX0 10 63 "_law_script" mg fa h := by
  have e := hfa.symm.trans (PySem.W.mg_of X G a50)
  cases e
  have B : Blt mg := { m_isinstance := PySem.W.mg_none_of X G m_isinstance, m_int := PySem.W.mg_none_of X G m_int, m_bool := PySem.W.mg_none_of X G m_bool, m_str := PySem.W.mg_none_of X G m_str, m_list := PySem.W.mg_none_of X G m_list, m_tuple := PySem.W.mg_none_of X G m_tuple, m_len := PySem.W.mg_none_of X G m_len, m_all := PySem.W.mg_none_of X G m_all, m_zip := PySem.W.mg_none_of X G m_zip, m_enumerate := PySem.W.mg_none_of X G m_enumerate, m_range := PySem.W.mg_none_of X G m_range, m_max := PySem.W.mg_none_of X G m_max, m_sorted := PySem.W.mg_none_of X G m_sorted, g_MOST_COUNT := ⟨_, PySem.W.mg_of X G g_MOST_COUNT, ⟨_, rfl⟩⟩, g_MOST_IDLE := ⟨_, PySem.W.mg_of X G g_MOST_IDLE, ⟨_, rfl⟩⟩, g_MOST_EDITS := ⟨_, PySem.W.mg_of X G g_MOST_EDITS, ⟨_, rfl⟩⟩, g_LAST := ⟨_, PySem.W.mg_of X G g_LAST, ⟨_, rfl⟩⟩, g_FAR := ⟨_, PySem.W.mg_of X G g_FAR, ⟨_, rfl⟩⟩ }
  have d_in_range : DefT K mg "in_range" s_in_range ["value", "low", "high"] := defT_mk X G a0 l0 c0 k0 fun _ _ _ _ _ _ us hl => match us, hl with | [_, _, _], _ => rfl
  have d_is_rule : DefT K mg "is_rule" s_is_rule ["value"] := defT_mk X G a1 l1 c1 k1 fun _ _ _ _ _ _ us hl => match us, hl with | [_], _ => rfl
  have d_is_log : DefT K mg "is_log" s_is_log ["value"] := defT_mk X G a2 l2 c2 k2 fun _ _ _ _ _ _ us hl => match us, hl with | [_], _ => rfl
  have d_check_rule : DefT K mg "check_rule" s_check_rule ["value"] := defT_mk X G a3 l3 c3 k3 fun _ _ _ _ _ _ us hl => match us, hl with | [_], _ => rfl
  have d_check_log : DefT K mg "check_log" s_check_log ["value"] := defT_mk X G a4 l4 c4 k4 fun _ _ _ _ _ _ us hl => match us, hl with | [_], _ => rfl
  have d_check_time : DefT K mg "check_time" s_check_time ["value"] := defT_mk X G a5 l5 c5 k5 fun _ _ _ _ _ _ us hl => match us, hl with | [_], _ => rfl
  have d_unsaved : DefT K mg "unsaved" s_unsaved ["rule", "log", "time"] := defT_mk X G a6 l6 c6 k6 fun _ _ _ _ _ _ us hl => match us, hl with | [_, _, _], _ => rfl
  have d_lost : DefT K mg "lost" s_lost ["rule", "log", "time"] := defT_mk X G a7 l7 c7 k7 fun _ _ _ _ _ _ us hl => match us, hl with | [_, _, _], _ => rfl
  have d_saves : DefT K mg "saves" s_saves ["rule", "log"] := defT_mk X G a8 l8 c8 k8 fun _ _ _ _ _ _ us hl => match us, hl with | [_, _], _ => rfl
  have d_saves_until : DefT K mg "saves_until" s_saves_until ["rule", "log", "time"] := defT_mk X G a9 l9 c9 k9 fun _ _ _ _ _ _ us hl => match us, hl with | [_, _, _], _ => rfl
  have d_most_unsaved : DefT K mg "most_unsaved" s_most_unsaved ["rule", "log"] := defT_mk X G a10 l10 c10 k10 fun _ _ _ _ _ _ us hl => match us, hl with | [_, _], _ => rfl
  have d_largest_excess : DefT K mg "largest_excess" s_largest_excess ["first", "second"] := defT_mk X G a11 l11 c11 k11 fun _ _ _ _ _ _ us hl => match us, hl with | [_, _], _ => rfl
  have d_never_loses_more : DefT K mg "never_loses_more" s_never_loses_more ["first", "second"] := defT_mk X G a12 l12 c12 k12 fun _ _ _ _ _ _ us hl => match us, hl with | [_, _], _ => rfl
  have d_never_saves_more : DefT K mg "never_saves_more" s_never_saves_more ["first", "second"] := defT_mk X G a13 l13 c13 k13 fun _ _ _ _ _ _ us hl => match us, hl with | [_, _], _ => rfl
  have d_alike : DefT K mg "alike" s_alike ["first", "second"] := defT_mk X G a14 l14 c14 k14 fun _ _ _ _ _ _ us hl => match us, hl with | [_, _], _ => rfl
  have d_telling_loss : DefT K mg "telling_loss" s_telling_loss ["first", "second"] := defT_mk X G a15 l15 c15 k15 fun _ _ _ _ _ _ us hl => match us, hl with | [_, _], _ => rfl
  have d_telling_saves : DefT K mg "telling_saves" s_telling_saves ["first", "second"] := defT_mk X G a16 l16 c16 k16 fun _ _ _ _ _ _ us hl => match us, hl with | [_, _], _ => rfl
  have d_regular_saves : DefT K mg "regular_saves" s_regular_saves ["rule", "gap", "number"] := defT_mk X G a17 l17 c17 k17 fun _ _ _ _ _ _ us hl => match us, hl with | [_, _, _], _ => rfl
  have d_burst_saves : DefT K mg "burst_saves" s_burst_saves ["rule", "size", "gap", "pause", "number"] := defT_mk X G a18 l18 c18 k18 fun _ _ _ _ _ _ us hl => match us, hl with | [_, _, _, _, _], _ => rfl
  have d_both : DefT K mg "both" s_both ["rule", "log", "index"] := defT_mk X G a19 l19 c19 k19 fun _ _ _ _ _ _ us hl => match us, hl with | [_, _, _], _ => rfl
  have d_rows_of : DefT K mg "rows_of" s_rows_of ["rule", "ticks", "saves"] := defT_mk X G a20 l20 c20 k20 fun _ _ _ _ _ _ us hl => match us, hl with | [_, _, _], _ => rfl
  have d_longest_idle : DefT K mg "longest_idle" s_longest_idle ["log", "count", "most"] := defT_mk X G a21 l21 c21 k21 fun _ _ _ _ _ _ us hl => match us, hl with | [_, _, _], _ => rfl
  have d_fewest_saves : DefT K mg "fewest_saves" s_fewest_saves ["log", "most"] := defT_mk X G a22 l22 c22 k22 fun _ _ _ _ _ _ us hl => match us, hl with | [_, _], _ => rfl
  have d_best_rule : DefT K mg "best_rule" s_best_rule ["log", "most"] := defT_mk X G a23 l23 c23 k23 fun _ _ _ _ _ _ us hl => match us, hl with | [_, _], _ => rfl
  have d_fitting_rules : DefT K mg "fitting_rules" s_fitting_rules ["log", "times"] := defT_mk X G a24 l24 c24 k24 fun _ _ _ _ _ _ us hl => match us, hl with | [_, _], _ => rfl
  have d_fitting_by_losses : DefT K mg "fitting_by_losses" s_fitting_by_losses ["log", "seen"] := defT_mk X G a25 l25 c25 k25 fun _ _ _ _ _ _ us hl => match us, hl with | [_, _], _ => rfl
  have d_wrong_losses : DefT K mg "wrong_losses" s_wrong_losses ["log", "seen"] := defT_mk X G a26 l26 c26 k26 fun _ _ _ _ _ _ us hl => match us, hl with | [_, _], _ => rfl
  have d_changed_saves : DefT K mg "changed_saves" s_changed_saves ["rule", "log", "index"] := defT_mk X G a27 l27 c27 k27 fun _ _ _ _ _ _ us hl => match us, hl with | [_, _, _], _ => rfl
  have d_alike_from : DefT K mg "alike_from" s_alike_from ["rule", "log", "index"] := defT_mk X G a28 l28 c28 k28 fun _ _ _ _ _ _ us hl => match us, hl with | [_, _, _], _ => rfl
  have d_walk : DefT K mg "walk" s_walk ["rule", "log"] := defT_mk X G a29 l29 c29 k29 fun _ _ _ _ _ _ us hl => match us, hl with | [_, _], _ => rfl
  have d_law_well : DefT K mg "_law_well" s_law_well ["_law_cell", "_law_turn"] := defT_mk X G a30 l30 c30 k30 fun _ _ _ _ _ _ us hl => match us, hl with | [_, _], _ => rfl
  have d_law_take : DefT K mg "_law_take" s_law_take ["_law_bag", "_law_many"] := defT_mk X G a31 l31 c31 k31 fun _ _ _ _ _ _ us hl => match us, hl with | [_, _], _ => rfl
  have d_law_bags : DefT K mg "_law_bags" s_law_bags ["_law_script", "_law_most"] := defT_mk X G a32 l32 c32 k32 fun _ _ _ _ _ _ us hl => match us, hl with | [_, _], _ => rfl
  have d_law_same : DefT K mg "_law_same" s_law_same ["_law_a", "_law_b"] := defT_mk X G a33 l33 c33 k33 fun _ _ _ _ _ _ us hl => match us, hl with | [_, _], _ => rfl
  have d_law_in : DefT K mg "_law_in" s_law_in ["_law_x", "_law_low", "_law_high"] := defT_mk X G a34 l34 c34 k34 fun _ _ _ _ _ _ us hl => match us, hl with | [_, _, _], _ => rfl
  have d_law_all_raise : DefT K mg "_law_all_raise" s_law_all_raise ["_law_calls", "_law_word"] := defT_mk X G a35 l35 c35 k35 fun _ _ _ _ _ _ us hl => match us, hl with | [_, _], _ => rfl
  have d_law_error : DefT K mg "_law_error" s_law_error ["_law_e"] := defT_mk X G a36 l36 c36 k36 fun _ _ _ _ _ _ us hl => match us, hl with | [_], _ => rfl
  have d_law_outcome : DefT K mg "_law_outcome" s_law_outcome ["_law_call"] := defT_mk X G a37 l37 c37 k37 fun _ _ _ _ _ _ us hl => match us, hl with | [_], _ => rfl
  have d_law_rule : DefT K mg "_law_rule" s_law_rule ["_law_bag"] := defT_mk X G a38 l38 c38 k38 fun _ _ _ _ _ _ us hl => match us, hl with | [_], _ => rfl
  have d_law_log : DefT K mg "_law_log" s_law_log ["_law_bag", "_law_most", "_law_rule_here"] := defT_mk X G a39 l39 c39 k39 fun _ _ _ _ _ _ us hl => match us, hl with | [_, _, _], _ => rfl
  have d_law_changed : DefT K mg "_law_changed" s_law_changed ["_law_bag", "_law_x"] := defT_mk X G a40 l40 c40 k40 fun _ _ _ _ _ _ us hl => match us, hl with | [_, _], _ => rfl
  have d_law_good_rule : DefT K mg "_law_good_rule" s_law_good_rule ["_law_x"] := defT_mk X G a41 l41 c41 k41 fun _ _ _ _ _ _ us hl => match us, hl with | [_], _ => rfl
  have d_law_good_log : DefT K mg "_law_good_log" s_law_good_log ["_law_x"] := defT_mk X G a42 l42 c42 k42 fun _ _ _ _ _ _ us hl => match us, hl with | [_], _ => rfl
  have d_total_saves : DefS K mg "total_saves" s_total_saves := ⟨_, _, _, _, _, _, _, _, _, _, l43, c43, k43, PySem.W.mg_of X G a43⟩
  have d_least_unsaved : DefS K mg "least_unsaved" s_least_unsaved := ⟨_, _, _, _, _, _, _, _, _, _, l44, c44, k44, PySem.W.mg_of X G a44⟩
  have g_count_logs : FunD K "count_logs" "count_logs" (defArgs s_count_logs) (defBody s_count_logs) (defScope s_count_logs) [] [("saves", V.non)] f45 _ := ⟨⟨_, _, _, _, _, _, _, _, _, _, rfl, l45, c45, .inl ⟨rfl, rfl⟩, .inr ⟨_, rfl, fun q m => by
    cases List.mem_singleton.mp m
    exact ⟨_, w45, rfl⟩⟩⟩, k45⟩
  have b_count_logs := FunD.binds0 (ps := ["rule", "ticks", "saves"]) g_count_logs 2 (List.cons_ne_nil _ _) rfl fun D doc pm an cdv ct us ks e1 e2 => match us, ks, e1, e2 with | [_, _], [_], _, _ => ⟨_, _, _, _, _, _, rfl, rfl, rfl⟩
  have d_count_logs : DefK K mg "count_logs" "saves" s_count_logs ["rule", "ticks", "saves"] := by
    obtain ⟨ds, rd, b⟩ := b_count_logs
    exact ⟨_, _, ds, g_count_logs, PySem.W.mg_of X G a45, rd, b⟩
  have g_log_at : FunD K "log_at" "log_at" (defArgs s_log_at) (defBody s_log_at) (defScope s_log_at) [] [("saves", V.non)] f46 _ := ⟨⟨_, _, _, _, _, _, _, _, _, _, rfl, l46, c46, .inl ⟨rfl, rfl⟩, .inr ⟨_, rfl, fun q m => by
    cases List.mem_singleton.mp m
    exact ⟨_, w46, rfl⟩⟩⟩, k46⟩
  have b_log_at := FunD.binds0 (ps := ["rule", "ticks", "number", "saves"]) g_log_at 3 (List.cons_ne_nil _ _) rfl fun D doc pm an cdv ct us ks e1 e2 => match us, ks, e1, e2 with | [_, _, _], [_], _, _ => ⟨_, _, _, _, _, _, rfl, rfl, rfl⟩
  have d_log_at : DefK K mg "log_at" "saves" s_log_at ["rule", "ticks", "number", "saves"] := by
    obtain ⟨ds, rd, b⟩ := b_log_at
    exact ⟨_, _, ds, g_log_at, PySem.W.mg_of X G a46, rd, b⟩
  have fI := fun_mk (st := s_init) l49 c49 k49
  have bI := fI.binds (ps := ["self", "rule"]) fun _ _ _ _ _ _ us hl => match us, hl with | [_, _], _ => rfl
  have dI : DocT K mg DC f49 _ := ⟨fI, ⟨dm, di, df, dk⟩, PySem.W.mg_of X G dg, bI⟩
  have errCR : ErrC K mg "InvalidRule" CR := ⟨PySem.W.mg_of X G gCR, xCR, kCR, bCR, tCR⟩
  have excCR : ExcC K CR := ⟨ECR1, ECR2, bCR, ECR3, ECR4, sp, tk, ECR5⟩
  have errCL : ErrC K mg "InvalidLog" CL := ⟨PySem.W.mg_of X G gCL, xCL, kCL, bCL, tCL⟩
  have excCL : ExcC K CL := ⟨ECL1, ECL2, bCL, ECL3, ECL4, sp, tk, ECL5⟩
  have gS := PySem.W.mg_of X G gSE
  have kr0 : KitC K mg CR "InvalidRule" true := ⟨_, PySem.W.mg_of X G gW0, rW0⟩
  have kl0 : KitC K mg CL "InvalidRule" false := ⟨_, PySem.W.mg_of X G gW0, lW0⟩
  have kr1 : KitC K mg CR "InvalidLog" false := ⟨_, PySem.W.mg_of X G gW1, rW1⟩
  have kl1 : KitC K mg CL "InvalidLog" true := ⟨_, PySem.W.mg_of X G gW1, lW1⟩
  have kr2 : KitC K mg CR "InvalidTime" false := ⟨_, PySem.W.mg_of X G gW2, rW2⟩
  have kl2 : KitC K mg CL "InvalidTime" false := ⟨_, PySem.W.mg_of X G gW2, lW2⟩
  have kr3 : KitC K mg CR "InvalidNumber" false := ⟨_, PySem.W.mg_of X G gW3, rW3⟩
  have kl3 : KitC K mg CL "InvalidNumber" false := ⟨_, PySem.W.mg_of X G gW3, lW3⟩
  have kr4 : KitC K mg CR "InvalidIndex" false := ⟨_, PySem.W.mg_of X G gW4, rW4⟩
  have kl4 : KitC K mg CL "InvalidIndex" false := ⟨_, PySem.W.mg_of X G gW4, lW4⟩
  have kr5 : KitC K mg CR "InvalidSeen" false := ⟨_, PySem.W.mg_of X G gW5, rW5⟩
  have kl5 : KitC K mg CL "InvalidSeen" false := ⟨_, PySem.W.mg_of X G gW5, lW5⟩
  have kr6 : KitC K mg CR "NothingToUndo" false := ⟨_, PySem.W.mg_of X G gW6, rW6⟩
  have kl6 : KitC K mg CL "NothingToUndo" false := ⟨_, PySem.W.mg_of X G gW6, lW6⟩
  have kr7 : KitC K mg CR "TooMany" false := ⟨_, PySem.W.mg_of X G gW7, rW7⟩
  have kl7 : KitC K mg CL "TooMany" false := ⟨_, PySem.W.mg_of X G gW7, lW7⟩
  refine ⟨PySem.W.fnOf "law" "law" (defArgs s_law) (defBody s_law) (defScope s_law) .none kV50 dc50 pm50 an50 cd50 ct50, [(q0, P0), (q1, P1)], spLaw K [(P0, ((("_law_rule_calls" : Str) ++ ".<locals>.") ++ "<lambda>")), (P1, ((("_law_log_calls" : Str) ++ ".<locals>.") ++ "<lambda>"))], ?_, ?_, ?_, fun s v => .of_eq rfl, fun H a ns len _ hH hS => ⟨a, ns, rfl, hS, len, ?_, fun _ => rfl⟩, fun base KB GB TB => ?_⟩
  · intro p m
    rcases List.mem_cons.mp m with rfl | m
    · exact e0
    · cases List.mem_singleton.mp m
      exact e1
  · intro p m
    rcases List.mem_cons.mp m with rfl | m
    · exact n0
    · cases List.mem_singleton.mp m
      exact n1
  · intro p m
    rcases List.mem_cons.mp m with rfl | m
    · exact PySem.W.codeHd_of_K X z0
    · cases List.mem_singleton.mp m
      exact PySem.W.codeHd_of_K X z1
  · intro p m
    rcases List.mem_cons.mp m with rfl | m
    · exact TabS.nil (hH (q0, P0) List.mem_cons_self)
    · cases List.mem_singleton.mp m
      exact TabS.nil (hH (q1, P1) (List.mem_cons_of_mem _ List.mem_cons_self))
  · have c_in_range := ok_in_range (P := l.prog) (w := w) (K := K) (mg := mg) (base := base) B d_in_range
    have c_is_rule := ok_is_rule B d_is_rule c_in_range
    have c_is_log := ok_is_log B d_is_log c_in_range
    have c_take := ok_take (P := l.prog) (w := w) (K := K) (mg := mg) (base := base) B d_law_take
    have c_well := ok_well (P := l.prog) (w := w) (K := K) (mg := mg) (base := base) B d_law_well
    have c_law_in := ok_law_in (P := l.prog) (w := w) (K := K) (mg := mg) (base := base) B d_law_in
    have x_rule := ck_rule d_check_rule errCR c_is_rule
    have x_log := ck_log d_check_log errCL c_is_log
    have x_time := ck_time B d_check_time c_in_range
    have RC : Callees_law_rule_calls l.prog w K mg base CR := { c0 := calR_of (r_unsaved d_unsaved x_rule), c1 := calR_of (r_lost d_lost x_rule), c2 := calR_of (r_saves d_saves x_rule), c3 := calR_of (r_saves_until d_saves_until x_rule), c6 := calR_of (r_most_unsaved d_most_unsaved x_rule), c8 := calR_of (r_largest_excess d_largest_excess x_rule), c10 := calR_of (r_never_loses_more d_never_loses_more x_rule), c12 := calR_of (r_never_saves_more d_never_saves_more x_rule), c13 := calR_of (r_alike d_alike x_rule), c15 := calR_of (r_telling_loss d_telling_loss x_rule), c17 := calR_of (r_telling_saves d_telling_saves x_rule), c18 := calR_of (r_regular_saves d_regular_saves x_rule), c19 := calR_of (r_burst_saves d_burst_saves x_rule), c9 := calR_of (r2_largest_excess d_largest_excess x_rule), c11 := calR_of (r2_never_loses_more d_never_loses_more x_rule), c14 := calR_of (r2_alike d_alike x_rule), c16 := calR_of (r2_telling_loss d_telling_loss x_rule), c4 := r_walk d_walk nCR x_rule, c5 := r_total_saves d_total_saves x_rule, c7 := r_least_unsaved d_least_unsaved x_rule x_log x_time, c20 := calR_of (r_changed_saves d_changed_saves (r_both d_both x_rule)), c21 := calR_of (r_alike_from d_alike_from (r_both d_both x_rule)), c22 := r_count_logs B d_count_logs (r_rows_of d_rows_of x_rule), c23 := r_log_at d_log_at (r_rows_of d_rows_of x_rule), doc := ⟨DC, _, _, dI, r_init dI x_rule⟩ }
    have LC : Callees_law_log_calls l.prog w K mg base CL := { c0 := calR_of (l_unsaved d_unsaved x_rule x_log), c1 := calR_of (l_lost d_lost x_rule x_log), c2 := calR_of (l_saves d_saves x_rule x_log), c3 := calR_of (l_saves_until d_saves_until x_rule x_log), c6 := calR_of (l_most_unsaved d_most_unsaved x_rule x_log), c4 := l_walk d_walk nCL x_rule x_log, c5 := l_total_saves d_total_saves x_rule x_log, c7 := f_least_unsaved d_least_unsaved x_log, c8 := calR_of (f_longest_idle d_longest_idle x_log), c9 := calR_of (f_fewest_saves d_fewest_saves x_log), c10 := calR_of (f_best_rule d_best_rule x_log), c11 := calR_of (f_fitting_rules d_fitting_rules x_log), c12 := calR_of (f_fitting_by_losses d_fitting_by_losses x_log), c13 := calR_of (f_wrong_losses d_wrong_losses x_log), c14 := calR_of (l_changed_saves d_changed_saves (l_both d_both x_rule x_log)), c15 := calR_of (l_alike_from d_alike_from (l_both d_both x_rule x_log)) }
    have hu0 : ∀ p ∈ ([(P0, ((("_law_rule_calls" : Str) ++ ".<locals>.") ++ "<lambda>")), (P1, ((("_law_log_calls" : Str) ++ ".<locals>.") ++ "<lambda>"))] : List (Addr × Str)), p.1 = P0 → p.2 = ((("_law_rule_calls" : Str) ++ ".<locals>.") ++ "<lambda>") := fun p m e => by
      rcases List.mem_cons.mp m with rfl | m
      · rfl
      · cases List.mem_singleton.mp m
        exact absurd e.symm ne
    have mk0 : C8.Cal l.prog w K mg base 1 "_law_rule_calls" (sp_law_rule_calls l.prog w K mg base CR [(P0, ((("_law_rule_calls" : Str) ++ ".<locals>.") ++ "<lambda>")), (P1, ((("_law_log_calls" : Str) ++ ".<locals>.") ++ "<lambda>"))]) [] :=
      ⟨_, _, ["_law_x"], [], ok_law_rule_calls B RC (TB (q0, P0) List.mem_cons_self) List.mem_cons_self hu0 l47 c47, PySem.W.mg_of X G a47, k47, Binds.all fun us hl => match us, hl with | [_], _ => rfl, .nil⟩
    have hu1 : ∀ p ∈ ([(P0, ((("_law_rule_calls" : Str) ++ ".<locals>.") ++ "<lambda>")), (P1, ((("_law_log_calls" : Str) ++ ".<locals>.") ++ "<lambda>"))] : List (Addr × Str)), p.1 = P1 → p.2 = ((("_law_log_calls" : Str) ++ ".<locals>.") ++ "<lambda>") := fun p m e => by
      rcases List.mem_cons.mp m with rfl | m
      · exact absurd e ne
      · cases List.mem_singleton.mp m
        rfl
    have mk1 : C8.Cal l.prog w K mg base 1 "_law_log_calls" (sp_law_log_calls l.prog w K mg base CL [(P0, ((("_law_rule_calls" : Str) ++ ".<locals>.") ++ "<lambda>")), (P1, ((("_law_log_calls" : Str) ++ ".<locals>.") ++ "<lambda>"))]) [] :=
      ⟨_, _, ["_law_x"], [], ok_law_log_calls B LC (TB (q1, P1) (List.mem_cons_of_mem _ List.mem_cons_self)) (List.mem_cons_of_mem _ List.mem_cons_self) hu1 l48 c48, PySem.W.mg_of X G a48, k48, Binds.all fun us hl => match us, hl with | [_], _ => rfl, .nil⟩
    have ar := rule_all_raise (P := l.prog) (w := w) (K := K) (mg := mg) (base := base) d_law_all_raise d_law_outcome d_law_error B excCR gS mCR kr0 kr1 kr2 kr3 kr4 kr5 kr6 kr7
    have al := log_all_raise (P := l.prog) (w := w) (K := K) (mg := mg) (base := base) d_law_all_raise d_law_outcome d_law_error B excCL gS mCL kl0 kl1 kl2 kl3 kl4 kl5 kl6 kl7
    exact ok_law B (fun_mk l50 c50 k50) (ok_bags B d_law_bags c_well) (ok_rule B d_law_rule c_take) (ok_log B d_law_log c_take) (ok_changed B d_law_changed c_take 3 (by decide)) (ok_changed B d_law_changed c_take 4 (by decide)) (ok_same B d_law_same 1) c_is_rule c_is_log (ok_law_good_rule B d_law_good_rule c_law_in) (ok_law_good_log B d_law_good_log c_law_in) mk0 mk1 ar al
theorem walk {l : PySem.W.OpenLaw} {q : Program} {loose : List Str} {XP : (Str → Option Value) → Heap → Prop} {YP : World → Heap → Prop} {d : DefRec} {K : Params → PySem.W.Frag} (hn : l.most = some 63) (hdf : d.params.defaults = [])
    (hY : ∀ (w : World) (h : Heap), YP w h → (K w.params).In h)
    (F : ∀ (w : World) (mg : Str → Option Value) (fa : Addr) (h : Heap), YP w h → (K w.params).In h → h.Ns mainGlobals mg → mg d.name = some (.ref fa) → LawAtS l w (K w.params) CX0 10 63 "_law_script" mg fa h) :
    PySem.W.WalkO q loose XP YP l.row.toRowW d [] (fun f vs => PySem.call f vs) :=
  walk_ofTs (CX := fun _ => CX0) hn (by decide) hdf ⟨rfl, by decide, by decide⟩ hY F fun _ _ _ _ _ z => z
end Au
open PySem PySem.W PyProof.Rows
set_option maxRecDepth 100000 in
set_option maxHeartbeats 0 in
theorem PySem.Challenge.cw_autosaves_k01_rules_and_logs_checked_holds : PySem.Challenge.rw_autosaves_k01_rules_and_logs_checked.Holds := by
  w_on; o_law; k_head; (case hw => w_witness2)
  k_fill
  refine Au.walk (l := PySem.Challenge.rw_autosaves_k01_rules_and_logs_checked) rfl rfl (fun w h Y => PySem.W.km_in_of Y) ?F
  case F =>
    intro w mg fa h Y KX G hmg
    refine' Au.all_mk KX G hmg ?a0 ?l0 ?c0 ?k0 ?a1 ?l1 ?c1 ?k1 ?a2 ?l2 ?c2 ?k2 ?a3 ?l3 ?c3 ?k3 ?a4 ?l4 ?c4 ?k4 ?a5 ?l5 ?c5 ?k5 ?a6 ?l6 ?c6 ?k6 ?a7 ?l7 ?c7 ?k7 ?a8 ?l8 ?c8 ?k8 ?a9 ?l9 ?c9 ?k9 ?a10 ?l10 ?c10 ?k10 ?a11 ?l11 ?c11 ?k11 ?a12 ?l12 ?c12 ?k12 ?a13 ?l13 ?c13 ?k13 ?a14 ?l14 ?c14 ?k14 ?a15 ?l15 ?c15 ?k15 ?a16 ?l16 ?c16 ?k16 ?a17 ?l17 ?c17 ?k17 ?a18 ?l18 ?c18 ?k18 ?a19 ?l19 ?c19 ?k19 ?a20 ?l20 ?c20 ?k20 ?a21 ?l21 ?c21 ?k21 ?a22 ?l22 ?c22 ?k22 ?a23 ?l23 ?c23 ?k23 ?a24 ?l24 ?c24 ?k24 ?a25 ?l25 ?c25 ?k25 ?a26 ?l26 ?c26 ?k26 ?a27 ?l27 ?c27 ?k27 ?a28 ?l28 ?c28 ?k28 ?a29 ?l29 ?c29 ?k29 ?a30 ?l30 ?c30 ?k30 ?a31 ?l31 ?c31 ?k31 ?a32 ?l32 ?c32 ?k32 ?a33 ?l33 ?c33 ?k33 ?a34 ?l34 ?c34 ?k34 ?a35 ?l35 ?c35 ?k35 ?a36 ?l36 ?c36 ?k36 ?a37 ?l37 ?c37 ?k37 ?a38 ?l38 ?c38 ?k38 ?a39 ?l39 ?c39 ?k39 ?a40 ?l40 ?c40 ?k40 ?a41 ?l41 ?c41 ?k41 ?a42 ?l42 ?c42 ?k42 ?a43 ?l43 ?c43 ?k43 ?a44 ?l44 ?c44 ?k44 ?a45 ?l45 ?c45 ?k45 ?w45 ?a46 ?l46 ?c46 ?k46 ?w46 ?a47 ?l47 ?c47 ?k47 ?t0 ?p0 ?z0 ?e0 ?n0 ?a48 ?l48 ?c48 ?k48 ?t1 ?p1 ?z1 ?e1 ?n1 ?ne ?dg ?di ?l49 ?c49 ?k49 ?dm ?df ?dk ?gCR ?xCR ?kCR ?bCR ?tCR ?nCR ?ECR1 ?ECR2 ?ECR3 ?ECR4 ?ECR5 ?gCL ?xCL ?kCL ?bCL ?tCL ?nCL ?ECL1 ?ECL2 ?ECL3 ?ECL4 ?ECL5 ?sp ?tk ?gSE ?mCR ?mCL ?gW0 ?rW0 ?lW0 ?gW1 ?rW1 ?lW1 ?gW2 ?rW2 ?lW2 ?gW3 ?rW3 ?lW3 ?gW4 ?rW4 ?lW4 ?gW5 ?rW5 ?lW5 ?gW6 ?rW6 ?lW6 ?gW7 ?rW7 ?lW7 ?m_isinstance ?m_int ?m_bool ?m_str ?m_list ?m_tuple ?m_len ?m_all ?m_zip ?m_enumerate ?m_range ?m_max ?m_sorted ?g_MOST_COUNT ?g_MOST_IDLE ?g_MOST_EDITS ?g_LAST ?g_FAR ?a50 ?l50 ?c50 ?k50
    (case a0 => k_is)
    (case l0 => k_is)
    (case c0 => k_is)
    (case k0 => k_is)
    (case a1 => k_is)
    (case l1 => k_is)
    (case c1 => k_is)
    (case k1 => k_is)
    (case a2 => k_is)
    (case l2 => k_is)
    (case c2 => k_is)
    (case k2 => k_is)
    (case a3 => k_is)
    (case l3 => k_is)
    (case c3 => k_is)
    (case k3 => k_is)
    (case a4 => k_is)
    (case l4 => k_is)
    (case c4 => k_is)
    (case k4 => k_is)
    (case a5 => k_is)
    (case l5 => k_is)
    (case c5 => k_is)
    (case k5 => k_is)
    (case a6 => k_is)
    (case l6 => k_is)
    (case c6 => k_is)
    (case k6 => k_is)
    (case a7 => k_is)
    (case l7 => k_is)
    (case c7 => k_is)
    (case k7 => k_is)
    (case a8 => k_is)
    (case l8 => k_is)
    (case c8 => k_is)
    (case k8 => k_is)
    (case a9 => k_is)
    (case l9 => k_is)
    (case c9 => k_is)
    (case k9 => k_is)
    (case a10 => k_is)
    (case l10 => k_is)
    (case c10 => k_is)
    (case k10 => k_is)
    (case a11 => k_is)
    (case l11 => k_is)
    (case c11 => k_is)
    (case k11 => k_is)
    (case a12 => k_is)
    (case l12 => k_is)
    (case c12 => k_is)
    (case k12 => k_is)
    (case a13 => k_is)
    (case l13 => k_is)
    (case c13 => k_is)
    (case k13 => k_is)
    (case a14 => k_is)
    (case l14 => k_is)
    (case c14 => k_is)
    (case k14 => k_is)
    (case a15 => k_is)
    (case l15 => k_is)
    (case c15 => k_is)
    (case k15 => k_is)
    (case a16 => k_is)
    (case l16 => k_is)
    (case c16 => k_is)
    (case k16 => k_is)
    (case a17 => k_is)
    (case l17 => k_is)
    (case c17 => k_is)
    (case k17 => k_is)
    (case a18 => k_is)
    (case l18 => k_is)
    (case c18 => k_is)
    (case k18 => k_is)
    (case a19 => k_is)
    (case l19 => k_is)
    (case c19 => k_is)
    (case k19 => k_is)
    (case a20 => k_is)
    (case l20 => k_is)
    (case c20 => k_is)
    (case k20 => k_is)
    (case a21 => k_is)
    (case l21 => k_is)
    (case c21 => k_is)
    (case k21 => k_is)
    (case a22 => k_is)
    (case l22 => k_is)
    (case c22 => k_is)
    (case k22 => k_is)
    (case a23 => k_is)
    (case l23 => k_is)
    (case c23 => k_is)
    (case k23 => k_is)
    (case a24 => k_is)
    (case l24 => k_is)
    (case c24 => k_is)
    (case k24 => k_is)
    (case a25 => k_is)
    (case l25 => k_is)
    (case c25 => k_is)
    (case k25 => k_is)
    (case a26 => k_is)
    (case l26 => k_is)
    (case c26 => k_is)
    (case k26 => k_is)
    (case a27 => k_is)
    (case l27 => k_is)
    (case c27 => k_is)
    (case k27 => k_is)
    (case a28 => k_is)
    (case l28 => k_is)
    (case c28 => k_is)
    (case k28 => k_is)
    (case a29 => k_is)
    (case l29 => k_is)
    (case c29 => k_is)
    (case k29 => k_is)
    (case a30 => k_is)
    (case l30 => k_is)
    (case c30 => k_is)
    (case k30 => k_is)
    (case a31 => k_is)
    (case l31 => k_is)
    (case c31 => k_is)
    (case k31 => k_is)
    (case a32 => k_is)
    (case l32 => k_is)
    (case c32 => k_is)
    (case k32 => k_is)
    (case a33 => k_is)
    (case l33 => k_is)
    (case c33 => k_is)
    (case k33 => k_is)
    (case a34 => k_is)
    (case l34 => k_is)
    (case c34 => k_is)
    (case k34 => k_is)
    (case a35 => k_is)
    (case l35 => k_is)
    (case c35 => k_is)
    (case k35 => k_is)
    (case a36 => k_is)
    (case l36 => k_is)
    (case c36 => k_is)
    (case k36 => k_is)
    (case a37 => k_is)
    (case l37 => k_is)
    (case c37 => k_is)
    (case k37 => k_is)
    (case a38 => k_is)
    (case l38 => k_is)
    (case c38 => k_is)
    (case k38 => k_is)
    (case a39 => k_is)
    (case l39 => k_is)
    (case c39 => k_is)
    (case k39 => k_is)
    (case a40 => k_is)
    (case l40 => k_is)
    (case c40 => k_is)
    (case k40 => k_is)
    (case a41 => k_is)
    (case l41 => k_is)
    (case c41 => k_is)
    (case k41 => k_is)
    (case a42 => k_is)
    (case l42 => k_is)
    (case c42 => k_is)
    (case k42 => k_is)
    (case a43 => k_is)
    (case l43 => k_is)
    (case c43 => k_is)
    (case k43 => k_is)
    (case a44 => k_is)
    (case l44 => k_is)
    (case c44 => k_is)
    (case k44 => k_is)
    (case a45 => k_is)
    (case l45 => k_is)
    (case c45 => k_is)
    (case k45 => k_is)
    (case w45 => k_is)
    (case a46 => k_is)
    (case l46 => k_is)
    (case c46 => k_is)
    (case k46 => k_is)
    (case w46 => k_is)
    (case a47 => k_is)
    (case l47 => k_is)
    (case c47 => k_is)
    (case k47 => k_is)
    (case t0 => k_is)
    (case p0 => rfl)
    (case z0 => kernel_rfl)
    (case e0 => exact PySem.W.km_tabs_of Y _ (by k_mem))
    (case n0 => kernel_rfl)
    (case a48 => k_is)
    (case l48 => k_is)
    (case c48 => k_is)
    (case k48 => k_is)
    (case t1 => k_is)
    (case p1 => rfl)
    (case z1 => kernel_rfl)
    (case e1 => exact PySem.W.km_tabs_of Y _ (by k_mem))
    (case n1 => kernel_rfl)
    (case ne => decide)
    (case dg => k_is)
    (case di => k_is)
    (case l49 => k_is)
    (case c49 => k_is)
    (case k49 => k_is)
    (case dm => k_is)
    (case df => k_is)
    (case dk => k_is)
    (case gCR => k_is)
    (case xCR => kernel_rfl)
    (case kCR => k_is)
    (case bCR => k_is)
    (case tCR => k_is)
    (case nCR => k_is)
    (case ECR1 => k_is)
    (case ECR2 => k_is)
    (case ECR3 => k_is)
    (case ECR4 => k_is)
    (case ECR5 => k_is)
    (case gCL => k_is)
    (case xCL => kernel_rfl)
    (case kCL => k_is)
    (case bCL => k_is)
    (case tCL => k_is)
    (case nCL => k_is)
    (case ECL1 => k_is)
    (case ECL2 => k_is)
    (case ECL3 => k_is)
    (case ECL4 => k_is)
    (case ECL5 => k_is)
    (case sp => k_is)
    (case tk => k_is)
    (case gSE => k_is)
    (case mCR => kernel_rfl)
    (case mCL => kernel_rfl)
    (case gW0 => k_is)
    (case rW0 => kernel_rfl)
    (case lW0 => kernel_rfl)
    (case gW1 => k_is)
    (case rW1 => kernel_rfl)
    (case lW1 => kernel_rfl)
    (case gW2 => k_is)
    (case rW2 => kernel_rfl)
    (case lW2 => kernel_rfl)
    (case gW3 => k_is)
    (case rW3 => kernel_rfl)
    (case lW3 => kernel_rfl)
    (case gW4 => k_is)
    (case rW4 => kernel_rfl)
    (case lW4 => kernel_rfl)
    (case gW5 => k_is)
    (case rW5 => kernel_rfl)
    (case lW5 => kernel_rfl)
    (case gW6 => k_is)
    (case rW6 => kernel_rfl)
    (case lW6 => kernel_rfl)
    (case gW7 => k_is)
    (case rW7 => kernel_rfl)
    (case lW7 => kernel_rfl)
    (case m_isinstance => k_is)
    (case m_int => k_is)
    (case m_bool => k_is)
    (case m_str => k_is)
    (case m_list => k_is)
    (case m_tuple => k_is)
    (case m_len => k_is)
    (case m_all => k_is)
    (case m_zip => k_is)
    (case m_enumerate => k_is)
    (case m_range => k_is)
    (case m_max => k_is)
    (case m_sorted => k_is)
    (case g_MOST_COUNT => k_is)
    (case g_MOST_IDLE => k_is)
    (case g_MOST_EDITS => k_is)
    (case g_LAST => k_is)
    (case g_FAR => k_is)
    (case a50 => k_is)
    (case l50 => k_is)
    (case c50 => k_is)
    (case k50 => k_is)
