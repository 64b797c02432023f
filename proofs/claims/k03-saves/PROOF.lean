import PyProof.Rows.All
import Wide.All
import OpenK.AllK
import Wide.FinOn
import HandS.ForMost
import HandS.Zip
import HandS.Walk
import HandS.IsInst
import HandS.Conv
import HandS.Codes
import HandS.TupAny
import HandS.Style
import KE.GoesEnum
import KE.GoesMore
import PySem.Challenge.RW_autosaves_k03_saves_and_unsaved_edits
set_option Elab.async false
set_option linter.all false
set_option maxRecDepth 100000
set_option maxHeartbeats 2000000
/-! enumerate over a TUPLE, as something that a for or a comprehension walks. -/
namespace Au
open PySem PySem.Spec PyProof.Rows L2

/-- enumerate(t), t a tuple: the object -/
theorem enumNewT (tp : Addr) (items : Array Value) (ob : Obj) (hcl : ob.cls = .type "tuple") (nn : Nat) (hda : ob.data = .seq items nn) :
    Meets (Builtin.«enumerate.__new__» ⟨[.type "enumerate", .ref tp], []⟩) (fun _ R s => s.heap.get? tp = some ob ∧
      R (.ok (.ret (.ref (s.heap.push { cls := .type "tuple_iterator", data := .fields #[.ref tp, .int 0 0] }).objs.size)))
        { s with heap := (s.heap.push { cls := .type "tuple_iterator", data := .fields #[.ref tp, .int 0 0] }).push { cls := .type "enumerate", data := .fields #[.none, .bool false, .ref s.heap.objs.size, rawInt 0, .none, .none] } }) :=
  .of_wp fun prog w A R s h => by
    obtain ⟨hp, g, d, tk, os⟩ := s
    obtain ⟨hl, h⟩ := h
    have hsub := sub_enumerate
    have hT : Heap.IsTuple (Shared.heap ⟨hp, g, d, tk, os⟩) tp items := ⟨_, hl, hcl, nn, hda⟩
    wp_walk using AutoSeq1.wpAny_loadPart' hT
    refine wpAny_stack_any fun st => wpAny_pure ?_
    split
    · rename_i c _ _ _ _ _
      cases (c == Value.type "enumerate")
      · wp_walk using AutoSeq1.wpAny_loadPart' hT, wpAny_pyIter_tuple hT
        exact ⟨_, rfl, h⟩
      · wp_walk using AutoSeq1.wpAny_loadPart' hT, wpAny_pyIter_tuple hT
        exact ⟨_, rfl, h⟩
    · wp_walk using AutoSeq1.wpAny_loadPart' hT, wpAny_pyIter_tuple hT
      exact ⟨_, rfl, h⟩

section
variable {prog : Program} {w : World} {A : Around} {E : Value → Shared → Prop} {s : Shared}
theorem callEnumT {tp : Addr} {items : Array Value} {Q : Value → Shared → Prop} (hL : s.heap.IsTuple tp items)
    (h : ∀ h', IsEnum h' (s.heap.objs.size + 1) s.heap.objs.size 0 .none → h'.IsTupleIter s.heap.objs.size tp 0 → h'.objs.size = s.heap.objs.size + 2 →
      (∀ b o, s.heap.get? b = some o → h'.get? b = some o) → Q (.ref (s.heap.objs.size + 1)) { s with heap := h' }) :
    wpAny (model prog w) A (call (.type "enumerate") [.ref tp]) Q E s := by
  obtain ⟨ob, hl, hc, nn, hd⟩ := hL
  refine callType_new F.called_enumerate (by decide) (F.typeCall_enumerate_1 _) (F.newCall_enumerate_1 _) (fun obj => F.args_object_init_2 obj _) F.entry_enumerate_new
    (enumNewT tp items ob hc nn hd) ⟨hl, ?_⟩
  have sz : (s.heap.push { cls := .type "tuple_iterator", data := .fields #[.ref tp, .int 0 0] }).objs.size = s.heap.objs.size + 1 := Heap.size_push ..
  show _ ∧ _
  rw [sz]
  have he : IsEnum ((s.heap.push { cls := .type "tuple_iterator", data := .fields #[.ref tp, .int 0 0] }).push
      { cls := .type "enumerate", data := .fields #[.none, .bool false, .ref s.heap.objs.size, rawInt 0, .none, .none] }) (s.heap.objs.size + 1) s.heap.objs.size 0 .none := by
    have q := Heap.get?_push_size (s.heap.push { cls := .type "tuple_iterator", data := .fields #[.ref tp, .int 0 0] })
      (o := { cls := .type "enumerate", data := .fields #[.none, .bool false, .ref s.heap.objs.size, rawInt 0, .none, .none] }) rfl
    rw [sz] at q
    exact q
  exact ⟨⟨_, he, rfl⟩, h _ he ⟨_, Heap.get?_push_of_some _ (Heap.get?_push_size _ rfl), rfl, rfl⟩ (by rw [Heap.size_push, sz]) fun b o x => Heap.get?_push_of_some _ (Heap.get?_push_of_some _ x)⟩
end

/-- the tuple at a, each item in a new pair with its number -/
def ItEt (K : PySem.W.Frag) (a : Addr) : It where
  go := fun i H => ∃ (xs : List V) (x : V), SqT K H a xs ∧ xs[i]? = some x
  yld := fun i H v H' => ∃ T x, v = .ref T ∧ H T = none ∧ H' = upd H T (.tup [.int (i : Nat), x]) ∧ ∀ xs, SqT K H a xs → xs[i]? = some x
  stop := fun i H => ∃ xs : List V, SqT K H a xs ∧ xs.length = i

theorem turnEt {P : Program} {w : World} {K : PySem.W.Frag} {elts : List Expr} {kk : Nat} {tpos : Pos} (a e it : Addr) :
    Turn P w K (.Tuple elts kk tpos) (ItEt K a) [e, it] e (fun i h => (∃ old, IsEnum h e it ((i : Nat) : Int) old) ∧ h.IsTupleIter it a i ∧ e ≠ it ∧ a ≠ it ∧ a ≠ e) where
  mem := by simp
  obj := fun i h st b hb => by
    obtain ⟨⟨old, hee⟩, ⟨oi, hoi, _, hdi⟩, _⟩ := st
    have eb : b = e ∨ b = it := by simpa using hb
    rcases eb with z | z
    · subst z
      exact ⟨_, hee, fun _ q => nomatch q⟩
    · subst z
      exact ⟨oi, hoi, fun _ q => by rw [hdi] at q; cases q⟩
  keep := fun i h h' st k => by
    obtain ⟨⟨old, hee⟩, hi, r⟩ := st
    exact ⟨⟨old, k e (by simp) _ hee⟩, hi.at fun o q => k it (by simp) o q, r⟩
  item := by
    intro X hP hw hK hcalm i pins s σ H E I hf st hg
    subst hP hw hK
    obtain ⟨⟨old, hee⟩, hit, hne, hai, hae⟩ := st
    obtain ⟨xs, x, hsq, hx⟩ := hg
    obtain ⟨itm, rvs, ptu, _⟩ := I.tuple hsq
    have ptt : s.heap.IsTuple a itm.toArray := ptu
    have lx : i < itm.toArray.size := by
      have h1 := rvs.length
      have h2 := (List.getElem?_eq_some_iff.mp hx).1
      simp
      omega
    have el : e < s.heap.objs.size := Heap.lt_size hee
    have il : it < s.heap.objs.size := by
      obtain ⟨_, q, _⟩ := hit
      exact Heap.lt_size q
    refine wpAny_pyNext_enum_itemD (Draws.tuple (A := X.A.in1) (I.ok.hd hcalm) it a hai itm.toArray) hee ⟨hit, ptt⟩ lx hne (by simp [hne, Ne.symm hae]) fun u h' tk hu ho hst hT hsz hk => ?_
    refine ⟨_, rfl, wpAny_letOwnedTupleGo_enum (s := { s with heap := h', toks := tk + 1 }) ho fun h'' he' sb => ?_⟩
    obtain ⟨u2, hu2, ru⟩ := rvs.get hx
    have eu : u = u2 := by
      have q : itm[i]? = some u := by simpa using hu
      rw [hu2] at q
      exact (Option.some.inj q).symm
    subst eu
    have hT2 : h''.get? s.heap.objs.size = some { cls := .type "tuple", data := .seq #[.int i tk, u] } := (sb.2 _ (Nat.ne_of_gt el)).trans hT
    have nw : ObjOk X.prog X.w (upd H s.heap.objs.size (.tup [.int (i : Nat), x])) h'' s.heap.objs.size (.tup [.int (i : Nat), x]) :=
      ⟨by show 2 ≤ sizeLine; decide, [.int i tk, u], .cons ⟨_, rfl⟩ (.cons ru .nil), ⟨_, hT2, rfl, _, rfl⟩⟩
    have I1 : Inv X pins σ (upd H s.heap.objs.size (.tup [.int (i : Nat), x])) { s with heap := h'', toks := tk + 1 } :=
      I.turnedNew (ch := [e, it]) (fun b ob hb q => (sb.2 b (fun z => hb (by simp [z]))).trans (hk b ob (fun z => hb (by simp [z])) (fun z => hb (by simp [z])) q)) hf (Nat.le_refl _) nw
    refine ⟨.ref s.heap.objs.size, _, I1, rfl, ⟨_, x, rfl, I.hok.fresh (Nat.le_refl _), rfl, fun ys hy => by rw [I.tuple_inj hy hsq]; exact hx⟩, ⟨⟨u, ?_⟩, hst.1.at fun o q => (sb.2 it (Ne.symm hne)).trans q, hne, hai, hae⟩, fun b hb => ?_⟩
    · have e1 : ((i + 1 : Nat) : Int) = (i : Int) + 1 := by omega
      rw [e1]
      exact he'
    · have lb : b < s.heap.objs.size := by
        have eb : b = e ∨ b = it := by simpa using hb
        rcases eb with z | z
        · rw [z]; exact el
        · rw [z]; exact il
      rw [upd_ne (Nat.ne_of_lt lb)]
      exact (hf b hb).1
  done := by
    intro X hP hw hK hcalm i pins s σ H E I hf st hg
    subst hP hw hK
    obtain ⟨⟨old, hee⟩, hit, hne, hai, hae⟩ := st
    obtain ⟨xs, hsq, hx⟩ := hg
    obtain ⟨itm, rvs, ptu, _⟩ := I.tuple hsq
    have ptt : s.heap.IsTuple a itm.toArray := ptu
    obtain ⟨f0, f1, f2, f3, f4, f5⟩ := hf it (by simp)
    have hl := rvs.length
    have en : i = itm.toArray.size := by simp; omega
    subst en
    exact wpAny_pyNext_enum_endD (Draws.tuple (A := X.A.in1) (I.ok.hd hcalm) it a hai itm.toArray) hee ⟨hit, ptt⟩ fun h' eb => ⟨rfl, I.turned (t' := s.toks) (fun b o hb q => eb b o hb q) f0 f1 f3 f4 f5⟩
  self := fun A i s Q E st h => let ⟨⟨_, hee⟩, _⟩ := st; wpAny_pyIter_enum hee h

def iEnT (K : PySem.W.Frag) (ta : TA) : TI := fun σ H R => ta σ H fun vs H1 => ∃ a xs, vs = [.ref a] ∧ SqT K H1 a xs ∧ R (ItEt K a) H1
theorem pi_enT {X : Cx} {e : Expr} {ta : TA} {p pos tpos : Pos} {elts : List Expr} {kk : Nat} (hg : Gl X "enumerate") (hm : X.mg "enumerate" = none) (ha : PA X [e] ta)
    (hst : starEach [e] X.env = [(false, eval e X.env)] := by rfl) : PI X (.Tuple elts kk tpos) (.Call (.Name "enumerate" p) [e] [] pos) (iEnT X.K ta) := by
  refine ⟨fun pins s σ H R I h => ?_⟩
  refine Call_ (ld_blt I hg hm boot_enumerate (PyProof.Rows.callWith_type1 (thn (ha.run pos pins s σ H _ I h) fun us s1 ⟨vs, H1, I1, r1, q1⟩ => ?_) hst rfl))
  obtain ⟨a, xs, ex, hsq, q⟩ := q1
  subst ex
  cases r1 with
  | cons r rr =>
    cases rr
    cases r
    obtain ⟨itm, rvs, ptu, _⟩ := I1.tuple hsq
    have ptt : s1.heap.IsTuple a itm.toArray := ptu
    have la : a < s1.heap.objs.size := by
      obtain ⟨_, q, _⟩ := ptu
      exact Heap.lt_size q
    refine callEnumT ptt fun h' hee hit hsz hk => wpAny_pyIter_enum hee ?_
    have I2 : Inv X pins σ H1 { s1 with heap := h' } := I1.kept (t' := s1.toks) hk
    refine ⟨s1.heap.objs.size + 1, [s1.heap.objs.size + 1, s1.heap.objs.size], _, _, H1, rfl, I2, turnEt a (s1.heap.objs.size + 1) s1.heap.objs.size, ⟨⟨.none, hee⟩, hit, Nat.succ_ne_self _, Nat.ne_of_lt la, Nat.ne_of_lt (Nat.lt_succ_of_lt la)⟩, fun b hb => ?_, q⟩
    have le : s1.heap.objs.size ≤ b := by
      have eb : b = s1.heap.objs.size + 1 ∨ b = s1.heap.objs.size := by simpa using hb
      rcases eb with z | z
      · rw [z]; exact Nat.le_succ _
      · rw [z]; exact Nat.le_refl _
    exact I1.fpOk le (I1.hok.fresh le)
theorem walk_enT {K : PySem.W.Frag} {a : Addr} {xs : List V} : Walk (ItEt K a) xs.length (fun H => SqT K H a xs) (YPair (fun i => some (.int (i : Nat))) (fun i => xs[i]?)) where
  goes := fun i _ hi q => ⟨xs, xs[i], q, by simp [hi]⟩
  stops := fun _ q => ⟨xs, q, rfl⟩
  yields := fun i H v H' _ q y => by
    obtain ⟨T, x, h1, h2, h3, h4⟩ := y
    exact ⟨T, .int (i : Nat), x, h1, h2, h3, rfl, h4 xs q⟩
theorem walk_zipTT {K : PySem.W.Frag} {a b : Addr} {xs ys : List V} {n : Nat} (hn : n = min xs.length ys.length) :
    Walk (RZ.ItzT K a b) n (fun H => SqT K H a xs ∧ SqT K H b ys) (YPair (fun i => xs[i]?) (fun i => ys[i]?)) where
  goes := fun i _ hi q => by
    subst hn
    have h1 : i < xs.length := by omega
    have h2 : i < ys.length := by omega
    exact ⟨xs, ys, xs[i], ys[i], q.1, q.2, by simp [h1], by simp [h2]⟩
  stops := fun _ q => by
    subst hn
    exact ⟨xs, ys, q.1, q.2, by omega⟩
  yields := fun i H v H' _ q y => by
    obtain ⟨T, x, z, h1, h2, h3, h4, h5⟩ := y
    exact ⟨T, x, z, h1, h2, h3, h4 xs q.1, h5 ys q.2⟩
end Au
set_option maxHeartbeats 2000000
/-! What stands in a heap: small words. -/
namespace Au
open PySem PySem.Spec PyProof.Rows L2

/-! ### heaps that grow -/
theorem same_new {H : Hp} {p : Addr} {o : HO} (h : H p = none) : Same H (upd H p o) := fun b u e => by
  rw [upd_ne (ne_of_none e h)]
  exact e
theorem same_mut {H H' : Hp} {p : Addr} {o : HO} (s : Same H H') (h : H p = none) : Same H (upd H' p o) := fun b u e => by
  rw [upd_ne (ne_of_none e h)]
  exact s b u e
theorem same_seqT {K : PySem.W.Frag} {H H' : Hp} {a : Addr} {xs : List V} (e : Same H H') (h : SqT K H a xs) : SqT K H' a xs := by
  rcases h with (h | ⟨o, h⟩) | h
  · exact .inl (.inl (e _ _ h))
  · exact .inl (.inr ⟨o, e _ _ h⟩)
  · exact .inr h
theorem sqL_of {K : PySem.W.Frag} {H : Hp} {a : Addr} {xs : List V} (h : H a = some (.lst xs)) : SqL K H a xs := .inl (.inl h)
theorem sqT_of {K : PySem.W.Frag} {H : Hp} {a : Addr} {xs : List V} (h : H a = some (.tup xs)) : SqT K H a xs := .inl (.inl h)
/-- tuples stand as they stood -/
structure Tups (H H' : Hp) : Prop where
  tup : ∀ b xs, H b = some (.tup xs) → H' b = some (.tup xs)
  frz : ∀ b o u, H b = some (.frz o u) → H' b = some (.frz o u)
theorem Tups.refl (H : Hp) : Tups H H := ⟨fun _ _ h => h, fun _ _ _ h => h⟩
theorem Tups.trans {H H1 H2 : Hp} (a : Tups H H1) (b : Tups H1 H2) : Tups H H2 := ⟨fun c x h => b.tup c x (a.tup c x h), fun c o u h => b.frz c o u (a.frz c o u h)⟩
theorem Tups.of_same {H H' : Hp} (s : Same H H') : Tups H H' := ⟨fun b x h => s b _ h, fun b o u h => s b _ h⟩
theorem Tups.new {H : Hp} {p : Addr} {o : HO} (h : H p = none) : Tups H (upd H p o) := .of_same (same_new h)
theorem Tups.lst {H : Hp} {p : Addr} {o : HO} {xs : List V} (h : H p = some (.lst xs)) : Tups H (upd H p o) where
  tup := fun b x e => by
    rw [upd_ne (ne_of e h (by intro z; cases z))]
    exact e
  frz := fun b u x e => by
    rw [upd_ne (ne_of e h (by intro z; cases z))]
    exact e
theorem Tups.sq {K : PySem.W.Frag} {H H' : Hp} {a : Addr} {xs : List V} (t : Tups H H') (h : SqT K H a xs) : SqT K H' a xs := by
  rcases h with (h | ⟨o, h⟩) | h
  · exact .inl (.inl (t.tup _ _ h))
  · exact .inl (.inr ⟨o, t.frz _ _ _ h⟩)
  · exact .inr h

/-! ### data -/
mutual
theorem dp_same {K : PySem.W.Frag} {H H' : Hp} (s : Same H H') : ∀ {v : V} {d : PyData}, Dp K H v d → Dp K H' v d
  | _, _, .non => .non
  | _, _, .bl b => .bl b
  | _, _, .int i => .int i
  | _, _, .str x => .str x
  | _, _, .lst h a => .lst (s.seq h) (dps_same s a)
  | _, _, .tup h a => .tup (same_seqT s h) (dps_same s a)
theorem dps_same {K : PySem.W.Frag} {H H' : Hp} (s : Same H H') : ∀ {vs : List V} {ds : List PyData}, DpAll K H vs ds → DpAll K H' vs ds
  | _, _, .nil => .nil
  | _, _, .cons h t => .cons (dp_same s h) (dps_same s t)
end
theorem dps_len {K : PySem.W.Frag} {H : Hp} : ∀ {vs : List V} {ds : List PyData}, DpAll K H vs ds → vs.length = ds.length
  | _, _, .nil => rfl
  | _, _, .cons _ t => congrArg (· + 1) (dps_len t)
theorem dps_get {K : PySem.W.Frag} {H : Hp} : ∀ {vs : List V} {ds : List PyData} {i : Nat} {x : V}, DpAll K H vs ds → vs[i]? = some x → ∃ d, ds[i]? = some d ∧ Dp K H x d
  | _, _, _, _, .nil, e => by simp at e
  | _, _, 0, _, .cons h _, e => by
    have e : _ = _ := Option.some.inj e
    subst e
    exact ⟨_, rfl, h⟩
  | _, _, i + 1, x, .cons _ t, e => by
    obtain ⟨d, h1, h2⟩ := dps_get (i := i) (x := x) t (by simpa using e)
    exact ⟨d, by simpa using h1, h2⟩
theorem dps_snoc {K : PySem.W.Frag} {H : Hp} : ∀ {vs : List V} {ds : List PyData} {x : V} {d : PyData}, DpAll K H vs ds → Dp K H x d → DpAll K H (vs ++ [x]) (ds ++ [d])
  | _, _, _, _, .nil, h => .cons h .nil
  | _, _, _, _, .cons a t, h => .cons a (dps_snoc t h)
theorem dps_ints {K : PySem.W.Frag} {H : Hp} : ∀ ns : List Int, DpAll K H (ns.map V.int) (ns.map PyData.int)
  | [] => .nil
  | n :: r => .cons (.int n) (dps_ints r)
theorem dp_lst {K : PySem.W.Frag} {H : Hp} {a : Addr} {ns : List Int} (h : SqL K H a (ns.map V.int)) : Dp K H (.ref a) (.list (ns.map PyData.int)) := .lst h (dps_ints ns)

/-! ### types -/
theorem tyx_lst {K : PySem.W.Frag} {H : Hp} {a : Addr} {xs : List V} (h : SqL K H a xs) : TyX K H (.ref a) (.type "list") := by
  rcases h with (h | ⟨o, h⟩) | ⟨o, its, n, h, c, _⟩
  · exact .base (.lst h)
  · exact .base (.frz h)
  · exact .kList h c
theorem tyx_tup {K : PySem.W.Frag} {H : Hp} {a : Addr} {xs : List V} (h : SqT K H a xs) : TyX K H (.ref a) (.type "tuple") := by
  rcases h with (h | ⟨o, h⟩) | ⟨o, its, n, h, c, _⟩
  · exact .base (.tup h)
  · exact .fTuple h
  · exact .kTuple h c
theorem tyx_int {K : PySem.W.Frag} {H : Hp} {i : Int} : TyX K H (.int i) (.type "int") := .base (.int i)
theorem tyx_bl {K : PySem.W.Frag} {H : Hp} {b : Bool} : TyX K H (.bl b) (.type "bool") := .base (.bl b)
theorem tyx_str {K : PySem.W.Frag} {H : Hp} {x : Str} : TyX K H (.str x) (.type "str") := .base (.str x)
theorem tyx_non {K : PySem.W.Frag} {H : Hp} : TyX K H .non (.type "NoneType") := .base .non

/-! ### lists -/
theorem take_more {α : Type} {l : List α} {i : Nat} {x : α} (h : l[i]? = some x) : l.take (i + 1) = l.take i ++ [x] := by
  rw [List.take_add_one, h]
  rfl
theorem ints_at {ns : List Int} {i : Nat} {x : V} (h : (ns.map V.int)[i]? = some x) : ∃ n, ns[i]? = some n ∧ x = .int n := by
  rw [List.getElem?_map] at h
  cases e : ns[i]? with
  | none =>
    rw [e] at h
    cases h
  | some n =>
    rw [e] at h
    exact ⟨n, rfl, (Option.some.inj h).symm⟩
theorem at_int {ns : List Int} {i : Nat} {n : Int} (h : ns[i]? = some n) : (ns.map V.int)[i]? = some (.int n) := by
  rw [List.getElem?_map, h]
  rfl
theorem getD_of {ns : List Int} {i : Nat} {n : Int} (h : ns[i]? = some n) : ns.getD i 0 = n := by
  rw [List.getD_eq_getElem?_getD, h]
  rfl
theorem at_getD {ns : List Int} {i : Nat} (h : i < ns.length) : ns[i]? = some (ns.getD i 0) := by
  rw [List.getD_eq_getElem?_getD, List.getElem?_eq_getElem h]
  rfl
theorem lt_of_at {α : Type} {l : List α} {i : Nat} {x : α} (h : l[i]? = some x) : i < l.length := (List.getElem?_eq_some_iff.mp h).1
/-- xs[-1] -/
theorem atI_back {α : Type} {xs : List α} {v : α} (h : xs[xs.length - 1]? = some v) : atI xs (-1) = some v := by
  have h0 := lt_of_at h
  have e : xs = xs.take (xs.length - 1) ++ [v] := by
    have := take_more h
    rw [show xs.length - 1 + 1 = xs.length by omega, List.take_length] at this
    exact this
  rw [e]
  exact atI_last _ _

/-! ### a def of the text; the form in which it is called -/
structure DefT (K : PySem.W.Frag) (mg : Str → Option Value) (x : Str) (st : Stmt) (ps : List Str) : Prop where
  ex : ∃ (f : Addr) (fd : FuncData), L2.Fun K x x st f fd ∧ mg x = some (.ref f) ∧ Binds K fd ps []
section
variable {P : Program} {w : World} {K : PySem.W.Frag} {mg : Str → Option Value} {base : Heap}
theorem cal_of {x : Str} {st : Stmt} {N ps : List Str} {k : Nat} {sp : Sp} (D : DefT K mg x st ps) (S : FnScope N ps (defScope st)) (len : ∀ vs H Q E, sp vs H Q E → vs.length = ps.length)
    (hbody : ∀ (f : Addr) (cdv : Value) (A : Around) (outer : List Env) (s : Shared) (H : Hp) (vs : List V) (Q : VK) (E : XK), Room k (A.deeper (envOfC x (defScope st) s.heap.objs.size f cdv)) → sp vs H Q E →
      ∃ t, PSs (cxOf CX0 P w K mg base N x (defScope st) f cdv A outer s H E).nox (defBody st) t ∧ t { nx := fun _ H' => Q .non H', rt := Q } (start N vs) H) : C8.Cal P w K mg base (k + 1) x sp [] := by
  obtain ⟨f, fd, F, hm, b⟩ := D.ex
  exact ⟨f, fd, ps, [], F.ok S len (hbody f), hm, F.kp, b, .nil⟩
theorem cal_mono {j k : Nat} {x : Str} {sp : Sp} {dvs : List V} (c : C8.Cal P w K mg base j x sp dvs) (h : j ≤ k) : C8.Cal P w K mg base k x sp dvs := by
  obtain ⟨f, fd, ps, ds, F, r⟩ := c.ex
  exact ⟨f, fd, ps, ds, F.mono h, r⟩
theorem cal_imp {k : Nat} {x : Str} {sp sp' : Sp} {dvs : List V} (c : C8.Cal P w K mg base k x sp dvs) (h : ∀ vs H Q E, sp' vs H Q E → sp vs H Q E) : C8.Cal P w K mg base k x sp' dvs := by
  obtain ⟨f, fd, ps, ds, F, r⟩ := c.ex
  exact ⟨f, fd, ps, ds, F.imp h, r⟩
end
end Au

namespace Au
open PySem PySem.Spec PyProof.Rows L2
section
variable {X : Cx} {e o : Expr} {te to : TE} {p p2 pos pos2 apos : Pos}
/-- isinstance(e, T), T a built-in class -/
theorem pe_isi {n : Str} {T : String} (h1 : X.mg "isinstance" = none) (h2 : X.mg n = none) (hb : bootBuiltins n = some (.type T)) (he : PE X e te) (hg1 : Gl X "isinstance" := by rfl) (hg2 : Gl X n := by rfl)
    (hn : n ≠ "__name__" := by decide) (hdb : (n == ("__debug__" : Str)) = false := by decide)
    (hst : starEach [e, .Name n p2] X.env = (false, eval e X.env) :: starEach [.Name n p2] X.env := by rfl)
    (hst2 : starEach [.Name n p2] X.env = [(false, eval (.Name n p2) X.env)] := by rfl) (hpl : (backTo pos (starEach [.Name n p2] X.env)).any (·.1) = false := by rfl) :
    PE X (.Call (.Name "isinstance" p) [e, .Name n p2] [] pos) (tCB (rIsi X.K) (tCons te (tCons (tC (.ty T)) tNil))) :=
  pe_callB call_isi hg1 h1 (by decide +kernel) (pa_cons he (pa_cons (pe_bltn (v := .ty T) hg2 h2 hb rfl hn hdb) pa_nil hst2) hst) (by decide) (by decide) hst hpl
theorem isi_ok {K : PySem.W.Frag} {x : V} {H : Hp} {Q : VK} {t T : String} {b : Bool} (ty : TyX K H x (.type t)) (h : kitB t T = some b) (q : Q (.bl b) H) : rIsi K [x, .ty T] H Q :=
  ⟨x, .ty T, .type t, .type T, b, rfl, .ty T, ty, kit_ty h, q⟩
/-- o.append(e), alone -/
theorem ps_app (ho : PE X o to) (he : PE X e te) (hbase : attributeBase o "append" X.env (eval o X.env) = eval o X.env := by rfl)
    (hfew : ((backTo pos (starEach (e :: []) X.env)).all (fun x => !x.1) && (backToKw pos (keywordEach [] X.env)).all (fun x => x.1.isSome)
      && decide ((e :: []).length + ([] : List Keyword).length + (if ([] : List Keyword).isEmpty then 0 else 1) < 30)) = true := by rfl)
    (hline : (apos.endLine == pos.line) = true := by rfl) (hst : starEach (e :: []) X.env = (false, eval e X.env) :: starEach [] X.env := by rfl)
    (hpl : (backTo pos (starEach [] X.env)).any (·.1) = false := by rfl) :
    PS X (.Expr (.Call (.Attribute o "append" apos) [e] [] pos) pos2) (tDrop (tBM X.K "list" rAppend to (tCons te tNil))) :=
  ps_expr (pe_bm PySem.F.plainAttrs_list PySem.F.slot_list_append PySem.F.type_list_append mt_append ho (pa_cons he pa_nil hst) hbase hfew hline hst hpl)
theorem app_ok {l : Addr} {xs : List V} {y : V} {H : Hp} {Q : VK} (h : H l = some (.lst xs)) (n : xs.length < sizeLine) (q : Q .non (upd H l (.lst (xs ++ [y])))) : rAppend (.ref l) [y] H Q :=
  ⟨l, xs, y, rfl, rfl, h, n, q⟩
theorem cut_drop1 (xs : List V) : cutV xs (some 1) none = xs.drop 1 := by
  have e : cutV xs (some 1) none = (xs.drop (min 1 xs.length)).take (xs.length - min 1 xs.length) := by
    unfold cutV
    rw [show HT.sIx xs.length 0 (some 1) = min 1 xs.length from HT.sIx_nat xs.length 0 1, HT.sIx_none]
  rw [e]
  cases xs with
  | nil => rfl
  | cons x r =>
    have h1 : min 1 (x :: r).length = 1 := by
      rw [List.length_cons]
      omega
    rw [h1]
    show List.take ((x :: r).length - 1) r = r
    exact List.take_of_length_le (by rw [List.length_cons]; omega)
/-- t[1:] -/
theorem slA_drop1 {K : PySem.W.Frag} {H : Hp} {a : Addr} {xs : List V} {Q : VK} (h : SqT K H a xs) (q : ∀ b H2, Same H H2 → SqT K H2 b (xs.drop 1) → Q (.ref b) H2) : rSlA K (.ref a) (some 1) none H Q := by
  refine ⟨a, xs, rfl, h, fun hw => ?_, fun hw p hp => ?_⟩
  · refine q a H (Same.refl H) ?_
    have e : xs = [] := by
      have h0 := hw.1
      rw [show HT.sIx xs.length 0 (some 1) = min 1 xs.length from HT.sIx_nat xs.length 0 1] at h0
      cases xs with
      | nil => rfl
      | cons x r =>
        rw [List.length_cons] at h0
        omega
    subst e
    exact h
  · refine q p _ (same_new hp) (sqT_of ?_)
    rw [upd_same, cut_drop1]
/-- t[1:], whatever the tuple -/
def rTail (K : PySem.W.Frag) : V → Option Int → Option Int → Hp → VK → Prop := fun x lo hi H Q => ∃ (a : Addr) (xs : List V), x = .ref a ∧ lo = some 1 ∧ hi = none ∧ SqT K H a xs ∧ ∀ b H2, Same H H2 → SqT K H2 b (xs.drop 1) → Q (.ref b) H2
theorem sl_tail : SlR X (rTail X.K) := by
  intro pins s σ H x v vl vu lo hi sl Q I rx hs pl pu h
  obtain ⟨a, xs, rfl, rfl, rfl, h1, q⟩ := h
  exact sl_tupA pins s σ H _ v vl vu _ _ sl Q I rx hs pl pu (slA_drop1 h1 q)
end
end Au
/-! The mathematics of the saves: a log played edit by edit; what is open at a time; plain Lean. -/
namespace Au

/-- how many edits are unsaved; the saves so far (true: by the pause, false: by the count) -/
structure PS where
  u : Nat
  done : List (Int × Bool)

/-- ahead of an edit at t, prev the edit before: the pause -/
def idleS (d prev t : Int) (s : PS) : PS := if 0 < s.u ∧ d ≤ t - prev then ⟨0, s.done ++ [(prev + d, true)]⟩ else s
/-- the edit itself -/
def cntS (c t : Int) (s : PS) : PS := if ((s.u + 1 : Nat) : Int) = c then ⟨0, s.done ++ [(t, false)]⟩ else ⟨s.u + 1, s.done⟩
def run (c d : Int) (ns : List Int) : Nat → PS
  | 0 => ⟨0, []⟩
  | i + 1 => cntS c (ns.getD i 0) (idleS d (ns.getD (i - 1) 0) (ns.getD i 0) (run c d ns i))
def rowsOf (c d : Int) (ns : List Int) (n : Nat) : List Nat := (List.range n).map fun i => (run c d ns (i + 1)).u
def fin (c d : Int) (ns : List Int) : List (Int × Bool) :=
  if 0 < (run c d ns ns.length).u then (run c d ns ns.length).done ++ [(ns.getD (ns.length - 1) 0 + d, true)] else (run c d ns ns.length).done

theorem idle_u {d p t : Int} {s : PS} : (idleS d p t s).u ≤ s.u := by
  unfold idleS
  split
  · exact Nat.zero_le _
  · exact Nat.le_refl _
theorem cnt_u {c t : Int} {s : PS} : (cntS c t s).u ≤ s.u + 1 := by
  unfold cntS
  split
  · exact Nat.zero_le _
  · exact Nat.le_refl _
theorem cnt_lt {c t : Int} {s : PS} (h1 : 1 ≤ c) (h : (s.u : Int) < c) : ((cntS c t s).u : Int) < c := by
  unfold cntS
  split
  · show ((0 : Nat) : Int) < c
    omega
  · rename_i hn
    show ((s.u + 1 : Nat) : Int) < c
    omega
theorem idle_lt {c d p t : Int} {s : PS} (h : (s.u : Int) < c) : ((idleS d p t s).u : Int) < c := by
  have := @idle_u d p t s
  omega
theorem run_lt {c d : Int} {ns : List Int} (h1 : 1 ≤ c) : ∀ i, ((run c d ns i).u : Int) < c
  | 0 => by
    show ((0 : Nat) : Int) < c
    omega
  | i + 1 => cnt_lt h1 (idle_lt (run_lt h1 i))
theorem run_le {c d : Int} {ns : List Int} : ∀ i, (run c d ns i).u ≤ i
  | 0 => Nat.le_refl _
  | i + 1 => Nat.le_trans cnt_u (Nat.succ_le_succ (Nat.le_trans idle_u (run_le i)))
theorem idle_len {d p t : Int} {s : PS} : (idleS d p t s).done.length ≤ s.done.length + 1 := by
  unfold idleS
  split
  · simp
  · exact Nat.le_succ _
theorem cnt_len {c t : Int} {s : PS} : (cntS c t s).done.length ≤ s.done.length + 1 := by
  unfold cntS
  split
  · simp
  · exact Nat.le_succ _
theorem run_len {c d : Int} {ns : List Int} : ∀ i, (run c d ns i).done.length ≤ 2 * i
  | 0 => Nat.le_refl _
  | i + 1 => by
    have h := run_len (c := c) (d := d) (ns := ns) i
    have h1 := @idle_len d (ns.getD (i - 1) 0) (ns.getD i 0) (run c d ns i)
    have h2 := @cnt_len c (ns.getD i 0) (idleS d (ns.getD (i - 1) 0) (ns.getD i 0) (run c d ns i))
    show (cntS c (ns.getD i 0) (idleS d (ns.getD (i - 1) 0) (ns.getD i 0) (run c d ns i))).done.length ≤ 2 * (i + 1)
    omega
theorem fin_len {c d : Int} {ns : List Int} : (fin c d ns).length ≤ 2 * ns.length + 1 := by
  have h := run_len (c := c) (d := d) (ns := ns) ns.length
  unfold fin
  split
  · simp; omega
  · omega
theorem rows_len {c d : Int} {ns : List Int} {n : Nat} : (rowsOf c d ns n).length = n := by
  unfold rowsOf
  simp
theorem rows_more {c d : Int} {ns : List Int} {n : Nat} : rowsOf c d ns (n + 1) = rowsOf c d ns n ++ [(run c d ns (n + 1)).u] := by
  unfold rowsOf
  rw [List.range_succ, List.map_append]
  rfl
theorem rows_last {c d : Int} {ns : List Int} {n : Nat} : (rowsOf c d ns (n + 1))[n]? = some (run c d ns (n + 1)).u := by
  rw [rows_more, List.getElem?_append_right (by rw [rows_len]; exact Nat.le_refl _), rows_len, Nat.sub_self]
  rfl

/-! ### the indices that wait -/
def wait (i u : Nat) : List Int := (List.range' (i - u) u).map fun n : Nat => (n : Int)
theorem wait_zero (i : Nat) : wait i 0 = [] := rfl
theorem wait_len (i u : Nat) : (wait i u).length = u := by
  unfold wait
  simp
theorem wait_more {i u : Nat} (h : u ≤ i) : wait (i + 1) (u + 1) = wait i u ++ [(i : Int)] := by
  unfold wait
  rw [show i + 1 - (u + 1) = i - u by omega, List.range'_concat, List.map_append]
  show _ = _ ++ [(i : Int)]
  rw [show i - u + 1 * u = i by omega]
  rfl
theorem wait_last {i u : Nat} (h : u ≤ i) (h0 : 0 < u) : (wait i u)[u - 1]? = some ((i - 1 : Nat) : Int) := by
  unfold wait
  rw [List.getElem?_map, List.getElem?_range' (by omega)]
  show some (((i - u + 1 * (u - 1) : Nat)) : Int) = _
  rw [show i - u + 1 * (u - 1) = i - 1 by omega]
/-- the rows of the law: lists of indices -/
def waits (c d : Int) (ns : List Int) (n : Nat) : List (List Int) := (List.range n).map fun i => wait (i + 1) (run c d ns (i + 1)).u
theorem waits_len {c d : Int} {ns : List Int} {n : Nat} : (waits c d ns n).length = n := by
  unfold waits
  simp
theorem waits_more {c d : Int} {ns : List Int} {n : Nat} : waits c d ns (n + 1) = waits c d ns n ++ [wait (n + 1) (run c d ns (n + 1)).u] := by
  unfold waits
  rw [List.range_succ, List.map_append]
  rfl
theorem waits_last {c d : Int} {ns : List Int} {n : Nat} : (waits c d ns (n + 1))[n]? = some (wait (n + 1) (run c d ns (n + 1)).u) := by
  rw [waits_more, List.getElem?_append_right (by rw [waits_len]; exact Nat.le_refl _), waits_len, Nat.sub_self]
  rfl

/-! ### at a time -/
def part (ns : List Int) (t : Int) : List Int := ns.filter fun m => decide (m ≤ t)
theorem part_le {ns : List Int} {t : Int} : (part ns t).length ≤ ns.length := List.length_filter_le _ _
/-- unsaved edits at a time -/
def uAt (c d : Int) (ns : List Int) (t : Int) : Nat :=
  if part ns t = [] then 0 else if d ≤ t - (part ns t).getD ((part ns t).length - 1) 0 then 0 else (run c d (part ns t) (part ns t).length).u
theorem uAt_le {c d : Int} {ns : List Int} {t : Int} : uAt c d ns t ≤ (part ns t).length := by
  unfold uAt
  split
  · exact Nat.zero_le _
  · split
    · exact Nat.zero_le _
    · exact run_le _
/-- the edits that a crash loses -/
def lostAt (c d : Int) (ns : List Int) (t : Int) : List Int := wait (part ns t).length (uAt c d ns t)
theorem lostAt_len {c d : Int} {ns : List Int} {t : Int} : (lostAt c d ns t).length = uAt c d ns t := wait_len _ _
/-- saves up to a time -/
def upTo (c d : Int) (ns : List Int) (t : Int) : List (Int × Bool) := (fin c d ns).filter fun p => decide (p.1 ≤ t)
theorem upTo_len {c d : Int} {ns : List Int} {t : Int} : (upTo c d ns t).length ≤ 2 * ns.length + 1 := Nat.le_trans (List.length_filter_le _ _) fin_len

/-! ### logs -/
structure LogOk (ns : List Int) : Prop where
  len : ns.length ≤ 60
  rng : ∀ n ∈ ns, 0 ≤ n ∧ n ≤ 1000000
  up : ∀ i, i + 1 < ns.length → ns.getD i 0 ≤ ns.getD (i + 1) 0
end Au
set_option maxHeartbeats 2000000
/-! Data of known depth, for == and !=. -/
namespace Au
open PySem PySem.Spec PyProof.Rows L2
def Sh (n : Nat) (d : PyData) : Prop := d.canLay0 = true ∧ d.depth ≤ n
theorem Sh.mono {n m : Nat} {d : PyData} (h : Sh n d) (l : n ≤ m) : Sh m d := ⟨h.1, Nat.le_trans h.2 l⟩
theorem sh_all {n : Nat} : ∀ {ds : List PyData}, (∀ d ∈ ds, Sh n d) → PyData.canLayAll0 ds = true ∧ PyData.depthAll ds ≤ n
  | [], _ => ⟨rfl, Nat.zero_le _⟩
  | d :: r, h => by
    obtain ⟨h1, h2⟩ := h d List.mem_cons_self
    obtain ⟨h3, h4⟩ := sh_all (ds := r) fun x hx => h x (List.mem_cons_of_mem _ hx)
    refine ⟨?_, ?_⟩
    · show (d.canLay0 && PyData.canLayAll0 r) = true
      rw [h1, h3]
      rfl
    · show max d.depth (PyData.depthAll r) ≤ n
      exact Nat.max_le.mpr ⟨h2, h4⟩
theorem sh_list {n : Nat} {ds : List PyData} (h : ∀ d ∈ ds, Sh n d) : Sh (n + 1) (.list ds) := ⟨(sh_all h).1, Nat.succ_le_succ (sh_all h).2⟩
theorem sh_tup {n : Nat} {ds : List PyData} (h : ∀ d ∈ ds, Sh n d) : Sh (n + 1) (.tuple ds) := ⟨(sh_all h).1, Nat.succ_le_succ (sh_all h).2⟩
theorem sh_int (i : Int) : Sh 0 (.int i) := ⟨rfl, Nat.le_refl _⟩
theorem sh_str {x : Str} (h : (PyData.str x).canLay0 = true) : Sh 0 (.str x) := ⟨h, Nat.le_refl _⟩
theorem sh_ints (ns : List Int) : Sh 1 (.list (ns.map PyData.int)) := sh_list fun d hd => by
  obtain ⟨i, _, e⟩ := List.mem_map.mp hd
  subst e
  exact sh_int i
theorem sh_intsT (ns : List Int) : Sh 1 (.tuple (ns.map PyData.int)) := sh_tup fun d hd => by
  obtain ⟨i, _, e⟩ := List.mem_map.mp hd
  subst e
  exact sh_int i
theorem shaped_of {n : Nat} {d : PyData} (h : Sh n d) (l : n ≤ 64 := by decide) : SeqAt.shaped d = true := by
  show (d.canLay0 && decide (d.depth ≤ 64)) = true
  rw [h.1, decide_eq_true (Nat.le_trans h.2 l)]
  rfl
theorem eqv_self {n : Nat} {d : PyData} (h : Sh n d) : PyData.eqv d d = true := SeqAt.eqv_refl d h.1
theorem eqv_nilL (ds : List PyData) : PyData.eqv (.list ds) (.list []) = ds.isEmpty := by
  cases ds with
  | nil => simp [PyData.eqv, PyData.eqvAll]
  | cons d r => simp [PyData.eqv, PyData.eqvAll]
theorem eqv_nilT (ds : List PyData) : PyData.eqv (.tuple ds) (.tuple []) = ds.isEmpty := by
  cases ds with
  | nil => simp [PyData.eqv, PyData.eqvAll]
  | cons d r => simp [PyData.eqv, PyData.eqvAll]
theorem sh_nilL : Sh 1 (.list []) := sh_list fun _ h => absurd h List.not_mem_nil
theorem sh_nilT : Sh 1 (.tuple []) := sh_tup fun _ h => absurd h List.not_mem_nil
theorem dp_nilL {K : PySem.W.Frag} {H : Hp} {a : Addr} (h : H a = some (.lst [])) : Dp K H (.ref a) (.list []) := .lst (sqL_of h) .nil
theorem dp_nilT {K : PySem.W.Frag} {H : Hp} {a : Addr} (h : H a = some (.tup [])) : Dp K H (.ref a) (.tuple []) := .tup (sqT_of h) .nil
/-- xs == [] -/
theorem eqL_nil {K : PySem.W.Frag} {H : Hp} {a b : Addr} {ns : List Int} {Q : VK} (h : SqL K H a (ns.map V.int)) (hb : H b = some (.lst [])) (q : Q (.bl ns.isEmpty) H) : rEqD K (.ref a) (.ref b) H Q :=
  ⟨_, _, dp_lst h, dp_nilL hb, shaped_of (sh_ints ns), shaped_of sh_nilL, by rw [eqv_nilL, List.isEmpty_map]; exact q⟩
theorem neL_nil {K : PySem.W.Frag} {H : Hp} {a b : Addr} {ns : List Int} {Q : VK} (h : SqL K H a (ns.map V.int)) (hb : H b = some (.lst [])) (q : Q (.bl (!ns.isEmpty)) H) : rNeD K (.ref a) (.ref b) H Q :=
  ⟨_, _, dp_lst h, dp_nilL hb, shaped_of (sh_ints ns), shaped_of sh_nilL, by rw [eqv_nilL, List.isEmpty_map]; exact q⟩
end Au
set_option maxHeartbeats 4000000
/-! The text by its places; in_range, is_rule, is_log. -/
namespace Au
open PySem PySem.Spec PyProof.Rows L2
def topS (i : Nat) : Stmt := PySem.Challenge.pw_autosaves_k03_saves_and_unsaved_edits.main.body.getD i (.Pass ⟨0, 0, 0, 0⟩)
abbrev s_in_range : Stmt := topS 11
abbrev N_in_range : List Str := ["value", "low", "high"]
theorem sc_in_range : FnScope N_in_range ["value", "low", "high"] (defScope s_in_range) := ⟨rfl, rfl, rfl, by decide +kernel, rfl, by decide +kernel, by decide +kernel⟩
abbrev s_is_rule : Stmt := topS 12
abbrev N_is_rule : List Str := ["value"]
theorem sc_is_rule : FnScope N_is_rule ["value"] (defScope s_is_rule) := ⟨rfl, rfl, rfl, by decide +kernel, rfl, by decide +kernel, by decide +kernel⟩
abbrev s_is_log : Stmt := topS 13
abbrev N_is_log : List Str := ["value", "time", "later"]
theorem sc_is_log : FnScope N_is_log ["value"] (defScope s_is_log) := ⟨rfl, rfl, rfl, by decide +kernel, rfl, by decide +kernel, by decide +kernel⟩
abbrev s_check_rule : Stmt := topS 14
abbrev N_check_rule : List Str := ["value"]
theorem sc_check_rule : FnScope N_check_rule ["value"] (defScope s_check_rule) := ⟨rfl, rfl, rfl, by decide +kernel, rfl, by decide +kernel, by decide +kernel⟩
abbrev s_check_log : Stmt := topS 15
abbrev N_check_log : List Str := ["value"]
theorem sc_check_log : FnScope N_check_log ["value"] (defScope s_check_log) := ⟨rfl, rfl, rfl, by decide +kernel, rfl, by decide +kernel, by decide +kernel⟩
abbrev s_check_time : Stmt := topS 16
abbrev N_check_time : List Str := ["value"]
theorem sc_check_time : FnScope N_check_time ["value"] (defScope s_check_time) := ⟨rfl, rfl, rfl, by decide +kernel, rfl, by decide +kernel, by decide +kernel⟩
abbrev s_played : Stmt := topS 17
abbrev N_played : List Str := ["rule", "log", "count", "idle", "unsaved", "rows", "done", "index", "time"]
theorem sc_played : FnScope N_played ["rule", "log"] (defScope s_played) := ⟨rfl, rfl, rfl, by decide +kernel, rfl, by decide +kernel, by decide +kernel⟩
abbrev s_unsaved_at : Stmt := topS 18
abbrev N_unsaved_at : List Str := ["rule", "log", "time", "part", "moment", "rows"]
theorem sc_unsaved_at : FnScope N_unsaved_at ["rule", "log", "time"] (defScope s_unsaved_at) := ⟨rfl, rfl, rfl, by decide +kernel, rfl, by decide +kernel, by decide +kernel⟩
abbrev s_unsaved : Stmt := topS 19
abbrev N_unsaved : List Str := ["rule", "log", "time"]
theorem sc_unsaved : FnScope N_unsaved ["rule", "log", "time"] (defScope s_unsaved) := ⟨rfl, rfl, rfl, by decide +kernel, rfl, by decide +kernel, by decide +kernel⟩
abbrev s_lost : Stmt := topS 20
abbrev N_lost : List Str := ["rule", "log", "time", "many", "moment"]
theorem sc_lost : FnScope N_lost ["rule", "log", "time"] (defScope s_lost) := ⟨rfl, rfl, rfl, by decide +kernel, rfl, by decide +kernel, by decide +kernel⟩
abbrev s_saves : Stmt := topS 21
abbrev N_saves : List Str := ["rule", "log"]
theorem sc_saves : FnScope N_saves ["rule", "log"] (defScope s_saves) := ⟨rfl, rfl, rfl, by decide +kernel, rfl, by decide +kernel, by decide +kernel⟩
abbrev s_saves_until : Stmt := topS 22
abbrev N_saves_until : List Str := ["rule", "log", "time", "moment", "reason"]
theorem sc_saves_until : FnScope N_saves_until ["rule", "log", "time"] (defScope s_saves_until) := ⟨rfl, rfl, rfl, by decide +kernel, rfl, by decide +kernel, by decide +kernel⟩
abbrev s_law_well : Stmt := topS 24
abbrev N_law_well : List Str := ["_law_cell", "_law_turn"]
theorem sc_law_well : FnScope N_law_well ["_law_cell", "_law_turn"] (defScope s_law_well) := ⟨rfl, rfl, rfl, by decide +kernel, rfl, by decide +kernel, by decide +kernel⟩
abbrev s_law_take : Stmt := topS 25
abbrev N_law_take : List Str := ["_law_bag", "_law_many_here", "_law_found", "_law_p", "_law_n"]
theorem sc_law_take : FnScope N_law_take ["_law_bag", "_law_many_here"] (defScope s_law_take) := ⟨rfl, rfl, rfl, by decide +kernel, rfl, by decide +kernel, by decide +kernel⟩
abbrev s_law_bags : Stmt := topS 26
abbrev N_law_bags : List Str := ["_law_script", "_law_most", "_law_k", "_law_cell"]
theorem sc_law_bags : FnScope N_law_bags ["_law_script", "_law_most"] (defScope s_law_bags) := ⟨rfl, rfl, rfl, by decide +kernel, rfl, by decide +kernel, by decide +kernel⟩
abbrev s_law_same : Stmt := topS 27
abbrev N_law_same : List Str := ["_law_a", "_law_b", "_law_x", "_law_y"]
theorem sc_law_same : FnScope N_law_same ["_law_a", "_law_b"] (defScope s_law_same) := ⟨rfl, rfl, rfl, by decide +kernel, rfl, by decide +kernel, by decide +kernel⟩
abbrev s_law_rule : Stmt := topS 28
abbrev N_law_rule : List Str := ["_law_bag", "_law_count"]
theorem sc_law_rule : FnScope N_law_rule ["_law_bag"] (defScope s_law_rule) := ⟨rfl, rfl, rfl, by decide +kernel, rfl, by decide +kernel, by decide +kernel⟩
abbrev s_law_log : Stmt := topS 29
abbrev N_law_log : List Str := ["_law_bag", "_law_most", "_law_rule_here", "_law_found", "_law_time", "_law_turn", "_law_near"]
theorem sc_law_log : FnScope N_law_log ["_law_bag", "_law_most", "_law_rule_here"] (defScope s_law_log) := ⟨rfl, rfl, rfl, by decide +kernel, rfl, by decide +kernel, by decide +kernel⟩
abbrev s_law_play : Stmt := topS 30
abbrev N_law_play : List Str := ["_law_rule_here", "_law_log_here", "_law_count", "_law_idle", "_law_waiting", "_law_rows", "_law_done", "_law_index"]
theorem sc_law_play : FnScope N_law_play ["_law_rule_here", "_law_log_here"] (defScope s_law_play) := ⟨rfl, rfl, rfl, by decide +kernel, rfl, by decide +kernel, by decide +kernel⟩
abbrev s_law_open : Stmt := topS 31
abbrev N_law_open : List Str := ["_law_rule_here", "_law_log_here", "_law_time", "_law_part", "_law_moment", "_law_waiting"]
theorem sc_law_open : FnScope N_law_open ["_law_rule_here", "_law_log_here", "_law_time"] (defScope s_law_open) := ⟨rfl, rfl, rfl, by decide +kernel, rfl, by decide +kernel, by decide +kernel⟩
abbrev s_law_moments : Stmt := topS 32
abbrev N_law_moments : List Str := ["_law_bag", "_law_rule_here", "_law_log_here", "_law_found", "_law_time"]
theorem sc_law_moments : FnScope N_law_moments ["_law_bag", "_law_rule_here", "_law_log_here"] (defScope s_law_moments) := ⟨rfl, rfl, rfl, by decide +kernel, rfl, by decide +kernel, by decide +kernel⟩
abbrev s_law_many : Stmt := topS 33
abbrev N_law_many : List Str := ["_law_rule_here", "_law_log_here", "_law_time", "_law_moment", "_law_reason"]
theorem sc_law_many : FnScope N_law_many ["_law_rule_here", "_law_log_here", "_law_time"] (defScope s_law_many) := ⟨rfl, rfl, rfl, by decide +kernel, rfl, by decide +kernel, by decide +kernel⟩
abbrev s_law : Stmt := topS 34
abbrev N_law : List Str := ["_law_script", "_law_bag", "_law_rule_here", "_law_log_here", "_law_rows", "_law_done", "_law_told", "_law_time", "_law_due", "_law_here"]
theorem sc_law : FnScope N_law ["_law_script"] (defScope s_law) := ⟨rfl, rfl, rfl, by decide +kernel, rfl, by decide +kernel, by decide +kernel⟩
/-- the built-in names stand; the constants of the modules -/
structure Blt (mg : Str → Option Value) : Prop where
  m_isinstance : mg "isinstance" = none
  m_int : mg "int" = none
  m_bool : mg "bool" = none
  m_str : mg "str" = none
  m_list : mg "list" = none
  m_tuple : mg "tuple" = none
  m_len : mg "len" = none
  m_all : mg "all" = none
  m_zip : mg "zip" = none
  m_enumerate : mg "enumerate" = none
  m_range : mg "range" = none
  m_max : mg "max" = none
  g_MOST_COUNT : ∃ u, mg "MOST_COUNT" = some u ∧ RelV (.int 20) u
  g_MOST_IDLE : ∃ u, mg "MOST_IDLE" = some u ∧ RelV (.int 1000) u
  g_MOST_EDITS : ∃ u, mg "MOST_EDITS" = some u ∧ RelV (.int 60) u
  g_LAST : ∃ u, mg "LAST" = some u ∧ RelV (.int 1000000) u
  g_FAR : ∃ u, mg "FAR" = some u ∧ RelV (.int 1000000000) u

/-- an int that is no bool, from lo to hi -/
def inRD (d : PyData) (lo hi : Int) : Bool := match d with
  | .int i => decide (lo ≤ i) && decide (i ≤ hi)
  | _ => false
section
variable {P : Program} {w : World} {K : PySem.W.Frag} {mg : Str → Option Value} {base : Heap}
def spInRange (K : PySem.W.Frag) : Sp := fun vs H Q _ => ∃ (x : V) (d : PyData) (lo hi : Int), vs = [x, .int lo, .int hi] ∧ Dp K H x d ∧ Q (.bl (inRD d lo hi)) H
theorem ok_in_range (B : Blt mg) (D : DefT K mg "in_range" s_in_range ["value", "low", "high"]) : C8.Cal P w K mg base 1 "in_range" (spInRange K) [] := by
  refine cal_of D sc_in_range (fun vs H Q E h => ?_) (fun f cdv A outer s H vs Q E hr h => ?_)
  · obtain ⟨x, d, lo, hi, rfl, _⟩ := h
    rfl
  · obtain ⟨x, d, lo, hi, rfl, dp, q⟩ := h
    refine ⟨_, pss_one (ps_ret (pe_and (pe_isi (T := "int") B.m_isinstance B.m_int (by decide +kernel) (pv 0)) (pe_and (pe_not (pe_isi (T := "bool") B.m_isinstance B.m_bool (by decide +kernel) (pv 0))) (pe_one (pe_chain op_le op_le (pv 1) (pv 0) (pv 2)))))), ?_⟩
    cases dp with
    | int i =>
      refine ⟨_, rfl, _, _, _, _, true, rfl, .ty _, tyx_int, kit_ty (by decide +kernel), _, rfl, iteT ⟨_, rfl, _, _, _, _, false, rfl, .ty _, tyx_int, kit_ty (by decide +kernel), _, rfl, _, rfl, iteT ?_⟩⟩
      refine ⟨_, rfl, _, rfl, _, _, rfl, rfl, _, rfl, ?_⟩
      refine ite2 (fun c => ?_) (fun c => ?_)
      · refine ⟨_, rfl, _, _, rfl, rfl, ?_⟩
        have e : inRD (.int i) lo hi = decide (i ≤ hi) := by
          show (decide (lo ≤ i) && decide (i ≤ hi)) = _
          rw [c, Bool.true_and]
        rw [e] at q
        exact q
      · have e : inRD (.int i) lo hi = false := by
          show (decide (lo ≤ i) && decide (i ≤ hi)) = _
          rw [Bool.eq_false_iff.mpr c, Bool.false_and]
        rw [e] at q
        exact q
    | bl b => exact ⟨_, rfl, _, _, _, _, true, rfl, .ty _, tyx_bl, kit_ty (by decide +kernel), _, rfl, iteT ⟨_, rfl, _, _, _, _, true, rfl, .ty _, tyx_bl, kit_ty (by decide +kernel), _, rfl, _, rfl, iteF q⟩⟩
    | non => exact ⟨_, rfl, _, _, _, _, false, rfl, .ty _, tyx_non, kit_ty (by decide +kernel), _, rfl, iteF q⟩
    | str z => exact ⟨_, rfl, _, _, _, _, false, rfl, .ty _, tyx_str, kit_ty (by decide +kernel), _, rfl, iteF q⟩
    | lst h _ => exact ⟨_, rfl, _, _, _, _, false, rfl, .ty _, tyx_lst h, kit_ty (by decide +kernel), _, rfl, iteF q⟩
    | tup h _ => exact ⟨_, rfl, _, _, _, _, false, rfl, .ty _, tyx_tup h, kit_ty (by decide +kernel), _, rfl, iteF q⟩

/-- what is_rule tells -/
def ruleD : PyData → Bool
  | .tuple [a, b] => inRD a 1 20 && inRD b 1 1000
  | _ => false
theorem ruleD_not {ds : List PyData} (h : ds.length ≠ 2) : ruleD (.tuple ds) = false := by
  match ds, h with
  | [], _ => rfl
  | [_], _ => rfl
  | [_, _], h => exact absurd rfl h
  | _ :: _ :: _ :: _, _ => rfl
theorem two_of {α : Type} {l : List α} (h : l.length = 2) : ∃ a b, l = [a, b] := by
  match l, h with
  | [a, b], _ => exact ⟨a, b, rfl⟩
def spIsRule (K : PySem.W.Frag) : Sp := fun vs H Q _ => ∃ (x : V) (d : PyData), vs = [x] ∧ Dp K H x d ∧ Q (.bl (ruleD d)) H
theorem ok_is_rule (B : Blt mg) (D : DefT K mg "is_rule" s_is_rule ["value"]) (c_in_range : C8.Cal P w K mg base 1 "in_range" (spInRange K) []) : C8.Cal P w K mg base 2 "is_rule" (spIsRule K) [] := by
  refine cal_of D sc_is_rule (fun vs H Q E h => ?_) (fun f cdv A outer s H vs Q E hr h => ?_)
  · obtain ⟨x, d, rfl, _⟩ := h
    rfl
  · obtain ⟨x, d, rfl, dp, q⟩ := h
    refine ⟨_, pss_cons (ps_if (PW.pt (pw_or (pt_not (pt_val (pe_isi (T := "tuple") B.m_isinstance B.m_tuple (by decide +kernel) (pv 0)))) (pw_or1 (pt_cmpR op_ne (pe_callB call_len_seq (by rfl) B.m_len (by decide +kernel) (pa_cons (pv 0) pa_nil)) pe_int (nomark _))))) (pss_one (ps_ret pe_bl)) (pss_nil))
      (pss_one (ps_ret (pe_and (C8.pe_c c_in_range hr (by decide) (by rfl) (pa_cons (pe_ix ix_tup (pv 0) pe_int (fun _ _ => rfl)) (pa_cons pe_int (pa_cons (C8.pe_gc (by rfl) B.g_MOST_COUNT) pa_nil)))) (pe_one (C8.pe_c c_in_range hr (by decide) (by rfl) (pa_cons (pe_ix ix_tup (pv 0) pe_int (fun _ _ => rfl)) (pa_cons pe_int (pa_cons (C8.pe_gc (by rfl) B.g_MOST_IDLE) pa_nil)))))))), ?_⟩
    cases dp with
    | int i => exact ⟨_, rfl, _, _, _, _, false, rfl, .ty _, tyx_int, kit_ty (by decide +kernel), _, rfl, iteT (iteT q)⟩
    | bl b => exact ⟨_, rfl, _, _, _, _, false, rfl, .ty _, tyx_bl, kit_ty (by decide +kernel), _, rfl, iteT (iteT q)⟩
    | non => exact ⟨_, rfl, _, _, _, _, false, rfl, .ty _, tyx_non, kit_ty (by decide +kernel), _, rfl, iteT (iteT q)⟩
    | str z => exact ⟨_, rfl, _, _, _, _, false, rfl, .ty _, tyx_str, kit_ty (by decide +kernel), _, rfl, iteT (iteT q)⟩
    | lst h _ => exact ⟨_, rfl, _, _, _, _, false, rfl, .ty _, tyx_lst h, kit_ty (by decide +kernel), _, rfl, iteT (iteT q)⟩
    | @tup a xs ds h ha =>
      refine ⟨_, rfl, _, _, _, _, true, rfl, .ty _, tyx_tup h, kit_ty (by decide +kernel), _, rfl, iteF ⟨_, rfl, _, _, rfl, .inr h, rfl, _, rfl, ?_⟩⟩
      have ln := dps_len ha
      refine ite2 (fun c => ?_) (fun c => ?_)
      · have hn : ds.length ≠ 2 := fun e => by
          rw [ln, e] at c
          exact absurd c (by decide)
        rw [ruleD_not hn] at q
        exact q
      · have hn : ds.length = 2 := by
          cases hd : decide (V.int (xs.length : Int) = V.int 2) with
          | false =>
            rw [hd] at c
            exact absurd rfl c
          | true =>
            have c2 := V.int.inj (of_decide_eq_true hd)
            omega
        obtain ⟨d1, d2, rfl⟩ := two_of hn
        cases ha with
        | @cons x1 _ _ _ h1 r =>
          cases r with
          | @cons x2 _ _ _ h2 r2 =>
            cases r2
            refine ⟨_, rfl, _, _, _, _, rfl, rfl, h, atI_nat (j := 0) rfl, x1, d1, 1, 20, rfl, h1, _, rfl, ite2 (fun c1 => ?_) (fun c1 => ?_)⟩
            · refine ⟨_, rfl, _, _, _, _, rfl, rfl, h, atI_nat (j := 1) rfl, x2, d2, 1, 1000, rfl, h2, ?_⟩
              have e : ruleD (.tuple [d1, d2]) = inRD d2 1 1000 := by
                show (inRD d1 1 20 && inRD d2 1 1000) = _
                rw [c1, Bool.true_and]
              rw [e] at q
              exact q
            · have e : ruleD (.tuple [d1, d2]) = false := by
                show (inRD d1 1 20 && inRD d2 1 1000) = _
                rw [Bool.eq_false_iff.mpr c1, Bool.false_and]
              rw [e] at q
              exact q

/-- what is_log tells -/
def valD : PyData → Int
  | .int i => i
  | _ => 0
def logD : PyData → Bool
  | .tuple ds => decide (ds.length ≤ 60) && ds.all (fun d => inRD d 0 1000000) && (ds.zip (ds.drop 1)).all (fun p => decide (valD p.1 ≤ valD p.2))
  | _ => false
theorem inR_int {d : PyData} {lo hi : Int} (h : inRD d lo hi = true) : ∃ i, d = .int i ∧ lo ≤ i ∧ i ≤ hi := by
  cases d with
  | int i =>
    have h' : (decide (lo ≤ i) && decide (i ≤ hi)) = true := h
    rw [Bool.and_eq_true, decide_eq_true_eq, decide_eq_true_eq] at h'
    exact ⟨i, rfl, h'.1, h'.2⟩
  | _ => cases h
theorem zip_at {ds : List PyData} {i : Nat} {a b : PyData} (h1 : ds[i]? = some a) (h2 : (ds.drop 1)[i]? = some b) : (ds.zip (ds.drop 1))[i]? = some (a, b) := by
  rw [List.getElem?_zip_eq_some]
  exact ⟨h1, h2⟩
def spIsLog (K : PySem.W.Frag) : Sp := fun vs H Q _ => ∃ (x : V) (d : PyData), vs = [x] ∧ Dp K H x d ∧ ∀ H', Same H H' → Q (.bl (logD d)) H'
theorem ok_is_log (B : Blt mg) (D : DefT K mg "is_log" s_is_log ["value"]) (c_in_range : C8.Cal P w K mg base 1 "in_range" (spInRange K) []) : C8.Cal P w K mg base 2 "is_log" (spIsLog K) [] := by
  refine cal_of D sc_is_log (fun vs H Q E h => ?_) (fun f cdv A outer s H vs Q E hr h => ?_)
  · obtain ⟨x, d, rfl, _⟩ := h
    rfl
  · obtain ⟨x, d, rfl, dp, q⟩ := h
    refine ⟨_, pss_cons (ps_if (PW.pt (pw_or (pt_not (pt_val (pe_isi (T := "tuple") B.m_isinstance B.m_tuple (by decide +kernel) (pv 0)))) (pw_or1 (pt_cmpR op_gt (pe_callB call_len_seq (by rfl) B.m_len (by decide +kernel) (pa_cons (pv 0) pa_nil)) (C8.pe_gc (by rfl) B.g_MOST_EDITS) (nomark _))))) (pss_one (ps_ret pe_bl)) (pss_nil))
      (pss_cons (ps_if (pt_not (pt_val (pe_callB (cr_all rfl) (by rfl) B.m_all (by decide +kernel) (pa_cons (pe_lc (own := [("time", 1)]) (g := gName 1) rfl sc_is_log.nd (pi_tup (pv 0)) (blkOk_by (N := N_is_log) (sc := defScope s_is_log) (by decide +kernel)) (fun _ _ _ _ _ => pg_name (i := 1) sc_is_log.nd rfl (Or.inl rfl)) (fun _ _ _ _ _ => pts_nil) (fun _ _ _ _ _ => C8.pe_c c_in_range hr (by decide) (by rfl) (pa_cons (pv 1) (pa_cons pe_int (pa_cons (C8.pe_gc (by rfl) B.g_LAST) pa_nil))))) pa_nil)))) (pss_one (ps_ret pe_bl)) (pss_nil))
      (pss_one (ps_ret (pe_callB (cr_all rfl) (by rfl) B.m_all (by decide +kernel) (pa_cons (pe_lc (own := [("time", 1), ("later", 2)]) (g := gTup K 2 (gCons (gName 1) (gCons (gName 2) gNil))) rfl sc_is_log.nd (RZ.pi_zipA (by rfl) B.m_zip (pa_cons (pv 0) (pa_cons (pe_slice sl_tail (pv 0) (po_some pe_int) po_none) pa_nil))) (blkOk_by (N := N_is_log) (sc := defScope s_is_log) (by decide +kernel)) (fun _ _ _ _ _ => pg_tup (by rfl) (pgs_cons (pg_name (i := 1) sc_is_log.nd rfl (Or.inl rfl)) (pgs_cons (pg_name (i := 2) sc_is_log.nd rfl (Or.inl rfl)) pgs_nil))) (fun _ _ _ _ _ => pts_nil) (fun _ _ _ _ _ => pe_cmpR op_le (pv 1) (pv 2) (nomark _))) pa_nil))))), ?_⟩
    cases dp with
    | int i => exact ⟨_, rfl, _, _, _, _, false, rfl, .ty _, tyx_int, kit_ty (by decide +kernel), _, rfl, iteT (iteT (q H (Same.refl H)))⟩
    | bl b => exact ⟨_, rfl, _, _, _, _, false, rfl, .ty _, tyx_bl, kit_ty (by decide +kernel), _, rfl, iteT (iteT (q H (Same.refl H)))⟩
    | non => exact ⟨_, rfl, _, _, _, _, false, rfl, .ty _, tyx_non, kit_ty (by decide +kernel), _, rfl, iteT (iteT (q H (Same.refl H)))⟩
    | str z => exact ⟨_, rfl, _, _, _, _, false, rfl, .ty _, tyx_str, kit_ty (by decide +kernel), _, rfl, iteT (iteT (q H (Same.refl H)))⟩
    | lst h _ => exact ⟨_, rfl, _, _, _, _, false, rfl, .ty _, tyx_lst h, kit_ty (by decide +kernel), _, rfl, iteT (iteT (q H (Same.refl H)))⟩
    | @tup a xs ds h ha =>
      have ln := dps_len ha
      refine ⟨_, rfl, _, _, _, _, true, rfl, .ty _, tyx_tup h, kit_ty (by decide +kernel), _, rfl, iteF ⟨_, rfl, _, _, rfl, .inr h, _, _, rfl, rfl, _, rfl, ?_⟩⟩
      refine ite2 (fun c => ?_) (fun c => ?_)
      · have e : logD (.tuple ds) = false := by
          have c' : (60 : Int) < xs.length := of_decide_eq_true c
          have c2 : decide (ds.length ≤ 60) = false := decide_eq_false (by omega)
          show (decide (ds.length ≤ 60) && _ && _) = false
          rw [c2, Bool.false_and, Bool.false_and]
        rw [e] at q
        exact q H (Same.refl H)
      · have l60 : ds.length ≤ 60 := by
          have c' : ¬ (60 : Int) < xs.length := fun z => c (decide_eq_true z)
          omega
        refine ⟨_, rfl, _, rfl, ⟨_, h⟩, fun L hL => ?_⟩
        refine lc_tup (K := K) (a := a) (xs := xs) (fun i H' => H' = upd H L (.lst ((ds.take i).map fun d => V.bl (inRD d 0 1000000)))) rfl (fun i H' _ e => ?_) ?_ ?_
        · subst e
          exact same_seqT (same_new hL) h
        · rintro i x H' hx rfl
          obtain ⟨d, hd, dx⟩ := dps_get ha hx
          refine ⟨rfl, _, rfl, x, d, 0, 1000000, rfl, dp_same (same_new hL) dx, _, upd_same, ?_, ?_⟩
          · rw [List.length_map, List.length_take]
            exact Nat.lt_of_le_of_lt (Nat.min_le_right _ _) (small1000 (by omega))
          · rw [upd_upd, take_more hd, List.map_append]
            rfl
        · rintro H' rfl
          rw [ln, List.take_length]
          have s1 : Same H (upd H L (.lst (ds.map fun d => V.bl (inRD d 0 1000000)))) := same_new hL
          refine ⟨L, ds.map fun d => inRD d 0 1000000, rfl, sqL_of (by rw [upd_same, List.map_map]; rfl), _, rfl, ?_⟩
          have ea : ((ds.map fun d => inRD d 0 1000000).all id) = ds.all fun d => inRD d 0 1000000 := by
            rw [List.all_map]
            rfl
          rw [ea]
          refine ite2 (fun c2 => ?_) (fun c2 => ?_)
          · have e : logD (.tuple ds) = false := by
              have c3 : (ds.all fun d => inRD d 0 1000000) = false := by simpa using c2
              show (_ && (ds.all fun d => inRD d 0 1000000) && _) = false
              rw [c3, Bool.and_false, Bool.false_and]
            rw [e] at q
            exact q _ s1
          · have c3 : (ds.all fun d => inRD d 0 1000000) = true := by simpa using c2
            have ad : ∀ d ∈ ds, ∃ i : Int, d = .int i := fun d hd => by
              obtain ⟨i, e, _⟩ := inR_int (List.all_eq_true.mp c3 d hd)
              exact ⟨i, e⟩
            have el : logD (.tuple ds) = (ds.zip (ds.drop 1)).all (fun p => decide (valD p.1 ≤ valD p.2)) := by
              show (decide (ds.length ≤ 60) && (ds.all fun d => inRD d 0 1000000) && _) = _
              rw [c3, decide_eq_true l60, Bool.true_and, Bool.true_and]
            rw [el] at q
            generalize hH1 : upd H L (.lst (ds.map fun d => V.bl (inRD d 0 1000000))) = H1 at s1
            have h1 : SqT K H1 a xs := same_seqT s1 h
            have ha1 : DpAll K H1 xs ds := dps_same s1 ha
            refine ⟨_, rfl, _, rfl, 1, rfl, a, xs, rfl, rfl, rfl, h1, fun b H2 s2 hb => ?_⟩
            have s12 : Same H H2 := s1.trans s2
            refine ⟨a, b, xs, xs.drop 1, rfl, .inr ⟨same_seqT s2 h1, hb, fun M hM => ?_⟩⟩
            refine lc_it (walk_zipTT (K := K) (a := a) (b := b) (xs := xs) (ys := xs.drop 1) rfl)
              (fun i H' => Same H2 H' ∧ H' M = some (.lst (((ds.zip (ds.drop 1)).take i).map fun p => V.bl (decide (valD p.1 ≤ valD p.2))))) ⟨same_new hM, upd_same⟩
              (fun i H' _ z => ⟨same_seqT z.1 (same_seqT s2 h1), same_seqT z.1 hb⟩) ?_ ?_
            · rintro i v H' H'' hi ⟨z1, z2⟩ ⟨T, x, y, rfl, hT, rfl, hx, hy⟩
              obtain ⟨d1, e1, p1⟩ := dps_get ha hx
              obtain ⟨d2, e2, p2⟩ : ∃ d, (ds.drop 1)[i]? = some d ∧ Dp K H y d := by
                have hy2 : (xs.drop 1)[i]? = some y := hy
                rw [List.getElem?_drop] at hy2
                obtain ⟨d, e, p⟩ := dps_get ha hy2
                exact ⟨d, by rw [List.getElem?_drop]; exact e, p⟩
              obtain ⟨i1, rfl⟩ := ad d1 (List.mem_of_getElem? e1)
              obtain ⟨i2, rfl⟩ := ad d2 (List.mem_of_mem_drop (List.mem_of_getElem? e2))
              cases p1
              cases p2
              have nM : M ≠ T := ne_of_none z2 hT
              refine ⟨T, _, rfl, sqT_of upd_same, rfl, _, _, rfl, _, _, rfl, rfl, rfl, _, rfl, _, rfl, i1, i2, rfl, rfl, _, (by rw [upd_ne nM]; exact z2), ?_, ?_, ?_⟩
              · rw [List.length_map, List.length_take, List.length_zip]
                exact Nat.lt_of_le_of_lt (Nat.min_le_right _ _) (small1000 (by omega))
              · exact same_mut (z1.trans (same_new hT)) hM
              · rw [upd_same, take_more (zip_at e1 e2), List.map_append]
                rfl
            · rintro H' ⟨z1, z2⟩
              have em : min xs.length (xs.drop 1).length = (ds.zip (ds.drop 1)).length := by
                rw [List.length_zip, List.length_drop, List.length_drop, ln]
              rw [em, List.take_length] at z2
              refine ⟨M, (ds.zip (ds.drop 1)).map fun p => decide (valD p.1 ≤ valD p.2), rfl, sqL_of (by rw [z2, List.map_map]; rfl), ?_⟩
              have ea : (((ds.zip (ds.drop 1)).map fun p => decide (valD p.1 ≤ valD p.2)).all id) = (ds.zip (ds.drop 1)).all fun p => decide (valD p.1 ≤ valD p.2) := by
                rw [List.all_map]
                rfl
              rw [ea]
              exact q _ (s12.trans z1)
end
end Au
set_option maxHeartbeats 4000000
/-! The checks; played. -/
namespace Au
open PySem PySem.Spec PyProof.Rows L2
/-! ### good rules and logs -/
structure RuleOk (c d : Int) : Prop where
  c1 : 1 ≤ c
  c2 : c ≤ 20
  d1 : 1 ≤ d
  d2 : d ≤ 1000
theorem ruleD_ok {c d : Int} (r : RuleOk c d) : ruleD (.tuple [.int c, .int d]) = true := by
  show ((decide (1 ≤ c) && decide (c ≤ 20)) && (decide (1 ≤ d) && decide (d ≤ 1000))) = true
  rw [decide_eq_true r.c1, decide_eq_true r.c2, decide_eq_true r.d1, decide_eq_true r.d2]
  rfl
theorem logD_ok {ns : List Int} (l : LogOk ns) : logD (.tuple (ns.map PyData.int)) = true := by
  show (decide ((ns.map PyData.int).length ≤ 60) && (ns.map PyData.int).all (fun d => inRD d 0 1000000) && ((ns.map PyData.int).zip ((ns.map PyData.int).drop 1)).all (fun p => decide (valD p.1 ≤ valD p.2))) = true
  have h1 : decide ((ns.map PyData.int).length ≤ 60) = true := decide_eq_true (by rw [List.length_map]; exact l.len)
  have h2 : (ns.map PyData.int).all (fun d => inRD d 0 1000000) = true := by
    rw [List.all_map, List.all_eq_true]
    intro n hn
    show (decide (0 ≤ n) && decide (n ≤ 1000000)) = true
    rw [decide_eq_true (l.rng n hn).1, decide_eq_true (l.rng n hn).2]
    rfl
  have h3 : ((ns.map PyData.int).zip ((ns.map PyData.int).drop 1)).all (fun p => decide (valD p.1 ≤ valD p.2)) = true := by
    rw [List.all_eq_true]
    intro p hp
    obtain ⟨i, hi⟩ := List.mem_iff_getElem?.mp hp
    obtain ⟨a, b⟩ := p
    rw [List.getElem?_zip_eq_some] at hi
    obtain ⟨ha, hb⟩ := hi
    rw [List.getElem?_drop, List.getElem?_map] at hb
    rw [List.getElem?_map] at ha
    cases e1 : ns[i]? with
    | none =>
      rw [e1] at ha
      cases ha
    | some x =>
      cases e2 : ns[1 + i]? with
      | none =>
        rw [e2] at hb
        cases hb
      | some y =>
        rw [e1] at ha
        rw [e2] at hb
        have ea : PyData.int x = a := Option.some.inj ha
        have eb : PyData.int y = b := Option.some.inj hb
        subst ea eb
        have lt := lt_of_at e2
        have u := l.up i (by omega)
        rw [getD_of e1, getD_of (show ns[i + 1]? = some y by rw [Nat.add_comm]; exact e2)] at u
        exact decide_eq_true u
  rw [h1, h2, h3]
  rfl
theorem dp_rule {K : PySem.W.Frag} {H : Hp} {a : Addr} {c d : Int} (h : SqT K H a [.int c, .int d]) : Dp K H (.ref a) (.tuple [.int c, .int d]) := .tup h (.cons (.int c) (.cons (.int d) .nil))
theorem dp_log {K : PySem.W.Frag} {H : Hp} {a : Addr} {ns : List Int} (h : SqT K H a (ns.map V.int)) : Dp K H (.ref a) (.tuple (ns.map PyData.int)) := .tup h (dps_ints ns)

section
variable {P : Program} {w : World} {K : PySem.W.Frag} {mg : Str → Option Value} {base : Heap}
/-! ### the checks, where they pass -/
def spCheckRule (K : PySem.W.Frag) : Sp := fun vs H Q _ => ∃ (a : Addr) (c d : Int), vs = [.ref a] ∧ SqT K H a [.int c, .int d] ∧ RuleOk c d ∧ Q .non H
theorem ok_check_rule (B : Blt mg) (D : DefT K mg "check_rule" s_check_rule ["value"]) (c_is_rule : C8.Cal P w K mg base 2 "is_rule" (spIsRule K) []) : C8.Cal P w K mg base 3 "check_rule" (spCheckRule K) [] := by
  refine cal_of D sc_check_rule (fun vs H Q E h => ?_) (fun f cdv A outer s H vs Q E hr h => ?_)
  · obtain ⟨a, c, d, rfl, _⟩ := h
    rfl
  · obtain ⟨a, c, d, rfl, h1, r, q⟩ := h
    refine ⟨_, pss_one (ps_if (pt_not (pt_val (C8.pe_c c_is_rule hr (by decide) (by rfl) (pa_cons (pv 0) pa_nil)))) (pss_one (ps_never)) (pss_nil)), ?_⟩
    refine ⟨_, rfl, _, _, rfl, dp_rule h1, ?_⟩
    rw [ruleD_ok r]
    exact ⟨_, rfl, iteF q⟩
def spCheckLog (K : PySem.W.Frag) : Sp := fun vs H Q _ => ∃ (a : Addr) (ns : List Int), vs = [.ref a] ∧ SqT K H a (ns.map V.int) ∧ LogOk ns ∧ ∀ H', Same H H' → Q .non H'
theorem ok_check_log (B : Blt mg) (D : DefT K mg "check_log" s_check_log ["value"]) (c_is_log : C8.Cal P w K mg base 2 "is_log" (spIsLog K) []) : C8.Cal P w K mg base 3 "check_log" (spCheckLog K) [] := by
  refine cal_of D sc_check_log (fun vs H Q E h => ?_) (fun f cdv A outer s H vs Q E hr h => ?_)
  · obtain ⟨a, ns, rfl, _⟩ := h
    rfl
  · obtain ⟨a, ns, rfl, h1, l, q⟩ := h
    refine ⟨_, pss_one (ps_if (pt_not (pt_val (C8.pe_c c_is_log hr (by decide) (by rfl) (pa_cons (pv 0) pa_nil)))) (pss_one (ps_never)) (pss_nil)), ?_⟩
    refine ⟨_, rfl, _, _, rfl, dp_log h1, fun H' s1 => ?_⟩
    rw [logD_ok l]
    exact ⟨_, rfl, iteF (q H' s1)⟩
def spCheckTime : Sp := fun vs H Q _ => ∃ (t : Int), vs = [.int t] ∧ (0 ≤ t ∧ t ≤ 1000000000) ∧ Q .non H
theorem ok_check_time (B : Blt mg) (D : DefT K mg "check_time" s_check_time ["value"]) (c_in_range : C8.Cal P w K mg base 1 "in_range" (spInRange K) []) : C8.Cal P w K mg base 2 "check_time" spCheckTime [] := by
  refine cal_of D sc_check_time (fun vs H Q E h => ?_) (fun f cdv A outer s H vs Q E hr h => ?_)
  · obtain ⟨t, rfl, _⟩ := h
    rfl
  · obtain ⟨t, rfl, ht, q⟩ := h
    refine ⟨_, pss_one (ps_if (pt_not (pt_val (C8.pe_c c_in_range hr (by decide) (by rfl) (pa_cons (pv 0) (pa_cons pe_int (pa_cons (C8.pe_gc (by rfl) B.g_FAR) pa_nil)))))) (pss_one (ps_never)) (pss_nil)), ?_⟩
    refine ⟨_, rfl, _, _, _, _, rfl, .int t, ?_⟩
    have e : inRD (.int t) 0 1000000000 = true := by
      show (decide (0 ≤ t) && decide (t ≤ 1000000000)) = true
      rw [decide_eq_true ht.1, decide_eq_true ht.2]
      rfl
    rw [e]
    exact ⟨_, rfl, iteF q⟩

/-! ### played -/
def why (b : Bool) : Str := if b then "idle" else "count"
def PairT (K : PySem.W.Frag) (H : Hp) (x : V) (p : Int × Bool) : Prop := ∃ a, x = V.ref a ∧ SqT K H a [.int p.1, .str (why p.2)]
theorem pairs_up {H H' : Hp} (t : Tups H H') {xs : List V} {l : List (Int × Bool)} (h : Paired (PairT K H) xs l) : Paired (PairT K H') xs l :=
  Paired.mapP h fun x p ⟨a, e, q⟩ => ⟨a, e, t.sq q⟩
theorem paired_snoc {α β : Type} {F : α → β → Prop} : ∀ {xs : List α} {l : List β} {x : α} {p : β}, Paired F xs l → F x p → Paired F (xs ++ [x]) (l ++ [p])
  | _, _, _, _, .nil, h => .cons h .nil
  | _, _, _, _, .cons r t, h => .cons r (paired_snoc t h)
theorem paired_get {α β : Type} {F : α → β → Prop} : ∀ {xs : List α} {l : List β} {i : Nat} {x : α}, Paired F xs l → xs[i]? = some x → ∃ p, l[i]? = some p ∧ F x p
  | _, _, _, _, .nil, e => by simp at e
  | _, _, 0, _, .cons h _, e => by
    have e : _ = _ := Option.some.inj e
    subst e
    exact ⟨_, rfl, h⟩
  | _, _, i + 1, x, .cons _ t, e => by
    obtain ⟨d, h1, h2⟩ := paired_get (i := i) (x := x) t (by simpa using e)
    exact ⟨d, by simpa using h1, h2⟩
/-- a save as data -/
def dn (p : Int × Bool) : PyData := .tuple [.int p.1, .str (why p.2)]
theorem pairs_dp {H : Hp} : ∀ {xs : List V} {l : List (Int × Bool)}, Paired (PairT K H) xs l → DpAll K H xs (l.map dn)
  | _, _, .nil => .nil
  | _, _, .cons ⟨a, e, q⟩ t => by
    subst e
    exact .cons (.tup q (.cons (.int _) (.cons (.str _) .nil))) (pairs_dp t)
/-- between two edits: the rows at R, the saves at L -/
structure PlSt (K : PySem.W.Frag) (H H' : Hp) (R L : Addr) (rows : List V) (s : PS) : Prop where
  same : Same H H'
  r : H' R = some (.lst rows)
  e : ∃ xs, H' L = some (.lst xs) ∧ Paired (PairT K H') xs s.done
theorem PlSt.app {H H' : Hp} {R L T : Addr} {rows xs : List V} {s : PS} {u : Nat} {p : Int × Bool} (S : PlSt K H H' R L rows s) (hRL : R ≠ L) (hL : H L = none) (hT : H' T = none) (hx : H' L = some (.lst xs)) (hp : Paired (PairT K H') xs s.done) :
    PlSt K H (upd (upd H' T (.tup [.int p.1, .str (why p.2)])) L (.lst (xs ++ [.ref T]))) R L rows ⟨u, s.done ++ [p]⟩ := by
  have nL : L ≠ T := ne_of_none hx hT
  have nR : R ≠ T := ne_of_none S.r hT
  have t1 : Tups H' (upd H' T (.tup [.int p.1, .str (why p.2)])) := .new hT
  have hx1 : (upd H' T (.tup [.int p.1, .str (why p.2)])) L = some (.lst xs) := by rw [upd_ne nL]; exact hx
  have t2 : Tups H' (upd (upd H' T (.tup [.int p.1, .str (why p.2)])) L (.lst (xs ++ [.ref T]))) := t1.trans (.lst hx1)
  refine ⟨same_mut (S.same.trans (same_new hT)) hL, by rw [upd_ne hRL, upd_ne nR]; exact S.r, _, upd_same, paired_snoc (pairs_up t2 hp) ⟨T, rfl, (Tups.lst hx1).sq (sqT_of upd_same)⟩⟩
theorem PlSt.to {H H' : Hp} {R L : Addr} {rows : List V} {s s' : PS} (S : PlSt K H H' R L rows s) (h : s.done = s'.done) : PlSt K H H' R L rows s' := ⟨S.same, S.r, by rw [← h]; exact S.e⟩
theorem PlSt.row {H H' : Hp} {R L : Addr} {rows : List V} {x : V} {s : PS} (S : PlSt K H H' R L rows s) (hRL : R ≠ L) (hR : H R = none) : PlSt K H (upd H' R (.lst (rows ++ [x]))) R L (rows ++ [x]) s := by
  obtain ⟨xs, h1, h2⟩ := S.e
  exact ⟨same_mut S.same hR, upd_same, xs, by rw [upd_ne hRL.symm]; exact h1, pairs_up (.lst S.r) h2⟩
theorem pairs_len {H : Hp} {xs : List V} {l : List (Int × Bool)} (h : Paired (PairT K H) xs l) : xs.length = l.length := Paired.length h
/-- what a call of played leaves -/
structure Played (K : PySem.W.Frag) (H H' : Hp) (p : Addr) (c d : Int) (ns : List Int) : Prop where
  same : Same H H'
  ex : ∃ (R L : Addr) (xs : List V), H' p = some (.tup [.ref R, .ref L]) ∧ H' R = some (.lst ((rowsOf c d ns ns.length).map fun n : Nat => V.int (n : Int))) ∧ H R = none ∧ H L = none ∧ R ≠ L ∧ H' L = some (.lst xs) ∧ Paired (PairT K H') xs (fin c d ns)
def spPlayed (K : PySem.W.Frag) : Sp := fun vs H Q _ => ∃ (a b : Addr) (c d : Int) (ns : List Int), vs = [.ref a, .ref b] ∧ SqT K H a [.int c, .int d] ∧ SqT K H b (ns.map V.int) ∧ 1 ≤ c ∧ ns.length ≤ 60 ∧
  ∀ H' p, H p = none → Played K H H' p c d ns → Q (.ref p) H'
theorem ok_played (B : Blt mg) (D : DefT K mg "played" s_played ["rule", "log"]) : C8.Cal P w K mg base 1 "played" (spPlayed K) [] := by
  refine cal_of D sc_played (fun vs H Q E h => ?_) (fun f cdv A outer s H vs Q E hr h => ?_)
  · obtain ⟨a, b, c, d, ns, rfl, _⟩ := h
    rfl
  · obtain ⟨a, b, c, d, ns, rfl, hA, hB, hc, hlen, q⟩ := h
    refine ⟨_, pss_cons (ps_asg (pv 0) (pg_tup (by rfl) (pgs_cons (pg_name (i := 2) sc_played.nd rfl (Or.inl rfl)) (pgs_cons (pg_name (i := 3) sc_played.nd rfl (Or.inl rfl)) pgs_nil))))
      (pss_cons (ps_par3 (i := 4) (j := 5) (l := 6) (by rfl) sc_played.nd rfl rfl rfl (by decide) (by decide) (by decide) rfl rfl rfl (pa_cons pe_int (pa_cons (pe_lst pa_nil) (pa_cons (pe_lst pa_nil) pa_nil))) (by rfl))
      (pss_cons (ps_for PassesOwn.never rfl (pi_enT (by rfl) B.m_enumerate (pa_cons (pv 1) pa_nil)) (pg_tup (by rfl) (pgs_cons (pg_name (i := 7) sc_played.nd rfl (Or.inl rfl)) (pgs_cons (pg_name (i := 8) sc_played.nd rfl (Or.inl rfl)) pgs_nil)))
        (C8.pss_cut (ps_if (PW.pt (pw_and (pt_cmpR op_gt (pv 4) pe_int (nomark _)) (pw_and1 (pt_cmpR op_ge (pe_op op_sub (pv 8) (pe_ix ix_tup (pv 1) (pe_op op_sub (pv 7) pe_int) (fun _ _ => rfl))) (pv 3) (nomark _))))) (pss_cons (ps_app (pv 6) (pe_tup (pa_cons (pe_op op_add (pe_ix ix_tup (pv 1) (pe_op op_sub (pv 7) pe_int) (fun _ _ => rfl)) (pv 3)) (pa_cons pe_str pa_nil))))
      (pss_one (ps_set (i := 4) sc_played.nd rfl (Or.inl rfl) pe_int))) (pss_nil))
      (pss_cons (ps_set (i := 4) sc_played.nd rfl (Or.inl rfl) (pe_op op_add (pv 4) pe_int))
      (C8.pss_cut (ps_if (pt_cmpR op_eq (pv 4) (pv 2) (nomark _)) (pss_cons (ps_app (pv 6) (pe_tup (pa_cons (pv 8) (pa_cons pe_str pa_nil))))
      (pss_one (ps_set (i := 4) sc_played.nd rfl (Or.inl rfl) pe_int))) (pss_nil))
      (pss_one (ps_app (pv 5) (pv 4)))))))
      (C8.pss_cut (ps_if (pt_cmpR op_gt (pv 4) pe_int (nomark _)) (pss_one (ps_app (pv 6) (pe_tup (pa_cons (pe_op op_add (pe_ix ix_tup (pv 1) (pe_un un_neg pe_int) (fun _ _ => rfl)) (pv 3)) (pa_cons pe_str pa_nil))))) (pss_nil))
      (pss_one (ps_ret (pe_tup (pa_cons (pv 5) (pa_cons (pv 6) pa_nil)))))))), ?_⟩
    refine ⟨_, rfl, a, _, rfl, hA, rfl, _, _, rfl, _, _, rfl, rfl, ?_⟩
    refine ⟨Nat.zero_le _, fun R hR => ⟨Nat.zero_le _, fun L hL => ⟨_, _, _, rfl, ?_⟩⟩⟩
    have hLR : R ≠ L := fun e => by
      subst e
      rw [upd_same] at hL
      cases hL
    have hL0 : H L = none := by
      rw [upd_ne hLR.symm] at hL
      exact hL
    have s0 : Same H (upd (upd H R (.lst [])) L (.lst [])) := (same_new hR).trans (same_new hL)
    refine ⟨_, rfl, b, _, rfl, same_seqT s0 hB, ?_⟩
    refine for_it (walk_enT (K := K) (a := b) (xs := ns.map V.int)) (fun i σ H' => ∃ y7 y8, σ = [some (.ref a), some (.ref b), some (.int c), some (.int d), some (.int ((run c d ns i).u : Int)), some (.ref R), some (.ref L), y7, y8] ∧
      PlSt K H H' R L ((rowsOf c d ns i).map fun n : Nat => V.int (n : Int)) (run c d ns i)) ?_ ?_ ?_ ?_
    · exact ⟨none, none, rfl, s0, by rw [upd_ne hLR, upd_same]; rfl, [], upd_same, .nil⟩
    · rintro i σ H' _ ⟨_, _, _, S⟩
      exact same_seqT S.same hB
    · rintro i v σ H' H'' hi ⟨y7, y8, rfl, S⟩ ⟨T, x, y, rfl, hT, rfl, hx, hy⟩
      have ex : x = .int (i : Int) := (Option.some.inj hx).symm
      obtain ⟨t, et, rfl⟩ := ints_at (show (ns.map V.int)[i]? = some y from hy)
      subst ex
      have gt : ns.getD i 0 = t := getD_of et
      have li : i < ns.length := lt_of_at et
      refine ⟨T, _, rfl, sqT_of upd_same, rfl, _, _, rfl, _, _, rfl, rfl, ?_⟩
      have S1 : PlSt K H (upd H' T (.tup [.int (i : Int), .int t])) R L ((rowsOf c d ns i).map fun n : Nat => V.int (n : Int)) (run c d ns i) := by
        obtain ⟨xs, h1, h2⟩ := S.e
        exact ⟨S.same.trans (same_new hT), by rw [upd_ne (ne_of_none S.r hT)]; exact S.r, xs, by rw [upd_ne (ne_of_none h1 hT)]; exact h1, pairs_up (.new hT) h2⟩
      generalize hH1 : upd H' T (.tup [.int (i : Int), .int t]) = H1 at S1
      have hB1 : SqT K H1 b (ns.map V.int) := same_seqT S1.same hB
      have ule := run_le (c := c) (d := d) (ns := ns) i
      have dle := run_len (c := c) (d := d) (ns := ns) i
      refine ⟨fun σ' H2 => σ' = [some (.ref a), some (.ref b), some (.int c), some (.int d), some (.int ((idleS d (ns.getD (i - 1) 0) t (run c d ns i)).u : Int)), some (.ref R), some (.ref L), some (.int (i : Int)), some (.int t)] ∧
        PlSt K H H2 R L ((rowsOf c d ns i).map fun n : Nat => V.int (n : Int)) (idleS d (ns.getD (i - 1) 0) t (run c d ns i)), ?_, ?_⟩
      · refine ⟨_, rfl, _, _, rfl, rfl, _, rfl, ite2 (fun c1 => ?_) (fun c1 => iteF ?_)⟩
        · have u0 : 0 < (run c d ns i).u := by
            have := of_decide_eq_true c1
            omega
          have hp1 : (ns.map V.int)[i - 1]? = some (.int (ns.getD (i - 1) 0)) := at_int (at_getD (by omega))
          have hat : atI (ns.map V.int) ((i : Int) - 1) = some (.int (ns.getD (i - 1) 0)) := at_of (j := i - 1) (by omega) hp1
          refine ⟨_, rfl, _, rfl, _, rfl, _, _, rfl, rfl, _, _, _, _, rfl, rfl, hB1, hat, _, _, rfl, rfl, _, rfl, _, _, rfl, rfl, _, rfl, ite2 (fun c2 => ?_) (fun c2 => ?_)⟩
          · have e : idleS d (ns.getD (i - 1) 0) t (run c d ns i) = ⟨0, (run c d ns i).done ++ [(ns.getD (i - 1) 0 + d, true)]⟩ := if_pos ⟨u0, of_decide_eq_true c2⟩
            rw [e]
            obtain ⟨xs, h1, h2⟩ := S1.e
            refine ⟨_, rfl, .inl ⟨rfl, _, sqL_of h1⟩, _, rfl, _, rfl, _, _, rfl, rfl, _, _, _, _, rfl, rfl, hB1, hat, _, rfl, _, _, rfl, rfl, (by show 2 ≤ sizeLine; decide), fun N hN => ?_⟩
            refine ⟨L, xs, _, rfl, rfl, by rw [upd_ne (ne_of_none h1 hN)]; exact h1, ?_, rfl, ?_⟩
            · rw [pairs_len h2]
              exact small1000 (by omega)
            · exact S1.app (p := (ns.getD (i - 1) 0 + d, true)) hLR hL0 hN h1 h2
          · have e : idleS d (ns.getD (i - 1) 0) t (run c d ns i) = run c d ns i := if_neg fun z => c2 (decide_eq_true z.2)
            rw [e]
            exact ⟨rfl, S1⟩
        · have e : idleS d (ns.getD (i - 1) 0) t (run c d ns i) = run c d ns i := if_neg fun z => c1 (decide_eq_true (by omega))
          rw [e]
          exact ⟨rfl, S1⟩
      · rintro _ H2 ⟨rfl, S2⟩
        have dle2 := @idle_len d (ns.getD (i - 1) 0) t (run c d ns i)
        have er : run c d ns (i + 1) = cntS c t (idleS d (ns.getD (i - 1) 0) t (run c d ns i)) := by
          show cntS c (ns.getD i 0) (idleS d (ns.getD (i - 1) 0) (ns.getD i 0) (run c d ns i)) = _
          rw [gt]
        generalize idleS d (ns.getD (i - 1) 0) t (run c d ns i) = z at S2 dle2 er
        refine ⟨_, rfl, _, _, rfl, rfl, ?_⟩
        refine ⟨fun σ' H3 => σ' = [some (.ref a), some (.ref b), some (.int c), some (.int d), some (.int ((run c d ns (i + 1)).u : Int)), some (.ref R), some (.ref L), some (.int (i : Int)), some (.int t)] ∧
          PlSt K H H3 R L ((rowsOf c d ns i).map fun n : Nat => V.int (n : Int)) (run c d ns (i + 1)), ?_, ?_⟩
        · refine ⟨_, rfl, _, rfl, rfl, _, rfl, ite2 (fun c1 => ?_) (fun c1 => ?_)⟩
          · have c2 : ((z.u + 1 : Nat) : Int) = c := by
              have := V.int.inj (of_decide_eq_true c1)
              omega
            have e : run c d ns (i + 1) = ⟨0, z.done ++ [(t, false)]⟩ := by
              rw [er]
              exact if_pos c2
            rw [e]
            obtain ⟨xs, h1, h2⟩ := S2.e
            refine ⟨_, rfl, .inl ⟨rfl, _, sqL_of h1⟩, _, rfl, (by show 2 ≤ sizeLine; decide), fun N hN => ?_⟩
            refine ⟨L, xs, _, rfl, rfl, by rw [upd_ne (ne_of_none h1 hN)]; exact h1, ?_, rfl, ?_⟩
            · rw [pairs_len h2]
              exact small1000 (by omega)
            · exact S2.app (p := (t, false)) hLR hL0 hN h1 h2
          · have c2 : ¬ ((z.u + 1 : Nat) : Int) = c := fun z2 => c1 (decide_eq_true (congrArg V.int (by omega)))
            have e : run c d ns (i + 1) = ⟨z.u + 1, z.done⟩ := by
              rw [er]
              exact if_neg c2
            rw [e]
            exact ⟨rfl, S2.to rfl⟩
        · rintro _ H3 ⟨rfl, S3⟩
          refine ⟨_, rfl, .inl ⟨rfl, _, sqL_of S3.r⟩, _, rfl, R, _, _, rfl, rfl, S3.r, ?_, ?_⟩
          · rw [List.length_map, rows_len]
            exact small1000 (by omega)
          · refine ⟨_, _, rfl, ?_⟩
            rw [rows_more, List.map_append]
            exact S3.row hLR hR
    · rintro σ H' ⟨y7, y8, rfl, S⟩
      rw [List.length_map] at S ⊢
      have ule := run_le (c := c) (d := d) (ns := ns) ns.length
      have dle := run_len (c := c) (d := d) (ns := ns) ns.length
      refine ⟨fun σ' H2 => σ' = [some (.ref a), some (.ref b), some (.int c), some (.int d), some (.int ((run c d ns ns.length).u : Int)), some (.ref R), some (.ref L), y7, y8] ∧
        PlSt K H H2 R L ((rowsOf c d ns ns.length).map fun n : Nat => V.int (n : Int)) ⟨0, fin c d ns⟩, ?_, ?_⟩
      · refine ⟨_, rfl, _, _, rfl, rfl, _, rfl, ite2 (fun c1 => ?_) (fun c1 => ?_)⟩
        · have u0 : 0 < (run c d ns ns.length).u := by
            have := of_decide_eq_true c1
            omega
          have e : fin c d ns = (run c d ns ns.length).done ++ [(ns.getD (ns.length - 1) 0 + d, true)] := if_pos u0
          rw [e]
          obtain ⟨xs, h1, h2⟩ := S.e
          have hat : atI (ns.map V.int) (-1) = some (.int (ns.getD (ns.length - 1) 0)) := atI_back (by rw [List.length_map]; exact at_int (at_getD (by omega)))
          refine ⟨_, rfl, .inl ⟨rfl, _, sqL_of h1⟩, _, rfl, 1, rfl, _, _, _, _, rfl, rfl, same_seqT S.same hB, hat, _, rfl, _, _, rfl, rfl, (by show 2 ≤ sizeLine; decide), fun N hN => ?_⟩
          refine ⟨L, xs, _, rfl, rfl, by rw [upd_ne (ne_of_none h1 hN)]; exact h1, ?_, rfl, ?_⟩
          · rw [pairs_len h2]
            exact small1000 (by omega)
          · exact S.app (p := (ns.getD (ns.length - 1) 0 + d, true)) hLR hL0 hN h1 h2
        · have e : fin c d ns = (run c d ns ns.length).done := if_neg fun z => c1 (decide_eq_true (by omega))
          rw [e]
          exact ⟨rfl, S.to rfl⟩
      · rintro _ H2 ⟨rfl, S2⟩
        refine ⟨_, rfl, _, rfl, (by show 2 ≤ sizeLine; decide), fun p hp => ?_⟩
        obtain ⟨xs, h1, h2⟩ := S2.e
        refine q _ p (S2.same.free hp) ⟨S2.same.trans (same_new hp), R, L, xs, upd_same, ?_, hR, hL0, hLR, ?_, pairs_up (.new hp) h2⟩
        · rw [upd_ne (ne_of_none S2.r hp)]
          exact S2.r
        · rw [upd_ne (ne_of_none h1 hp)]
          exact h1
end
end Au
set_option maxHeartbeats 4000000
/-! unsaved_at, unsaved, lost, saves, saves_until. -/
namespace Au
open PySem PySem.Spec PyProof.Rows L2
theorem part_more {ns : List Int} {i : Nat} {n t : Int} (h : ns[i]? = some n) : part (ns.take (i + 1)) t = if n ≤ t then part (ns.take i) t ++ [n] else part (ns.take i) t := by
  unfold part
  rw [take_more h, List.filter_append]
  by_cases c : n ≤ t
  · rw [if_pos c, List.filter_cons_of_pos (by simpa using c)]
    rfl
  · rw [if_neg c, List.filter_cons_of_neg (by simpa using c)]
    simp
theorem part_take {ns : List Int} {t : Int} {i : Nat} : (part (ns.take i) t).length ≤ ns.length := Nat.le_trans part_le (by rw [List.length_take]; exact Nat.min_le_right _ _)
theorem rows_ints {c d : Int} {ns : List Int} {n : Nat} : ((rowsOf c d ns n).map fun m : Nat => V.int (m : Int)) = ((rowsOf c d ns n).map fun m : Nat => (m : Int)).map V.int := by
  rw [List.map_map]
  rfl
theorem uAt_nil {c d : Int} {ns : List Int} {t : Int} (h : part ns t = []) : uAt c d ns t = 0 := if_pos h
theorem uAt_late {c d : Int} {ns : List Int} {t : Int} (h : d ≤ t - (part ns t).getD ((part ns t).length - 1) 0) : uAt c d ns t = 0 := by
  unfold uAt
  rw [if_pos h]
  split <;> rfl
theorem uAt_open {c d : Int} {ns : List Int} {t : Int} (h0 : part ns t ≠ []) (h : ¬ d ≤ t - (part ns t).getD ((part ns t).length - 1) 0) : uAt c d ns t = (run c d (part ns t) (part ns t).length).u := by
  unfold uAt
  rw [if_neg h0, if_neg h]
section
variable {P : Program} {w : World} {K : PySem.W.Frag} {mg : Str → Option Value} {base : Heap}
def spUnsavedAt (K : PySem.W.Frag) : Sp := fun vs H Q _ => ∃ (a b : Addr) (c d t : Int) (ns : List Int), vs = [.ref a, .ref b, .int t] ∧ SqT K H a [.int c, .int d] ∧ SqT K H b (ns.map V.int) ∧ 1 ≤ c ∧ ns.length ≤ 60 ∧
  ∀ H', Same H H' → Q (.int (uAt c d ns t : Int)) H'
theorem ok_unsaved_at (B : Blt mg) (D : DefT K mg "unsaved_at" s_unsaved_at ["rule", "log", "time"]) (c_played : C8.Cal P w K mg base 1 "played" (spPlayed K) []) : C8.Cal P w K mg base 2 "unsaved_at" (spUnsavedAt K) [] := by
  refine cal_of D sc_unsaved_at (fun vs H Q E h => ?_) (fun f cdv A outer s H vs Q E hr h => ?_)
  · obtain ⟨a, b, c, d, t, ns, rfl, _⟩ := h
    rfl
  · obtain ⟨a, b, c, d, t, ns, rfl, hA, hB, hc, hlen, q⟩ := h
    refine ⟨_, pss_cons (ps_set (i := 3) sc_unsaved_at.nd rfl (Or.inl rfl) (pe_callTy call_tuple_of (by rfl) B.m_tuple (by decide +kernel) (pa_cons (pe_lc (own := [("moment", 4)]) (g := gName 4) rfl sc_unsaved_at.nd (pi_tup (pv 1)) (blkOk_by (N := N_unsaved_at) (sc := defScope s_unsaved_at) (by decide +kernel)) (fun _ _ _ _ _ => pg_name (i := 4) sc_unsaved_at.nd rfl (Or.inl rfl)) (fun _ _ _ _ _ => pts_one (pt_cmpR op_le (pv 4) (pv 2) (nomark _))) (fun _ _ _ _ _ => pv 4)) pa_nil)))
      (pss_cons (ps_set (i := 5) sc_unsaved_at.nd rfl (Or.inl rfl) (pe_ix ix_tup (C8.pe_c c_played hr (by decide) (by rfl) (pa_cons (pv 0) (pa_cons (pv 3) pa_nil))) pe_int (fun _ _ => rfl)))
      (pss_one (ps_ret (pe_ifExp (PW.pt (pw_or (pt_cmpR (op_eqD hr.units) (pv 5) (pe_lst pa_nil) (nomark _)) (pw_or1 (pt_cmpR op_ge (pe_op op_sub (pv 2) (pe_ix ix_tup (pv 3) (pe_un un_neg pe_int) (fun _ _ => rfl))) (pe_ix ix_tup (pv 0) pe_int (fun _ _ => rfl)) (nomark _))))) pe_int (pe_ix ix_list (pv 5) (pe_un un_neg pe_int) (fun _ _ => rfl)))))), ?_⟩
    refine ⟨_, rfl, b, rfl, ⟨_, hB⟩, fun L hL => ?_⟩
    refine lc_tup (K := K) (a := b) (xs := ns.map V.int) (fun i H' => H' = upd H L (.lst ((part (ns.take i) t).map V.int))) rfl (fun i H' _ e => ?_) ?_ ?_
    · subst e
      exact same_seqT (same_new hL) hB
    · rintro i x H' hx rfl
      obtain ⟨n, hn, rfl⟩ := ints_at hx
      refine ⟨rfl, _, rfl, _, rfl, _, _, rfl, rfl, _, rfl, ?_⟩
      have em := part_more (t := t) hn
      refine ite2 (fun c1 => ?_) (fun c1 => ?_)
      · rw [if_pos (of_decide_eq_true c1)] at em
        refine ⟨_, rfl, _, upd_same, ?_, ?_⟩
        · rw [List.length_map]
          exact small1000 (Nat.le_trans part_take (by omega))
        · rw [upd_upd, em, List.map_append]
          rfl
      · rw [if_neg fun z => c1 (decide_eq_true z)] at em
        rw [em]
    · rintro H' rfl
      rw [List.length_map, List.take_length]
      have s1 : Same H (upd H L (.lst ((part ns t).map V.int))) := same_new hL
      have hL1 : (upd H L (.lst ((part ns t).map V.int))) L = some (.lst ((part ns t).map V.int)) := upd_same
      generalize upd H L (.lst ((part ns t).map V.int)) = H1 at s1 hL1
      refine ⟨L, _, rfl, .inl ⟨sqL_of hL1, fun T hT => ?_⟩⟩
      have s2 : Same H (upd H1 T (.tup ((part ns t).map V.int))) := s1.trans (same_new hT)
      have hT2 : SqT K (upd H1 T (.tup ((part ns t).map V.int))) T ((part ns t).map V.int) := sqT_of upd_same
      generalize upd H1 T (.tup ((part ns t).map V.int)) = H2 at s2 hT2
      have hp60 : (part ns t).length ≤ 60 := Nat.le_trans part_le hlen
      refine ⟨_, rfl, _, rfl, a, T, c, d, part ns t, rfl, same_seqT s2 hA, hT2, hc, hp60, fun H3 p hp Y => ?_⟩
      obtain ⟨R, M, xs, y1, y2, y3, y4, y5, y6, y7⟩ := Y.ex
      have s3 : Same H H3 := s2.trans Y.same
      have hT3 : SqT K H3 T ((part ns t).map V.int) := same_seqT Y.same hT2
      refine ⟨_, _, _, _, rfl, rfl, sqT_of y1, atI_nat (j := 0) rfl, ?_⟩
      rw [rows_ints] at y2
      refine ⟨_, rfl, Nat.zero_le _, fun N hN => ?_⟩
      have hR4 : (upd H3 N (.lst [])) R = some (.lst (((rowsOf c d (part ns t) (part ns t).length).map fun m : Nat => (m : Int)).map V.int)) := by
        rw [upd_ne (ne_of_none y2 hN)]
        exact y2
      have s4 : Same H (upd H3 N (.lst [])) := s3.trans (same_new hN)
      have hT4 : SqT K (upd H3 N (.lst [])) T ((part ns t).map V.int) := same_seqT (same_new hN) hT3
      have hN4 : (upd H3 N (.lst [])) N = some (.lst []) := upd_same
      generalize upd H3 N (.lst []) = H4 at s4 hT4 hR4 hN4
      refine ⟨_, _, dp_lst (sqL_of hR4), dp_nilL hN4, shaped_of (sh_ints _), shaped_of sh_nilL, _, rfl, ?_⟩
      rw [eqv_nilL, List.isEmpty_map, List.isEmpty_map]
      have hem : (rowsOf c d (part ns t) (part ns t).length).isEmpty = (part ns t).isEmpty := by
        have l1 := rows_len (c := c) (d := d) (ns := part ns t) (n := (part ns t).length)
        cases e : part ns t with
        | nil => rfl
        | cons x r =>
          rw [e] at l1
          cases e2 : rowsOf c d (x :: r) (x :: r).length with
          | nil =>
            rw [e2] at l1
            cases l1
          | cons _ _ => rfl
      rw [hem]
      refine ite2 (fun c1 => ?_) (fun c1 => ?_)
      · have e0 : part ns t = [] := List.isEmpty_iff.mp c1
        refine iteT ?_
        have := q H4 s4
        rw [uAt_nil e0] at this
        exact this
      · have e0 : part ns t ≠ [] := fun z => c1 (List.isEmpty_iff.mpr z)
        have l0 : 0 < (part ns t).length := List.length_pos_iff.mpr e0
        have hat : atI ((part ns t).map V.int) (-1) = some (.int ((part ns t).getD ((part ns t).length - 1) 0)) := atI_back (by rw [List.length_map]; exact at_int (at_getD (by omega)))
        refine ⟨_, rfl, _, rfl, 1, rfl, _, _, _, _, rfl, rfl, hT4, hat, _, _, rfl, rfl, _, rfl, _, _, _, _, rfl, rfl, same_seqT s4 hA, atI_nat (j := 1) rfl, _, _, rfl, rfl, _, rfl, ?_⟩
        refine ite2 (fun c2 => ?_) (fun c2 => ?_)
        · have := q H4 s4
          rw [uAt_late (of_decide_eq_true c2)] at this
          exact this
        · have e := uAt_open (c := c) (d := d) (ns := ns) (t := t) e0 fun z => c2 (decide_eq_true z)
          have hl : ((((rowsOf c d (part ns t) (part ns t).length).map fun m : Nat => (m : Int)).map V.int))[(((rowsOf c d (part ns t) (part ns t).length).map fun m : Nat => (m : Int)).map V.int).length - 1]? = some (.int ((run c d (part ns t) (part ns t).length).u : Int)) := by
            rw [List.length_map, List.length_map, rows_len]
            obtain ⟨m, hm⟩ : ∃ m, (part ns t).length = m + 1 := ⟨(part ns t).length - 1, by omega⟩
            rw [hm, Nat.add_sub_cancel, List.getElem?_map, List.getElem?_map, rows_last]
            rfl
          refine ⟨_, rfl, 1, rfl, _, _, _, _, rfl, rfl, sqL_of hR4, atI_back hl, ?_⟩
          have := q H4 s4
          rw [e] at this
          exact this
/-! ### unsaved, lost, saves, saves_until -/
def TimeOk (t : Int) : Prop := 0 ≤ t ∧ t ≤ 1000000000
def spUnsaved (K : PySem.W.Frag) : Sp := fun vs H Q _ => ∃ (a b : Addr) (c d t : Int) (ns : List Int), vs = [.ref a, .ref b, .int t] ∧ SqT K H a [.int c, .int d] ∧ SqT K H b (ns.map V.int) ∧ RuleOk c d ∧ LogOk ns ∧ TimeOk t ∧
  ∀ H', Same H H' → Q (.int (uAt c d ns t : Int)) H'
theorem ok_unsaved (B : Blt mg) (D : DefT K mg "unsaved" s_unsaved ["rule", "log", "time"]) (c_check_rule : C8.Cal P w K mg base 3 "check_rule" (spCheckRule K) []) (c_check_log : C8.Cal P w K mg base 3 "check_log" (spCheckLog K) [])
    (c_check_time : C8.Cal P w K mg base 2 "check_time" spCheckTime []) (c_unsaved_at : C8.Cal P w K mg base 2 "unsaved_at" (spUnsavedAt K) []) : C8.Cal P w K mg base 4 "unsaved" (spUnsaved K) [] := by
  refine cal_of D sc_unsaved (fun vs H Q E h => ?_) (fun f cdv A outer s H vs Q E hr h => ?_)
  · obtain ⟨a, b, c, d, t, ns, rfl, _⟩ := h
    rfl
  · obtain ⟨a, b, c, d, t, ns, rfl, hA, hB, r, l, ht, q⟩ := h
    refine ⟨_, pss_cons (ps_expr (C8.pe_c c_check_rule hr (by decide) (by rfl) (pa_cons (pv 0) pa_nil)))
      (pss_cons (ps_expr (C8.pe_c c_check_log hr (by decide) (by rfl) (pa_cons (pv 1) pa_nil)))
      (pss_cons (ps_expr (C8.pe_c c_check_time hr (by decide) (by rfl) (pa_cons (pv 2) pa_nil)))
      (pss_one (ps_ret (C8.pe_c c_unsaved_at hr (by decide) (by rfl) (pa_cons (pv 0) (pa_cons (pv 1) (pa_cons (pv 2) pa_nil)))))))), ?_⟩
    refine ⟨_, rfl, a, c, d, rfl, hA, r, _, rfl, b, ns, rfl, hB, l, fun H1 s1 => ⟨_, rfl, t, rfl, ht, _, rfl, _, rfl, _, rfl, a, b, c, d, t, ns, rfl, same_seqT s1 hA, same_seqT s1 hB, r.c1, l.len, fun H2 s2 => q H2 (s1.trans s2)⟩⟩
def spLost (K : PySem.W.Frag) : Sp := fun vs H Q _ => ∃ (a b : Addr) (c d t : Int) (ns : List Int), vs = [.ref a, .ref b, .int t] ∧ SqT K H a [.int c, .int d] ∧ SqT K H b (ns.map V.int) ∧ RuleOk c d ∧ LogOk ns ∧ TimeOk t ∧
  ∀ H' p, Same H H' → H p = none → H' p = some (.lst ((lostAt c d ns t).map V.int)) → Q (.ref p) H'
theorem lost_rg {c d : Int} {ns : List Int} {t : Int} : rgV (((part ns t).length : Int) - (uAt c d ns t : Int)) ((part ns t).length : Int) = (lostAt c d ns t).map V.int := by
  have h := uAt_le (c := c) (d := d) (ns := ns) (t := t)
  unfold lostAt wait rgV
  rw [show ((((part ns t).length : Int)) - (((part ns t).length : Int) - (uAt c d ns t : Int))).toNat = uAt c d ns t by omega, List.range'_eq_map_range, List.map_map, List.map_map]
  refine List.map_congr_left fun i hi => ?_
  show V.int _ = V.int _
  congr 1
  show ((part ns t).length : Int) - (uAt c d ns t : Int) + (i : Int) = (((part ns t).length - uAt c d ns t + i : Nat) : Int)
  omega
theorem ok_lost (B : Blt mg) (D : DefT K mg "lost" s_lost ["rule", "log", "time"]) (c_check_rule : C8.Cal P w K mg base 3 "check_rule" (spCheckRule K) []) (c_check_log : C8.Cal P w K mg base 3 "check_log" (spCheckLog K) [])
    (c_check_time : C8.Cal P w K mg base 2 "check_time" spCheckTime []) (c_unsaved_at : C8.Cal P w K mg base 2 "unsaved_at" (spUnsavedAt K) []) : C8.Cal P w K mg base 4 "lost" (spLost K) [] := by
  refine cal_of D sc_lost (fun vs H Q E h => ?_) (fun f cdv A outer s H vs Q E hr h => ?_)
  · obtain ⟨a, b, c, d, t, ns, rfl, _⟩ := h
    rfl
  · obtain ⟨a, b, c, d, t, ns, rfl, hA, hB, r, l, ht, q⟩ := h
    refine ⟨_, pss_cons (ps_expr (C8.pe_c c_check_rule hr (by decide) (by rfl) (pa_cons (pv 0) pa_nil)))
      (pss_cons (ps_expr (C8.pe_c c_check_log hr (by decide) (by rfl) (pa_cons (pv 1) pa_nil)))
      (pss_cons (ps_expr (C8.pe_c c_check_time hr (by decide) (by rfl) (pa_cons (pv 2) pa_nil)))
      (pss_cons (ps_set (i := 3) sc_lost.nd rfl (Or.inl rfl) (pe_callB call_len_seq (by rfl) B.m_len (by decide +kernel) (pa_cons (pe_lc (own := [("moment", 4)]) (g := gName 4) rfl sc_lost.nd (pi_tup (pv 1)) (blkOk_by (N := N_lost) (sc := defScope s_lost) (by decide +kernel)) (fun _ _ _ _ _ => pg_name (i := 4) sc_lost.nd rfl (Or.inl rfl)) (fun _ _ _ _ _ => pts_one (pt_cmpR op_le (pv 4) (pv 2) (nomark _))) (fun _ _ _ _ _ => pv 4)) pa_nil)))
      (pss_one (ps_ret (pe_listRg rfl (by rfl) B.m_list (prg_2 (by rfl) B.m_range (pe_op op_sub (pv 3) (C8.pe_c c_unsaved_at hr (by decide) (by rfl) (pa_cons (pv 0) (pa_cons (pv 1) (pa_cons (pv 2) pa_nil))))) (pv 3)))))))), ?_⟩
    refine ⟨_, rfl, a, c, d, rfl, hA, r, _, rfl, b, ns, rfl, hB, l, fun H1 s1 => ⟨_, rfl, t, rfl, ht, ?_⟩⟩
    have hA1 := same_seqT s1 hA
    have hB1 := same_seqT s1 hB
    refine ⟨_, rfl, b, rfl, ⟨_, hB1⟩, fun L hL => ?_⟩
    refine lc_tup (K := K) (a := b) (xs := ns.map V.int) (fun i H' => H' = upd H1 L (.lst ((part (ns.take i) t).map V.int))) rfl (fun i H' _ e => ?_) ?_ ?_
    · subst e
      exact same_seqT (same_new hL) hB1
    · rintro i x H' hx rfl
      obtain ⟨n, hn, rfl⟩ := ints_at hx
      refine ⟨rfl, _, rfl, _, rfl, _, _, rfl, rfl, _, rfl, ?_⟩
      have em := part_more (t := t) hn
      refine ite2 (fun c1 => ?_) (fun c1 => ?_)
      · rw [if_pos (of_decide_eq_true c1)] at em
        refine ⟨_, rfl, _, upd_same, ?_, ?_⟩
        · rw [List.length_map]
          exact small1000 (Nat.le_trans part_take (Nat.le_trans l.len (by decide)))
        · rw [upd_upd, em, List.map_append]
          rfl
      · rw [if_neg fun z => c1 (decide_eq_true z)] at em
        rw [em]
    · rintro H' rfl
      rw [List.length_map, List.take_length]
      have s2 : Same H (upd H1 L (.lst ((part ns t).map V.int))) := s1.trans (same_new hL)
      have hL2 : (upd H1 L (.lst ((part ns t).map V.int))) L = some (.lst ((part ns t).map V.int)) := upd_same
      generalize upd H1 L (.lst ((part ns t).map V.int)) = H2 at s2 hL2
      refine ⟨L, _, rfl, .inl (sqL_of hL2), ?_⟩
      rw [List.length_map]
      refine ⟨_, rfl, _, rfl, _, rfl, _, rfl, a, b, c, d, t, ns, rfl, same_seqT s2 hA, same_seqT s2 hB, r.c1, l.len, fun H3 s3 => ⟨_, _, rfl, rfl, _, rfl, _, _, rfl, rfl, ?_, fun p hp => ?_⟩⟩
      · have h1 := uAt_le (c := c) (d := d) (ns := ns) (t := t)
        have h2 := part_le (ns := ns) (t := t)
        have h3 := l.len
        exact RgOk.of_le (by omega) (by omega) (by omega) (by omega)
      · rw [lost_rg]
        exact q _ p ((s2.trans s3).trans (same_new hp)) ((s2.trans s3).free hp) upd_same
/-- what a call of saves leaves: a new list -/
structure Saves (K : PySem.W.Frag) (H H' : Hp) (L : Addr) (l : List (Int × Bool)) : Prop where
  same : Same H H'
  free : H L = none
  ex : ∃ xs, H' L = some (.lst xs) ∧ Paired (PairT K H') xs l
def spSaves (K : PySem.W.Frag) : Sp := fun vs H Q _ => ∃ (a b : Addr) (c d : Int) (ns : List Int), vs = [.ref a, .ref b] ∧ SqT K H a [.int c, .int d] ∧ SqT K H b (ns.map V.int) ∧ RuleOk c d ∧ LogOk ns ∧
  ∀ H' L, Saves K H H' L (fin c d ns) → Q (.ref L) H'
theorem ok_saves (B : Blt mg) (D : DefT K mg "saves" s_saves ["rule", "log"]) (c_check_rule : C8.Cal P w K mg base 3 "check_rule" (spCheckRule K) []) (c_check_log : C8.Cal P w K mg base 3 "check_log" (spCheckLog K) [])
    (c_played : C8.Cal P w K mg base 1 "played" (spPlayed K) []) : C8.Cal P w K mg base 4 "saves" (spSaves K) [] := by
  refine cal_of D sc_saves (fun vs H Q E h => ?_) (fun f cdv A outer s H vs Q E hr h => ?_)
  · obtain ⟨a, b, c, d, ns, rfl, _⟩ := h
    rfl
  · obtain ⟨a, b, c, d, ns, rfl, hA, hB, r, l, q⟩ := h
    refine ⟨_, pss_cons (ps_expr (C8.pe_c c_check_rule hr (by decide) (by rfl) (pa_cons (pv 0) pa_nil)))
      (pss_cons (ps_expr (C8.pe_c c_check_log hr (by decide) (by rfl) (pa_cons (pv 1) pa_nil)))
      (pss_one (ps_ret (pe_ix ix_tup (C8.pe_c c_played hr (by decide) (by rfl) (pa_cons (pv 0) (pa_cons (pv 1) pa_nil))) pe_int (fun _ _ => rfl))))), ?_⟩
    refine ⟨_, rfl, a, c, d, rfl, hA, r, _, rfl, b, ns, rfl, hB, l, fun H1 s1 => ⟨_, rfl, _, rfl, a, b, c, d, ns, rfl, same_seqT s1 hA, same_seqT s1 hB, r.c1, l.len, fun H2 p hp Y => ?_⟩⟩
    obtain ⟨R, M, xs, y1, y2, y3, y4, y5, y6, y7⟩ := Y.ex
    exact ⟨_, _, _, _, rfl, rfl, sqT_of y1, atI_nat (j := 1) rfl, q H2 M ⟨s1.trans Y.same, s1.free y4, xs, y6, y7⟩⟩
theorem upTo_more {l : List (Int × Bool)} {i : Nat} {p : Int × Bool} {t : Int} (h : l[i]? = some p) :
    (l.take (i + 1)).filter (fun p => decide (p.1 ≤ t)) = if p.1 ≤ t then (l.take i).filter (fun p => decide (p.1 ≤ t)) ++ [p] else (l.take i).filter (fun p => decide (p.1 ≤ t)) := by
  rw [take_more h, List.filter_append]
  by_cases c : p.1 ≤ t
  · rw [if_pos c, List.filter_cons_of_pos (by simpa using c)]
    rfl
  · rw [if_neg c, List.filter_cons_of_neg (by simpa using c)]
    simp
def spSavesUntil (K : PySem.W.Frag) : Sp := fun vs H Q _ => ∃ (a b : Addr) (c d t : Int) (ns : List Int), vs = [.ref a, .ref b, .int t] ∧ SqT K H a [.int c, .int d] ∧ SqT K H b (ns.map V.int) ∧ RuleOk c d ∧ LogOk ns ∧ TimeOk t ∧
  ∀ H', Same H H' → Q (.int ((upTo c d ns t).length : Int)) H'
theorem ok_saves_until (B : Blt mg) (D : DefT K mg "saves_until" s_saves_until ["rule", "log", "time"]) (c_check_rule : C8.Cal P w K mg base 3 "check_rule" (spCheckRule K) []) (c_check_log : C8.Cal P w K mg base 3 "check_log" (spCheckLog K) [])
    (c_check_time : C8.Cal P w K mg base 2 "check_time" spCheckTime []) (c_played : C8.Cal P w K mg base 1 "played" (spPlayed K) []) : C8.Cal P w K mg base 4 "saves_until" (spSavesUntil K) [] := by
  refine cal_of D sc_saves_until (fun vs H Q E h => ?_) (fun f cdv A outer s H vs Q E hr h => ?_)
  · obtain ⟨a, b, c, d, t, ns, rfl, _⟩ := h
    rfl
  · obtain ⟨a, b, c, d, t, ns, rfl, hA, hB, r, l, ht, q⟩ := h
    refine ⟨_, pss_cons (ps_expr (C8.pe_c c_check_rule hr (by decide) (by rfl) (pa_cons (pv 0) pa_nil)))
      (pss_cons (ps_expr (C8.pe_c c_check_log hr (by decide) (by rfl) (pa_cons (pv 1) pa_nil)))
      (pss_cons (ps_expr (C8.pe_c c_check_time hr (by decide) (by rfl) (pa_cons (pv 2) pa_nil)))
      (pss_one (ps_ret (pe_callB call_len_seq (by rfl) B.m_len (by decide +kernel) (pa_cons (pe_lc (own := [("moment", 3), ("reason", 4)]) (g := gTup K 2 (gCons (gName 3) (gCons (gName 4) gNil))) rfl sc_saves_until.nd (pi_list (pe_ix ix_tup (C8.pe_c c_played hr (by decide) (by rfl) (pa_cons (pv 0) (pa_cons (pv 1) pa_nil))) pe_int (fun _ _ => rfl))) (blkOk_by (N := N_saves_until) (sc := defScope s_saves_until) (by decide +kernel)) (fun _ _ _ _ _ => pg_tup (by rfl) (pgs_cons (pg_name (i := 3) sc_saves_until.nd rfl (Or.inl rfl)) (pgs_cons (pg_name (i := 4) sc_saves_until.nd rfl (Or.inl rfl)) pgs_nil))) (fun _ _ _ _ _ => pts_one (pt_cmpR op_le (pv 3) (pv 2) (nomark _))) (fun _ _ _ _ _ => pv 3)) pa_nil)))))), ?_⟩
    refine ⟨_, rfl, a, c, d, rfl, hA, r, _, rfl, b, ns, rfl, hB, l, fun H1 s1 => ⟨_, rfl, t, rfl, ht, ?_⟩⟩
    refine ⟨_, rfl, _, rfl, a, b, c, d, ns, rfl, same_seqT s1 hA, same_seqT s1 hB, r.c1, l.len, fun H2 p hp Y => ?_⟩
    obtain ⟨R, M, xs, y1, y2, y3, y4, y5, y6, y7⟩ := Y.ex
    have s2 := s1.trans Y.same
    refine ⟨_, _, _, _, rfl, rfl, sqT_of y1, atI_nat (j := 1) rfl, M, rfl, ⟨_, sqL_of y6⟩, fun L hL => ?_⟩
    have lx := pairs_len y7
    have lf := fin_len (c := c) (d := d) (ns := ns)
    have l60 := l.len
    have nLM : M ≠ L := ne_of_none y6 hL
    refine lc_list (K := K) (a := M) (xs := xs) (fun i H' => H' = upd H2 L (.lst ((((fin c d ns).take i).filter fun p => decide (p.1 ≤ t)).map fun p => V.int p.1))) rfl (fun i H' _ e => ?_) ?_ ?_
    · subst e
      exact sqL_of (by rw [upd_ne nLM]; exact y6)
    · rintro i x H' hx rfl
      obtain ⟨p, hp1, T, rfl, hT⟩ := paired_get y7 hx
      refine ⟨T, _, rfl, same_seqT (same_new hL) hT, rfl, _, _, rfl, _, _, rfl, rfl, rfl, _, rfl, _, rfl, _, _, rfl, rfl, _, rfl, ?_⟩
      have em := upTo_more (t := t) hp1
      refine ite2 (fun c1 => ?_) (fun c1 => ?_)
      · rw [if_pos (of_decide_eq_true c1)] at em
        refine ⟨_, rfl, _, upd_same, ?_, ?_⟩
        · rw [List.length_map]
          refine small1000 (Nat.le_trans (List.length_filter_le _ _) ?_)
          rw [List.length_take]
          omega
        · rw [upd_upd, em, List.map_append]
          rfl
      · rw [if_neg fun z => c1 (decide_eq_true z)] at em
        rw [em]
    · rintro H' rfl
      rw [lx, List.take_length]
      refine ⟨L, _, rfl, .inl (sqL_of upd_same), ?_⟩
      rw [List.length_map]
      exact q _ (s2.trans (same_new hL))
end
end Au
set_option maxHeartbeats 4000000
/-! The law's draws: a bag of three numbers; equality by kinds. -/
namespace Au
open PySem PySem.Spec PyProof.Rows L2
/-! ### small -/
theorem iteP {c A B : Prop} [Decidable c] (hc : c) (h : A) : if c then A else B := by
  rw [if_pos hc]
  exact h
theorem iteQ {c A B : Prop} [Decidable c] (hc : ¬ c) (h : B) : if c then A else B := by
  rw [if_neg hc]
  exact h
/-- all but the object at g stand -/
def Keep (g : Addr) (H H' : Hp) : Prop := ∀ b o, b ≠ g → H b = some o → H' b = some o
theorem Keep.refl {g : Addr} (H : Hp) : Keep g H H := fun _ _ _ h => h
theorem Keep.trans {g : Addr} {H H1 H2 : Hp} (a : Keep g H H1) (b : Keep g H1 H2) : Keep g H H2 := fun c o n h => b c o n (a c o n h)
theorem Keep.of_same {g : Addr} {H H' : Hp} (s : Same H H') : Keep g H H' := fun b o _ h => s b o h
theorem Keep.new {g p : Addr} {H : Hp} {o : HO} (h : H p = none) : Keep g H (upd H p o) := .of_same (same_new h)
theorem Keep.tups {g : Addr} {H H' : Hp} {xs : List V} (k : Keep g H H') (h : H g = some (.lst xs)) : Tups H H' where
  tup := fun b x e => k b _ (ne_of e h (by intro z; cases z)) e
  frz := fun b o u e => k b _ (ne_of e h (by intro z; cases z)) e
/-- three numbers at g: what is left of a great number, a number, how often was drawn (at most n times) -/
def Bag (H : Hp) (g : Addr) (n : Int) : Prop := ∃ x y z : Int, H g = some (.lst [.int x, .int y, .int z]) ∧ (0 ≤ y ∧ y < 2305843009213693951) ∧ 0 ≤ z ∧ z ≤ n
theorem Bag.more {H : Hp} {g : Addr} {n m : Int} (b : Bag H g n) (h : n ≤ m) : Bag H g m := by
  obtain ⟨x, y, z, h1, h2, h3, h4⟩ := b
  exact ⟨x, y, z, h1, h2, h3, by omega⟩
theorem Bag.same {H H' : Hp} {g : Addr} {n : Int} (b : Bag H g n) (s : Same H H') : Bag H' g n := by
  obtain ⟨x, y, z, h1, h2⟩ := b
  exact ⟨x, y, z, s _ _ h1, h2⟩
theorem Bag.lst {H : Hp} {g : Addr} {n : Int} (b : Bag H g n) : ∃ xs, H g = some (.lst xs) := by
  obtain ⟨x, y, z, h1, h2⟩ := b
  exact ⟨_, h1⟩
theorem Bag.keep {H H' : Hp} {g b : Addr} {n : Int} (k : Keep b H H') (h : Bag H g n) (ne : g ≠ b) : Bag H' g n := by
  obtain ⟨x, y, z, h1, h2⟩ := h
  exact ⟨x, y, z, k _ _ ne h1, h2⟩
theorem small64p {x : Int} (h0 : 0 ≤ x) (h : x < 2305843009213693951) : x.natAbs < 2 ^ 64 := by omega

section
variable {P : Program} {w : World} {K : PySem.W.Frag} {mg : Str → Option Value} {base : Heap}
/-! ### a draw -/
def spTake : Sp := fun vs H Q _ => ∃ (g : Addr) (m n : Int), vs = [.ref g, .int m] ∧ Bag H g n ∧ n ≤ 1000000000 ∧ 1 ≤ m ∧ m ≤ 1000000000 ∧
  ∀ H' r, 0 ≤ r → r < m → Bag H' g (n + 1) → Keep g H H' → Q (.int r) H'
theorem keep_upd {g : Addr} {H : Hp} {o : HO} : Keep g H (upd H g o) := fun b u ne e => by
  rw [upd_ne ne]
  exact e
theorem ok_take (B : Blt mg) (D : DefT K mg "_law_take" s_law_take ["_law_bag", "_law_many_here"]) : C8.Cal P w K mg base 1 "_law_take" spTake [] := by
  refine cal_of D sc_law_take (fun vs H Q E h => ?_) (fun f cdv A outer s H vs Q E hr h => ?_)
  · obtain ⟨g, m, n, rfl, _⟩ := h
    rfl
  · obtain ⟨g, m, n, rfl, ⟨x, y, z, hg, hy, hz0, hz⟩, hn, hm1, hm2, q⟩ := h
    refine ⟨_, pss_cons (ps_if (pt_cmpR op_gt (pe_ix ix_list (pv 0) pe_int (fun _ _ => rfl)) pe_int (nomark _)) (pss_cons (ps_set (i := 2) sc_law_take.nd rfl (Or.inl rfl) (pe_op op_mod (pe_ix ix_list (pv 0) pe_int (fun _ _ => rfl)) (pv 1)))
      (pss_cons (ps_asg (pe_op op_fdivN (pe_ix ix_list (pv 0) pe_int (fun _ _ => rfl)) (pv 1)) (pg_sub (pv 0) pe_int set_list))
      (pss_one (ps_ret (pv 2))))) (pss_nil))
      (pss_cons (ps_asg (pe_op op_add (pe_ix ix_list (pv 0) pe_int (fun _ _ => rfl)) pe_int) (pg_sub (pv 0) pe_int set_list))
      (pss_cons (ps_set (i := 3) sc_law_take.nd rfl (Or.inl rfl) pe_int)
      (pss_cons (ps_set (i := 4) sc_law_take.nd rfl (Or.inl rfl) (pe_op op_mod (pe_op op_add (pe_ix ix_list (pv 0) pe_int (fun _ _ => rfl)) (pe_op op_mul pe_int (pe_ix ix_list (pv 0) pe_int (fun _ _ => rfl)))) (pv 3)))
      (pss_cons (ps_set (i := 4) sc_law_take.nd rfl (Or.inl rfl) (pe_op op_mod (pe_op op_add (pe_op op_add (pe_op op_mul (pv 4) (pv 4)) (pe_op op_mul pe_int (pe_op op_pow (pe_ix ix_list (pv 0) pe_int (fun _ _ => rfl)) pe_int))) pe_int) (pv 3)))
      (pss_one (ps_ret (pe_op op_mod (pe_op op_fdiv (pe_op op_mod (pe_op op_pow (pv 4) pe_int) (pv 3)) pe_int) (pv 1)))))))), ?_⟩
    have m30 : m < 1073741824 := by omega
    refine ⟨_, rfl, _, _, _, _, rfl, rfl, sqL_of hg, atI_nat (j := 0) rfl, _, _, rfl, rfl, _, rfl, ite2 (fun c => ?_) (fun c => ?_)⟩
    · -- found = bag[0] % many; bag[0] = bag[0] // many
      refine ⟨_, rfl, _, _, _, _, rfl, rfl, sqL_of hg, atI_nat (j := 0) rfl, _, rfl, _, _, rfl, rfl, (by show 0 < m; omega), ?_⟩
      refine ⟨_, rfl, _, _, _, _, rfl, rfl, sqL_of hg, atI_nat (j := 0) rfl, _, rfl, _, _, rfl, rfl, ⟨by omega, by omega⟩, ?_⟩
      refine ⟨_, rfl, g, _, 0, 0, rfl, rfl, hg, rfl, ?_⟩
      refine ⟨_, rfl, ?_⟩
      exact q _ _ (Int.emod_nonneg _ (by omega)) (Int.emod_lt_of_pos _ (by omega)) ⟨x.fdiv m, y, z, upd_same, hy, hz0, by omega⟩ keep_upd
    · -- bag[2] = bag[2] + 1
      refine ⟨_, rfl, _, _, _, _, rfl, rfl, sqL_of hg, atI_nat (j := 2) rfl, _, _, rfl, rfl, ?_⟩
      refine ⟨_, rfl, g, _, 2, 2, rfl, rfl, hg, rfl, ?_⟩
      have hg1 : (upd H g (.lst [.int x, .int y, .int (z + 1)])) g = some (.lst [.int x, .int y, .int (z + 1)]) := upd_same
      have bg : Bag (upd H g (.lst [.int x, .int y, .int (z + 1)])) g (n + 1) := ⟨x, y, z + 1, hg1, hy, by omega, by omega⟩
      have kp : Keep g H (upd H g (.lst [.int x, .int y, .int (z + 1)])) := keep_upd
      refine ⟨_, rfl, _, _, _, _, rfl, rfl, sqL_of hg1, atI_nat (j := 1) rfl, _, rfl, _, _, _, _, rfl, rfl, sqL_of hg1, atI_nat (j := 2) rfl, _, _, rfl, rfl, .inl ⟨by decide, by decide⟩, _, _, rfl, rfl, _, rfl, _, _, rfl, rfl, (by show (0 : Int) < 2305843009213693951; decide), ?_⟩
      refine ⟨_, rfl, _, rfl, _, _, rfl, rfl, .inl ⟨by omega, by omega⟩, _, rfl, _, _, _, _, rfl, rfl, sqL_of hg1, atI_nat (j := 2) rfl, _, _, rfl, rfl, ⟨by decide, by decide, by omega⟩, _, _, rfl, rfl, .inl ⟨by decide, by decide⟩, _, _, rfl, rfl, _, _, rfl, rfl, _, rfl, _, _, rfl, rfl, (by show (0 : Int) < 2305843009213693951; decide), ?_⟩
      refine ⟨_, rfl, _, _, rfl, rfl, ⟨by decide, by decide, small64p (Int.emod_nonneg _ (by decide)) (Int.emod_lt_of_pos _ (by decide))⟩, _, rfl, _, _, rfl, rfl, (by show (0 : Int) < 2305843009213693951; decide), _, _, rfl, rfl, ⟨by decide, by decide⟩, _, rfl, _, _, rfl, rfl, (by show 0 < m; omega), ?_⟩
      exact q _ _ (Int.emod_nonneg _ (by omega)) (Int.emod_lt_of_pos _ (by omega)) bg kp
/-! ### a bag made; the bags of a script -/
def spWell : Sp := fun vs H Q _ => ∃ (c t n : Int), vs = [.int c, .int t] ∧ 0 ≤ t ∧ t ≤ n ∧ ∀ H' p, H p = none → Same H H' → Bag H' p n → Q (.ref p) H'
theorem ok_well (B : Blt mg) (D : DefT K mg "_law_well" s_law_well ["_law_cell", "_law_turn"]) : C8.Cal P w K mg base 1 "_law_well" spWell [] := by
  refine cal_of D sc_law_well (fun vs H Q E h => ?_) (fun f cdv A outer s H vs Q E hr h => ?_)
  · obtain ⟨c, t, n, rfl, _⟩ := h
    rfl
  · obtain ⟨c, t, n, rfl, h0, h1, q⟩ := h
    refine ⟨_, pss_cons (ps_if (pt_cmpR op_ge (pv 0) (pe_op op_pow pe_int pe_int) (nomark _)) (pss_one (ps_ret (pe_lst (pa_cons (pe_op op_sub (pv 0) (pe_op op_pow pe_int pe_int)) (pa_cons (pe_op op_mod (pv 0) pe_int) (pa_cons (pv 1) pa_nil)))))) (pss_nil))
      (pss_one (ps_ret (pe_lst (pa_cons pe_int (pa_cons (pe_op op_mod (pv 0) pe_int) (pa_cons (pv 1) pa_nil)))))), ?_⟩
    refine ⟨_, rfl, _, _, rfl, rfl, ⟨by decide, by decide, by decide⟩, _, _, rfl, rfl, _, rfl, ite2 (fun _ => ?_) (fun _ => ?_)⟩
    · refine ⟨_, rfl, _, _, rfl, rfl, ⟨by decide, by decide, by decide⟩, _, _, rfl, rfl, _, rfl, _, _, rfl, rfl, (by show (0 : Int) < 2305843009213693951; decide), _, rfl, (by show 3 ≤ sizeLine; decide), fun p hp => ?_⟩
      exact q _ p hp (same_new hp) ⟨_, _, _, upd_same, ⟨Int.emod_nonneg _ (by decide), Int.emod_lt_of_pos _ (by decide)⟩, h0, h1⟩
    · refine ⟨_, rfl, _, _, rfl, rfl, (by show (0 : Int) < 2305843009213693951; decide), _, rfl, (by show 3 ≤ sizeLine; decide), fun p hp => ?_⟩
      exact q _ p hp (same_new hp) ⟨_, _, _, upd_same, ⟨Int.emod_nonneg _ (by decide), Int.emod_lt_of_pos _ (by decide)⟩, h0, h1⟩
/-- the bags at gs, apart from each other, new -/
structure Bags (H H' : Hp) (p : Addr) (gs : List Addr) (n : Int) : Prop where
  same : Same H H'
  free : H p = none
  lst : H' p = some (.lst (gs.map V.ref))
  nd : gs.Nodup
  np : p ∉ gs
  new : ∀ g ∈ gs, H g = none
  bag : ∀ g ∈ gs, Bag H' g n
def spBags (K : PySem.W.Frag) : Sp := fun vs H Q _ => ∃ (a : Addr) (ns : List Int) (m : Nat), vs = [.ref a, .int (m : Int)] ∧ SqL K H a (ns.map V.int) ∧ m ≤ 20 ∧ ns.length ≤ 63 ∧
  ∀ H' p gs, Bags H H' p gs 20000 → Q (.ref p) H'
theorem cut_to (xs : List V) (m : Nat) : (cutV xs none (some (m : Int))).length ≤ m := by
  have e : cutV xs none (some (m : Int)) = (xs.drop 0).take (min m xs.length - 0) := by
    unfold cutV
    rw [show HT.sIx xs.length xs.length (some (m : Int)) = min m xs.length from HT.sIx_nat xs.length xs.length m, HT.sIx_none]
  rw [e, List.length_take]
  omega
theorem cut_sub (xs : List V) (m : Nat) : ∀ x ∈ cutV xs none (some (m : Int)), x ∈ xs := by
  intro x hx
  unfold cutV at hx
  exact List.mem_of_mem_drop (List.mem_of_mem_take hx)
theorem nodup_snoc {α : Type} {l : List α} {x : α} (h : l.Nodup) (n : x ∉ l) : (l ++ [x]).Nodup := by
  rw [List.nodup_append]
  refine ⟨h, List.nodup_cons.mpr ⟨List.not_mem_nil, List.nodup_nil⟩, fun a ha b hb e => ?_⟩
  rw [List.mem_singleton] at hb
  subst hb
  exact n (e ▸ ha)
theorem ok_bags (B : Blt mg) (D : DefT K mg "_law_bags" s_law_bags ["_law_script", "_law_most"]) (c_law_well : C8.Cal P w K mg base 1 "_law_well" spWell []) : C8.Cal P w K mg base 2 "_law_bags" (spBags K) [] := by
  refine cal_of D sc_law_bags (fun vs H Q E h => ?_) (fun f cdv A outer s H vs Q E hr h => ?_)
  · obtain ⟨a, ns, m, rfl, _⟩ := h
    rfl
  · obtain ⟨a, ns, m, rfl, hS, hm, hlen, q⟩ := h
    refine ⟨_, pss_one (ps_ret (pe_lc (own := [("_law_k", 2), ("_law_cell", 3)]) (g := gTup K 2 (gCons (gName 2) (gCons (gName 3) gNil))) rfl sc_law_bags.nd (pi_enum (by rfl) B.m_enumerate (pa_cons (pe_op op_cat (pe_slice sl_list (pv 0) po_none (po_some (pv 1))) (pe_lst (pa_cons pe_int pa_nil))) pa_nil)) (blkOk_by (N := N_law_bags) (sc := defScope s_law_bags) (by decide +kernel)) (fun _ _ _ _ _ => pg_tup (by rfl) (pgs_cons (pg_name (i := 2) sc_law_bags.nd rfl (Or.inl rfl)) (pgs_cons (pg_name (i := 3) sc_law_bags.nd rfl (Or.inl rfl)) pgs_nil))) (fun _ _ _ _ _ => pts_nil) (fun _ _ _ _ _ => C8.pe_c c_law_well hr (by decide) (by rfl) (pa_cons (pv 3) (pa_cons (pe_op op_mul pe_int (pv 2)) pa_nil))))), ?_⟩
    refine ⟨_, rfl, _, rfl, (m : Int), rfl, a, _, rfl, hS, fun C hC => ?_⟩
    refine ⟨(by show 1 ≤ sizeLine; decide), fun Z hZ => ?_⟩
    have nCZ : C ≠ Z := fun e => by
      rw [← e, upd_same] at hZ
      cases hZ
    have lc := cut_to (ns.map V.int) m
    have sc := cut_sub (ns.map V.int) m
    generalize cutV (ns.map V.int) none (some (m : Int)) = cs at hZ lc sc
    refine ⟨C, Z, cs, _, rfl, rfl, by rw [upd_ne nCZ, upd_same], upd_same, by
      show cs.length + 1 ≤ sizeLine
      exact Nat.le_trans (show cs.length + 1 ≤ 1000 by omega) (Nat.le_of_lt (small1000 (Nat.le_refl _))), fun G hG => ?_⟩
    have s0 : Same H (upd (upd (upd H C (.lst cs)) Z (.lst [.int 0])) G (.lst (cs ++ [.int 0]))) := ((same_new hC).trans (same_new hZ)).trans (same_new hG)
    have hGl : (upd (upd (upd H C (.lst cs)) Z (.lst [.int 0])) G (.lst (cs ++ [.int 0]))) G = some (.lst (cs ++ [.int 0])) := upd_same
    generalize upd (upd (upd H C (.lst cs)) Z (.lst [.int 0])) G (.lst (cs ++ [.int 0])) = H1 at s0 hGl
    have hG0 : H G = none := ((same_new hC).trans (same_new hZ)).free hG
    have allI : ∀ x ∈ cs ++ [V.int 0], ∃ i : Int, x = V.int i := fun x hx => by
      rcases List.mem_append.mp hx with h | h
      · obtain ⟨i, _, e⟩ := List.mem_map.mp (sc x h)
        exact ⟨i, e.symm⟩
      · exact ⟨0, by simpa using h⟩
    refine ⟨G, _, rfl, sqL_of hGl, fun L hL => ?_⟩
    have nGL : G ≠ L := ne_of_none hGl hL
    refine lc_it (walk_enum (K := K) (a := G) (xs := cs ++ [V.int 0])) (fun i H' => ∃ gs : List Addr, Same H1 H' ∧ H' L = some (.lst (gs.map V.ref)) ∧ gs.Nodup ∧ L ∉ gs ∧ (∀ g ∈ gs, H1 g = none) ∧ (∀ g ∈ gs, Bag H' g 20000) ∧ gs.length = i)
      ⟨[], same_new hL, upd_same, List.nodup_nil, List.not_mem_nil, fun _ h => absurd h List.not_mem_nil, fun _ h => absurd h List.not_mem_nil, rfl⟩
      (fun i H' _ ⟨_, s, _⟩ => sqL_of (s _ _ hGl)) ?_ ?_
    · rintro i v H' H'' hi ⟨gs, s1, h1, h2, h3, h4, h5, h6⟩ ⟨T, x, y, rfl, hT, rfl, hx, hy⟩
      have ex : x = .int (i : Int) := (Option.some.inj hx).symm
      subst ex
      obtain ⟨z, rfl⟩ := allI y (List.mem_of_getElem? hy)
      have il : i ≤ 20 := by
        rw [List.length_append] at hi
        have : i < cs.length + 1 := hi
        omega
      refine ⟨T, _, rfl, sqT_of upd_same, rfl, _, _, rfl, _, _, rfl, rfl, rfl, _, rfl, _, rfl, _, _, rfl, rfl, .inl ⟨by decide, by decide⟩, z, 977 * (i : Int), 20000, rfl, by omega, by omega, fun H3 p hp s3 bg => ?_⟩
      have nLT : L ≠ T := ne_of_none h1 hT
      have hL3 : H3 L = some (.lst (gs.map V.ref)) := s3 _ _ (by rw [upd_ne nLT]; exact h1)
      have sT : Same H' H3 := (same_new hT).trans s3
      have hp1 : H' p = none := (same_new hT).free hp
      have npL : p ≠ L := fun e => by
        rw [e, h1] at hp1
        cases hp1
      have npg : p ∉ gs := fun hm => by
        obtain ⟨xs, e⟩ := (h5 p hm).lst
        rw [e] at hp1
        cases hp1
      refine ⟨_, hL3, ?_, gs ++ [p], ?_, ?_, nodup_snoc h2 npg, ?_, ?_, ?_, ?_⟩
      · rw [List.length_map, h6]
        exact small1000 (by omega)
      · exact same_mut (s1.trans sT) hL
      · rw [upd_same, List.map_append]
        rfl
      · intro hm
        rcases List.mem_append.mp hm with h | h
        · exact h3 h
        · exact npL (List.mem_singleton.mp h).symm
      · intro g hg
        rcases List.mem_append.mp hg with h | h
        · exact h4 g h
        · rw [List.mem_singleton.mp h]
          exact s1.free hp1
      · intro g hg
        have kL : Keep L H3 (upd H3 L (.lst (gs.map V.ref ++ [V.ref p]))) := keep_upd
        rcases List.mem_append.mp hg with h | h
        · exact Bag.keep kL ((h5 g h).same sT) fun e => h3 (e ▸ h)
        · rw [List.mem_singleton.mp h]
          exact Bag.keep kL bg npL
      · rw [List.length_append, h6]
        rfl
    · rintro H' ⟨gs, s1, h1, h2, h3, h4, h5, h6⟩
      exact q H' L gs ⟨s0.trans s1, s0.free hL, h1, h2, h3, fun g hg => s0.free (h4 g hg), h5⟩
/-! ### a rule -/
theorem atI3 {x y z r : Int} (h0 : 0 ≤ r) (h1 : r < 3) : atI [V.int x, V.int y, V.int z] r = some (.int (if r = 0 then x else if r = 1 then y else z)) := by
  have : r = 0 ∨ r = 1 ∨ r = 2 := by omega
  rcases this with e | e | e
  · subst e
    rfl
  · subst e
    rfl
  · subst e
    rfl
theorem atI4 {x y z w r : Int} (h0 : 0 ≤ r) (h1 : r < 4) : atI [V.int x, V.int y, V.int z, V.int w] r = some (.int (if r = 0 then x else if r = 1 then y else if r = 2 then z else w)) := by
  have : r = 0 ∨ r = 1 ∨ r = 2 ∨ r = 3 := by omega
  rcases this with e | e | e | e
  · subst e
    rfl
  · subst e
    rfl
  · subst e
    rfl
  · subst e
    rfl
def spRule (K : PySem.W.Frag) : Sp := fun vs H Q _ => ∃ (g : Addr) (n : Int), vs = [.ref g] ∧ Bag H g n ∧ n ≤ 100000000 ∧
  ∀ H' p c d, 1 ≤ c ∧ c ≤ 20 ∧ 1 ≤ d ∧ d ≤ 1000 → Bag H' g (n + 4) → Keep g H H' → H p = none → H' p = some (.tup [.int c, .int d]) → Q (.ref p) H'
theorem ok_rule (B : Blt mg) (D : DefT K mg "_law_rule" s_law_rule ["_law_bag"]) (c_law_take : C8.Cal P w K mg base 1 "_law_take" spTake []) : C8.Cal P w K mg base 2 "_law_rule" (spRule K) [] := by
  refine cal_of D sc_law_rule (fun vs H Q E h => ?_) (fun f cdv A outer s H vs Q E hr h => ?_)
  · obtain ⟨g, n, rfl, _⟩ := h
    rfl
  · obtain ⟨g, n, rfl, b0, hn, q⟩ := h
    refine ⟨_, pss_cons (ps_set (i := 1) sc_law_rule.nd rfl (Or.inl rfl) (pe_op op_add pe_int (C8.pe_c c_law_take hr (by decide) (by rfl) (pa_cons (pv 0) (pa_cons (pe_ix ix_list (pe_lst (pa_cons pe_int (pa_cons pe_int (pa_cons pe_int pa_nil)))) (C8.pe_c c_law_take hr (by decide) (by rfl) (pa_cons (pv 0) (pa_cons pe_int pa_nil))) (fun _ _ => rfl)) pa_nil)))))
      (pss_one (ps_ret (pe_tup (pa_cons (pv 1) (pa_cons (pe_op op_add pe_int (C8.pe_c c_law_take hr (by decide) (by rfl) (pa_cons (pv 0) (pa_cons (pe_ix ix_list (pe_lst (pa_cons pe_int (pa_cons pe_int (pa_cons pe_int pa_nil)))) (C8.pe_c c_law_take hr (by decide) (by rfl) (pa_cons (pv 0) (pa_cons pe_int pa_nil))) (fun _ _ => rfl)) pa_nil)))) pa_nil))))), ?_⟩
    refine ⟨_, rfl, (by show 3 ≤ sizeLine; decide), fun L hL => ?_⟩
    have nL : L ≠ g := fun e => by
      obtain ⟨xs, e2⟩ := b0.lst
      rw [e, e2] at hL
      cases hL
    have hL1 : (upd H L (.lst [.int 3, .int 6, .int 20])) L = some (.lst [.int 3, .int 6, .int 20]) := upd_same
    have b1 : Bag (upd H L (.lst [.int 3, .int 6, .int 20])) g n := b0.same (same_new hL)
    have k1 : Keep g H (upd H L (.lst [.int 3, .int 6, .int 20])) := .new hL
    generalize upd H L (.lst [.int 3, .int 6, .int 20]) = H1 at hL1 b1 k1
    refine ⟨_, rfl, g, 3, n, rfl, b1, by omega, by omega, by omega, fun H2 r r0 r3 b2 k2 => ⟨_, _, _, _, rfl, rfl, sqL_of (k2 _ _ nL hL1), atI3 r0 r3, ?_⟩⟩
    refine ⟨g, _, n + 1, rfl, b2, by omega, (by split <;> (try split) <;> omega), (by split <;> (try split) <;> omega), fun H3 c c0 c1 b3 k3 => ⟨_, _, rfl, rfl, ?_⟩⟩
    have hc : c < 20 := by
      split at c1
      · omega
      · split at c1 <;> omega
    refine ⟨_, rfl, _, rfl, (by show 3 ≤ sizeLine; decide), fun M hM => ?_⟩
    have nM : M ≠ g := fun e => by
      obtain ⟨xs, e2⟩ := b3.lst
      rw [e, e2] at hM
      cases hM
    have hM1 : (upd H3 M (.lst [.int 4, .int 30, .int 1000])) M = some (.lst [.int 4, .int 30, .int 1000]) := upd_same
    have b4 : Bag (upd H3 M (.lst [.int 4, .int 30, .int 1000])) g (n + 1 + 1) := b3.same (same_new hM)
    have k4 : Keep g H (upd H3 M (.lst [.int 4, .int 30, .int 1000])) := ((k1.trans k2).trans k3).trans (.new hM)
    generalize upd H3 M (.lst [.int 4, .int 30, .int 1000]) = H4 at hM1 b4 k4
    refine ⟨_, rfl, g, 3, n + 1 + 1, rfl, b4, by omega, by omega, by omega, fun H5 r' r0' r3' b5 k5 => ⟨_, _, _, _, rfl, rfl, sqL_of (k5 _ _ nM hM1), atI3 r0' r3', ?_⟩⟩
    refine ⟨g, _, n + 1 + 1 + 1, rfl, b5, by omega, (by split <;> (try split) <;> omega), (by split <;> (try split) <;> omega), fun H6 d d0 d1 b6 k6 => ⟨_, _, rfl, rfl, ?_⟩⟩
    have hd : d < 1000 := by
      split at d1
      · omega
      · split at d1 <;> omega
    have k7 : Keep g H H6 := (k4.trans k5).trans k6
    refine ⟨(by show 2 ≤ sizeLine; decide), fun p hp => ?_⟩
    have hp0 : H p = none := by
      cases e : H p with
      | none => rfl
      | some o =>
        have npg : p ≠ g := fun z => by
          obtain ⟨xs, e2⟩ := b6.lst
          rw [z, e2] at hp
          cases hp
        rw [k7 _ _ npg e] at hp
        cases hp
    exact q _ p (1 + c) (1 + d) ⟨by omega, by omega, by omega, by omega⟩ ((b6.same (same_new hp)).more (by omega)) (k7.trans (.new hp)) hp0 upd_same
end
end Au
set_option maxHeartbeats 4000000
/-! The law's logs; its comparison. -/
namespace Au
open PySem PySem.Spec PyProof.Rows L2
theorem keep_free {g p : Addr} {H H' : Hp} {n : Int} (k : Keep g H H') (b : Bag H' g n) (h : H' p = none) : H p = none := by
  cases e : H p with
  | none => rfl
  | some o =>
    have npg : p ≠ g := fun z => by
      obtain ⟨xs, e2⟩ := b.lst
      rw [z, e2] at h
      cases h
    rw [k _ _ npg e] at h
    cases h
theorem bag_ne {g p : Addr} {H : Hp} {n : Int} (b : Bag H g n) (h : H p = none) : p ≠ g := fun e => by
  obtain ⟨xs, e2⟩ := b.lst
  rw [e, e2] at h
  cases h
theorem Keep.sqT {K : PySem.W.Frag} {g a : Addr} {H H' : Hp} {n : Int} {xs : List V} (k : Keep g H H') (b : Bag H g n) (h : SqT K H a xs) : SqT K H' a xs := by
  obtain ⟨ys, e⟩ := b.lst
  exact (k.tups e).sq h
theorem getD_l {l r : List Int} {j : Nat} (h : j < l.length) : (l ++ r).getD j 0 = l.getD j 0 := by
  rw [List.getD_eq_getElem?_getD, List.getElem?_append_left h, ← List.getD_eq_getElem?_getD]
theorem getD_snoc {l : List Int} {x : Int} : (l ++ [x]).getD l.length 0 = x := by
  rw [List.getD_eq_getElem?_getD, List.getElem?_append_right (Nat.le_refl _), Nat.sub_self]
  rfl
/-! ### a log drawn: its edits so far, the time -/
structure LG (l : List Int) (t : Int) (i : Nat) : Prop where
  len : l.length = i
  rng : ∀ x ∈ l, 0 ≤ x ∧ x ≤ t
  up : ∀ j, j + 1 < l.length → l.getD j 0 ≤ l.getD (j + 1) 0
  t0 : 0 ≤ t
  t1 : t ≤ 8 + 1003 * (i : Int)
theorem LG.step {l : List Int} {t e : Int} {i : Nat} (h : LG l t i) (e0 : 0 ≤ e) (e1 : e ≤ 1003) : LG (l ++ [t + e]) (t + e) (i + 1) where
  len := by
    rw [List.length_append, h.len]
    rfl
  rng := fun x hx => by
    have := h.t0
    rcases List.mem_append.mp hx with m | m
    · have := h.rng x m
      omega
    · have := List.mem_singleton.mp m
      omega
  up := fun j hj => by
    rw [List.length_append] at hj
    have hj : j + 1 < l.length + 1 := hj
    by_cases c : j + 1 < l.length
    · have u := h.up j c
      rw [getD_l (by omega), getD_l c]
      exact u
    · have ej : j + 1 = l.length := by omega
      rw [getD_l (by omega), ej, getD_snoc]
      have m : l.getD j 0 ∈ l := List.mem_of_getElem? (at_getD (by omega))
      have := h.rng _ m
      omega
  t0 := by
    have := h.t0
    omega
  t1 := by
    have := h.t1
    omega
theorem LG.ok {l : List Int} {t : Int} {i : Nat} (h : LG l t i) (hi : i ≤ 60) : LogOk l where
  len := by rw [h.len]; exact hi
  rng := fun x hx => by
    have a := h.rng x hx
    have b := h.t1
    omega
  up := h.up
section
variable {P : Program} {w : World} {K : PySem.W.Frag} {mg : Str → Option Value} {base : Heap}
def spLog (K : PySem.W.Frag) : Sp := fun vs H Q _ => ∃ (g a : Addr) (m c d n : Int), vs = [.ref g, .int m, .ref a] ∧ Bag H g n ∧ SqT K H a [.int c, .int d] ∧ (1 ≤ d ∧ d ≤ 1000) ∧ n ≤ 100000000 ∧ 0 ≤ m ∧ m ≤ 60 ∧
  ∀ H' p ns, LogOk ns → (ns.length : Int) ≤ m → Bag H' g (n + 300) → Keep g H H' → SqT K H' p (ns.map V.int) → Q (.ref p) H'
theorem ok_log (B : Blt mg) (D : DefT K mg "_law_log" s_law_log ["_law_bag", "_law_most", "_law_rule_here"]) (c_law_take : C8.Cal P w K mg base 1 "_law_take" spTake []) : C8.Cal P w K mg base 2 "_law_log" (spLog K) [] := by
  refine cal_of D sc_law_log (fun vs H Q E h => ?_) (fun f cdv A outer s H vs Q E hr h => ?_)
  · obtain ⟨g, a, m, c, d, n, rfl, _⟩ := h
    rfl
  · obtain ⟨g, a, m, c, d, n, rfl, b0, hA, hd, hn, hm0, hm, q⟩ := h
    refine ⟨_, pss_cons (ps_par (i := 3) (j := 4) (by rfl) sc_law_log.nd rfl rfl (by decide) rfl rfl (pa_cons (pe_tup pa_nil) (pa_cons (C8.pe_c c_law_take hr (by decide) (by rfl) (pa_cons (pv 0) (pa_cons pe_int pa_nil))) pa_nil)) (by rfl))
      (pss_cons (ps_for PassesOwn.never rfl (pi_range1 (by rfl) B.m_range (pa_cons (C8.pe_c c_law_take hr (by decide) (by rfl) (pa_cons (pv 0) (pa_cons (pe_op op_add (pv 1) pe_int) pa_nil))) pa_nil)) (pg_name (i := 5) sc_law_log.nd rfl (Or.inl rfl))
        (pss_cons (ps_set (i := 6) sc_law_log.nd rfl (Or.inl rfl) (pe_callB (call_max2 rfl) (by rfl) B.m_max (by decide +kernel) (pa_cons pe_int (pa_cons (pe_op op_sub (pe_op op_add (pe_ix ix_tup (pv 2) pe_int (fun _ _ => rfl)) (C8.pe_c c_law_take hr (by decide) (by rfl) (pa_cons (pv 0) (pa_cons pe_int pa_nil)))) pe_int) pa_nil))))
      (pss_cons (ps_set (i := 4) sc_law_log.nd rfl (Or.inl rfl) (pe_op op_add (pv 4) (pe_ix ix_list (pe_lst (pa_cons pe_int (pa_cons (C8.pe_c c_law_take hr (by decide) (by rfl) (pa_cons (pv 0) (pa_cons pe_int pa_nil))) (pa_cons (pv 6) (pa_cons (C8.pe_c c_law_take hr (by decide) (by rfl) (pa_cons (pv 0) (pa_cons (pe_op op_add (pe_ix ix_tup (pv 2) pe_int (fun _ _ => rfl)) pe_int) pa_nil))) pa_nil))))) (C8.pe_c c_law_take hr (by decide) (by rfl) (pa_cons (pv 0) (pa_cons pe_int pa_nil))) (fun _ _ => rfl))))
      (pss_one (ps_set (i := 3) sc_law_log.nd rfl (Or.inl rfl) (pe_op op_catA (pv 3) (pe_tup (pa_cons (pv 4) pa_nil))))))))
      (pss_one (ps_ret (pv 3)))), ?_⟩
    refine ⟨Nat.zero_le _, fun F hF => ?_⟩
    have b1 : Bag (upd H F (.tup [])) g n := b0.same (same_new hF)
    have k1 : Keep g H (upd H F (.tup [])) := .new hF
    have f1 : SqT K (upd H F (.tup [])) F (([] : List Int).map V.int) := sqT_of upd_same
    generalize upd H F (.tup []) = H1 at b1 k1 f1
    refine ⟨_, rfl, g, 9, n, rfl, b1, by omega, by omega, by omega, fun H2 t t0 t9 b2 k2 => ⟨_, _, rfl, ?_⟩⟩
    have f2 := k2.sqT b1 f1
    refine ⟨_, rfl, _, rfl, _, _, rfl, rfl, g, m + 1, n + 1, rfl, b2, by omega, by omega, by omega, fun H3 r r0 r1 b3 k3 => ⟨r, rfl, by omega, by omega, ?_⟩⟩
    have f3 := k3.sqT b2 f2
    have hA3 : Keep g H H3 := (k1.trans k2).trans k3
    refine for_range (lo := 0) (n := r.toNat) (fun i σ H' => ∃ (F : Addr) (l : List Int) (t : Int) (y5 y6 : Option V), σ = [some (.ref g), some (.int m), some (.ref a), some (.ref F), some (.int t), y5, y6] ∧ Keep g H H' ∧ Bag H' g (n + 2 + 4 * (i : Int)) ∧
      SqT K H' F (l.map V.int) ∧ LG l t i) ⟨F, [], t, none, none, rfl, hA3, b3.more (by omega), f3, ⟨rfl, fun x h => absurd h List.not_mem_nil, fun j h => absurd h (Nat.not_lt_zero _), t0, by omega⟩⟩ ?_ ?_
    · rintro i σ H4 hi ⟨F, l, t, y5, y6, rfl, k4, b4, f4, lg⟩
      have hA4 := k4.sqT b0 hA
      have il : i < 61 := by omega
      refine ⟨_, rfl, _, _, _, _, rfl, rfl, hA4, atI_nat (j := 1) rfl, _, rfl, g, 5, _, rfl, b4, by omega, by omega, by omega, fun H5 u u0 u5 b5 k5 => ⟨_, _, rfl, rfl, _, _, rfl, rfl, _, _, rfl, ?_⟩⟩
      have hA5 := k5.sqT b4 hA4
      have f5 := k5.sqT b4 f4
      have near0 : 0 ≤ (if d + u - 2 > 0 then d + u - 2 else 0) ∧ (if d + u - 2 > 0 then d + u - 2 else 0) ≤ 1003 := by
        split <;> omega
      generalize (if d + u - 2 > 0 then d + u - 2 else 0) = near at near0
      refine ⟨_, rfl, _, rfl, g, 4, _, rfl, b5, by omega, by omega, by omega, fun H6 v1 v10 v11 b6 k6 => ⟨_, rfl, _, rfl, _, rfl, _, _, _, _, rfl, rfl, k6.sqT b5 hA5, atI_nat (j := 1) rfl, _, _, rfl, rfl, ?_⟩⟩
      refine ⟨g, d + 2, _, rfl, b6, by omega, by omega, by omega, fun H7 v2 v20 v21 b7 k7 => ⟨(by show 4 ≤ sizeLine; decide), fun L hL => ?_⟩⟩
      have f7 := k7.sqT b6 (k6.sqT b5 f5)
      have nL := bag_ne b7 hL
      have hL1 : (upd H7 L (.lst [.int 0, .int v1, .int near, .int v2])) L = some (.lst [.int 0, .int v1, .int near, .int v2]) := upd_same
      have b8 : Bag (upd H7 L (.lst [.int 0, .int v1, .int near, .int v2])) g _ := b7.same (same_new hL)
      have k8 : Keep g H (upd H7 L (.lst [.int 0, .int v1, .int near, .int v2])) := (((k4.trans k5).trans k6).trans k7).trans (.new hL)
      have f8 := same_seqT (same_new (o := .lst [.int 0, .int v1, .int near, .int v2]) hL) f7
      generalize upd H7 L (.lst [.int 0, .int v1, .int near, .int v2]) = H8 at hL1 b8 k8 f8
      refine ⟨_, rfl, g, 4, _, rfl, b8, by omega, by omega, by omega, fun H9 x x0 x4 b9 k9 => ⟨_, _, _, _, rfl, rfl, sqL_of (k9 _ _ nL hL1), atI4 x0 x4, _, _, rfl, rfl, ?_⟩⟩
      have e0 : 0 ≤ (if x = 0 then 0 else if x = 1 then v1 else if x = 2 then near else v2) ∧ (if x = 0 then 0 else if x = 1 then v1 else if x = 2 then near else v2) ≤ 1003 := by
        split
        · omega
        · split
          · omega
          · split <;> omega
      generalize (if x = 0 then 0 else if x = 1 then v1 else if x = 2 then near else v2) = e at e0
      have f9 := k9.sqT b8 f8
      have lg' := lg.step e0.1 e0.2
      refine ⟨_, rfl, _, rfl, (by show 1 ≤ sizeLine; decide), fun T hT => ?_⟩
      have bT : Bag (upd H9 T (.tup [.int (t + e)])) g _ := b9.same (same_new hT)
      have kT : Keep g H (upd H9 T (.tup [.int (t + e)])) := (k8.trans k9).trans (.new hT)
      have fT := same_seqT (same_new (o := .tup [.int (t + e)]) hT) f9
      have hTT : SqT K (upd H9 T (.tup [.int (t + e)])) T [.int (t + e)] := sqT_of upd_same
      generalize upd H9 T (.tup [.int (t + e)]) = HT at bT kT fT hTT
      refine ⟨F, T, _, _, rfl, rfl, fT, hTT, ?_, fun el => ?_, fun _ el => absurd el (List.cons_ne_nil _ _), fun _ _ p hp => ?_⟩
      · rw [List.length_map, lg.len]
        show i + 1 ≤ sizeLine
        exact Nat.le_of_lt (small1000 (by omega))
      · have el2 : l = [] := List.map_eq_nil_iff.mp el
        refine ⟨T, l ++ [t + e], t + e, _, _, rfl, kT, bT.more (by omega), ?_, lg'⟩
        rw [el2]
        exact hTT
      · refine ⟨p, l ++ [t + e], t + e, _, _, rfl, kT.trans (.new hp), (bT.same (same_new hp)).more (by omega), sqT_of ?_, lg'⟩
        rw [upd_same, List.map_append]
        rfl
    · rintro σ H4 ⟨F, l, t, y5, y6, rfl, k4, b4, f4, lg⟩
      refine ⟨_, rfl, q H4 F l (lg.ok (by omega)) (by rw [lg.len]; omega) (b4.more (by omega)) k4 f4⟩
/-! ### equality by kinds, of data that are alike -/
def leaf : PyData → Prop
  | .list _ => False
  | .tuple _ => False
  | _ => True
def okd : Nat → PyData → Prop
  | 0, _ => False
  | n + 1, .list ds => ds.length ≤ 5000 ∧ ∀ d ∈ ds, okd n d
  | n + 1, .tuple ds => ds.length ≤ 5000 ∧ ∀ d ∈ ds, okd n d
  | _ + 1, _ => True
def spSame (K : PySem.W.Frag) (n : Nat) : Sp := fun vs H Q _ => ∃ (x y : V) (d : PyData), vs = [x, y] ∧ Dp K H x d ∧ Dp K H y d ∧ okd n d ∧ ∀ H', Same H H' → Q (.bl true) H'
theorem kit3_no {K : PySem.W.Frag} {t : String} (h1 : kitB t "bool" = some false) (h2 : kitB t "list" = some false) (h3 : kitB t "tuple" = some false) : PySem.W.kitAny K (.type t) [.type "bool", .type "list", .type "tuple"] = some false :=
  kitAny_cons (kit_ty h1) (fun _ => kitAny_cons (kit_ty h2) (fun _ => kitAny_cons (kit_ty h3) (fun _ => kitAny_nil) (fun z => nomatch z)) (fun z => nomatch z)) (fun z => nomatch z)
theorem kit3_bool {K : PySem.W.Frag} : PySem.W.kitAny K (.type "bool") [.type "bool", .type "list", .type "tuple"] = some true :=
  kitAny_cons (kit_ty (by decide +kernel : kitB "bool" "bool" = some true)) (fun z => nomatch z) (fun _ => rfl)
theorem cls3 : Paired ClsV [.ty "bool", .ty "list", .ty "tuple"] [.type "bool", .type "list", .type "tuple"] := .cons (.ty _) (.cons (.ty _) (.cons (.ty _) .nil))
theorem vac_same (D : DefT K mg "_law_same" s_law_same ["_law_a", "_law_b"]) : C8.Cal P w K mg base 0 "_law_same" (spSame K 0) [] := by
  obtain ⟨f, fd, F, hm, b⟩ := D.ex
  refine ⟨f, fd, ["_law_a", "_law_b"], [], ⟨fun vs H Q E h => ?_, fun A outer s H args us vs Q E _ _ _ _ h => ?_⟩, hm, F.kp, b, .nil⟩
  · obtain ⟨x, y, d, rfl, _⟩ := h
    rfl
  · obtain ⟨x, y, d, _, _, _, o, _⟩ := h
    exact o.elim
theorem all_true (n : Nat) : (List.replicate n true).all id = true := by
  rw [List.all_eq_true]
  intro b hb
  exact (List.mem_replicate.mp hb).2
theorem ok_same (B : Blt mg) (D : DefT K mg "_law_same" s_law_same ["_law_a", "_law_b"]) : ∀ n, C8.Cal P w K mg base n "_law_same" (spSame K n) []
  | 0 => vac_same D
  | n + 1 => by
    have c_law_same : C8.Cal P w K mg base n "_law_same" (spSame K n) [] := ok_same B D n
    refine cal_of D sc_law_same (fun vs H Q E h => ?_) (fun f cdv A outer s H vs Q E hr h => ?_)
    · obtain ⟨x, y, d, rfl, _⟩ := h
      rfl
    · obtain ⟨x, y, d, rfl, p1, p2, o, q⟩ := h
      refine ⟨_, pss_cons (ps_if (PW.pt (pw_or (PW.pt (pw_and (pt_val (pe_isi (T := "list") B.m_isinstance B.m_list (by decide +kernel) (pv 0))) (pw_and1 (pt_val (pe_isi (T := "list") B.m_isinstance B.m_list (by decide +kernel) (pv 1)))))) (pw_or1 (PW.pt (pw_and (pt_val (pe_isi (T := "tuple") B.m_isinstance B.m_tuple (by decide +kernel) (pv 0))) (pw_and1 (pt_val (pe_isi (T := "tuple") B.m_isinstance B.m_tuple (by decide +kernel) (pv 1))))))))) (pss_one (ps_ret (pe_and (pe_cmpR op_eq (pe_callB call_len_seq (by rfl) B.m_len (by decide +kernel) (pa_cons (pv 0) pa_nil)) (pe_callB call_len_seq (by rfl) B.m_len (by decide +kernel) (pa_cons (pv 1) pa_nil)) (nomark _)) (pe_one (pe_callB (cr_all rfl) (by rfl) B.m_all (by decide +kernel) (pa_cons (pe_lc (own := [("_law_x", 2), ("_law_y", 3)]) (g := gTup K 2 (gCons (gName 2) (gCons (gName 3) gNil))) rfl sc_law_same.nd (RZ.pi_zipA (by rfl) B.m_zip (pa_cons (pv 0) (pa_cons (pv 1) pa_nil))) (blkOk_by (N := N_law_same) (sc := defScope s_law_same) (by decide +kernel)) (fun _ _ _ _ _ => pg_tup (by rfl) (pgs_cons (pg_name (i := 2) sc_law_same.nd rfl (Or.inl rfl)) (pgs_cons (pg_name (i := 3) sc_law_same.nd rfl (Or.inl rfl)) pgs_nil))) (fun _ _ _ _ _ => pts_nil) (fun _ _ _ _ _ => C8.pe_c c_law_same hr (Nat.le_refl _) (by rfl) (pa_cons (pv 2) (pa_cons (pv 3) pa_nil)))) pa_nil)))))) (pss_nil))
      (pss_cons (ps_if (PW.pt (pw_or (pt_val (pe_callB call_isiT (by rfl) B.m_isinstance (by decide +kernel) (pa_cons (pv 0) (pa_cons (pe_tup (pa_cons (pe_bltn (by rfl) B.m_bool (by decide +kernel) (show RelV (.ty "bool") (.type "bool") from rfl)) (pa_cons (pe_bltn (by rfl) B.m_list (by decide +kernel) (show RelV (.ty "list") (.type "list") from rfl)) (pa_cons (pe_bltn (by rfl) B.m_tuple (by decide +kernel) (show RelV (.ty "tuple") (.type "tuple") from rfl)) pa_nil)))) pa_nil)))) (pw_or1 (pt_val (pe_callB call_isiT (by rfl) B.m_isinstance (by decide +kernel) (pa_cons (pv 1) (pa_cons (pe_tup (pa_cons (pe_bltn (by rfl) B.m_bool (by decide +kernel) (show RelV (.ty "bool") (.type "bool") from rfl)) (pa_cons (pe_bltn (by rfl) B.m_list (by decide +kernel) (show RelV (.ty "list") (.type "list") from rfl)) (pa_cons (pe_bltn (by rfl) B.m_tuple (by decide +kernel) (show RelV (.ty "tuple") (.type "tuple") from rfl)) pa_nil)))) pa_nil))))))) (pss_one (ps_ret (pe_and (pe_isi (T := "bool") B.m_isinstance B.m_bool (by decide +kernel) (pv 0)) (pe_and (pe_isi (T := "bool") B.m_isinstance B.m_bool (by decide +kernel) (pv 1)) (pe_one (pe_cmpR op_eq (pv 0) (pv 1) (nomark _))))))) (pss_nil))
      (pss_cons (ps_if (PW.pt (pw_or (pt_val (pe_isi (T := "int") B.m_isinstance B.m_int (by decide +kernel) (pv 0))) (pw_or1 (pt_val (pe_isi (T := "int") B.m_isinstance B.m_int (by decide +kernel) (pv 1)))))) (pss_one (ps_ret (pe_and (pe_isi (T := "int") B.m_isinstance B.m_int (by decide +kernel) (pv 0)) (pe_and (pe_isi (T := "int") B.m_isinstance B.m_int (by decide +kernel) (pv 1)) (pe_one (pe_cmpR op_eq (pv 0) (pv 1) (nomark _))))))) (pss_nil))
      (pss_cons (ps_if (PW.pt (pw_or (pt_val (pe_isi (T := "str") B.m_isinstance B.m_str (by decide +kernel) (pv 0))) (pw_or1 (pt_val (pe_isi (T := "str") B.m_isinstance B.m_str (by decide +kernel) (pv 1)))))) (pss_one (ps_ret (pe_and (pe_isi (T := "str") B.m_isinstance B.m_str (by decide +kernel) (pv 0)) (pe_and (pe_isi (T := "str") B.m_isinstance B.m_str (by decide +kernel) (pv 1)) (pe_one (pe_cmpR op_eq (pv 0) (pv 1) (nomark _))))))) (pss_nil))
      (pss_one (ps_ret (pe_and (pe_cmpR op_isN (pv 0) pe_non (nomark _)) (pe_one (pe_cmpR op_isN (pv 1) pe_non (nomark _))))))))), ?_⟩
      cases d with
      | int i =>
        cases p1
        cases p2
        refine ⟨_, rfl, _, _, _, _, false, rfl, .ty _, tyx_int, kit_ty (by decide +kernel), _, rfl, iteF (iteF ⟨_, rfl, _, _, _, _, false, rfl, .ty _, tyx_int, kit_ty (by decide +kernel), _, rfl, iteF (iteF ?_)⟩)⟩
        refine ⟨_, rfl, (by show 3 ≤ sizeLine; decide), fun T hT => ⟨_, T, _, _, _, false, rfl, upd_same, cls3, tyx_int, kit3_no (by decide +kernel) (by decide +kernel) (by decide +kernel), _, rfl, iteF ?_⟩⟩
        refine ⟨_, rfl, (by show 3 ≤ sizeLine; decide), fun U hU => ⟨_, U, _, _, _, false, rfl, upd_same, cls3, tyx_int, kit3_no (by decide +kernel) (by decide +kernel) (by decide +kernel), _, rfl, iteF ?_⟩⟩
        refine ⟨_, rfl, _, _, _, _, true, rfl, .ty _, tyx_int, kit_ty (by decide +kernel), _, rfl, iteT (iteT ?_)⟩
        refine ⟨_, rfl, _, _, _, _, true, rfl, .ty _, tyx_int, kit_ty (by decide +kernel), _, rfl, iteT ⟨_, rfl, _, _, _, _, true, rfl, .ty _, tyx_int, kit_ty (by decide +kernel), _, rfl, iteT ⟨_, rfl, _, rfl, rfl, ?_⟩⟩⟩
        rw [decide_eq_true rfl]
        exact q _ ((same_new hT).trans (same_new hU))
      | bool b =>
        cases p1
        cases p2
        refine ⟨_, rfl, _, _, _, _, false, rfl, .ty _, tyx_bl, kit_ty (by decide +kernel), _, rfl, iteF (iteF ⟨_, rfl, _, _, _, _, false, rfl, .ty _, tyx_bl, kit_ty (by decide +kernel), _, rfl, iteF (iteF ?_)⟩)⟩
        refine ⟨_, rfl, (by show 3 ≤ sizeLine; decide), fun T hT => ⟨_, T, _, _, _, true, rfl, upd_same, cls3, tyx_bl, kit3_bool, _, rfl, iteT (iteT ?_)⟩⟩
        refine ⟨_, rfl, _, _, _, _, true, rfl, .ty _, tyx_bl, kit_ty (by decide +kernel), _, rfl, iteT ⟨_, rfl, _, _, _, _, true, rfl, .ty _, tyx_bl, kit_ty (by decide +kernel), _, rfl, iteT ⟨_, rfl, _, rfl, rfl, ?_⟩⟩⟩
        rw [decide_eq_true rfl]
        exact q _ (same_new hT)
      | str z =>
        cases p1
        cases p2
        refine ⟨_, rfl, _, _, _, _, false, rfl, .ty _, tyx_str, kit_ty (by decide +kernel), _, rfl, iteF (iteF ⟨_, rfl, _, _, _, _, false, rfl, .ty _, tyx_str, kit_ty (by decide +kernel), _, rfl, iteF (iteF ?_)⟩)⟩
        refine ⟨_, rfl, (by show 3 ≤ sizeLine; decide), fun T hT => ⟨_, T, _, _, _, false, rfl, upd_same, cls3, tyx_str, kit3_no (by decide +kernel) (by decide +kernel) (by decide +kernel), _, rfl, iteF ?_⟩⟩
        refine ⟨_, rfl, (by show 3 ≤ sizeLine; decide), fun U hU => ⟨_, U, _, _, _, false, rfl, upd_same, cls3, tyx_str, kit3_no (by decide +kernel) (by decide +kernel) (by decide +kernel), _, rfl, iteF ?_⟩⟩
        refine ⟨_, rfl, _, _, _, _, false, rfl, .ty _, tyx_str, kit_ty (by decide +kernel), _, rfl, iteF ⟨_, rfl, _, _, _, _, false, rfl, .ty _, tyx_str, kit_ty (by decide +kernel), _, rfl, iteF ?_⟩⟩
        refine ⟨_, rfl, _, _, _, _, true, rfl, .ty _, tyx_str, kit_ty (by decide +kernel), _, rfl, iteT (iteT ?_)⟩
        refine ⟨_, rfl, _, _, _, _, true, rfl, .ty _, tyx_str, kit_ty (by decide +kernel), _, rfl, iteT ⟨_, rfl, _, _, _, _, true, rfl, .ty _, tyx_str, kit_ty (by decide +kernel), _, rfl, iteT ⟨_, rfl, _, rfl, rfl, ?_⟩⟩⟩
        rw [decide_eq_true rfl]
        exact q _ ((same_new hT).trans (same_new hU))
      | none =>
        cases p1
        cases p2
        refine ⟨_, rfl, _, _, _, _, false, rfl, .ty _, tyx_non, kit_ty (by decide +kernel), _, rfl, iteF (iteF ⟨_, rfl, _, _, _, _, false, rfl, .ty _, tyx_non, kit_ty (by decide +kernel), _, rfl, iteF (iteF ?_)⟩)⟩
        refine ⟨_, rfl, (by show 3 ≤ sizeLine; decide), fun T hT => ⟨_, T, _, _, _, false, rfl, upd_same, cls3, tyx_non, kit3_no (by decide +kernel) (by decide +kernel) (by decide +kernel), _, rfl, iteF ?_⟩⟩
        refine ⟨_, rfl, (by show 3 ≤ sizeLine; decide), fun U hU => ⟨_, U, _, _, _, false, rfl, upd_same, cls3, tyx_non, kit3_no (by decide +kernel) (by decide +kernel) (by decide +kernel), _, rfl, iteF ?_⟩⟩
        refine ⟨_, rfl, _, _, _, _, false, rfl, .ty _, tyx_non, kit_ty (by decide +kernel), _, rfl, iteF ⟨_, rfl, _, _, _, _, false, rfl, .ty _, tyx_non, kit_ty (by decide +kernel), _, rfl, iteF ?_⟩⟩
        refine ⟨_, rfl, _, _, _, _, false, rfl, .ty _, tyx_non, kit_ty (by decide +kernel), _, rfl, iteF ⟨_, rfl, _, _, _, _, false, rfl, .ty _, tyx_non, kit_ty (by decide +kernel), _, rfl, iteF ?_⟩⟩
        exact ⟨_, rfl, rfl, _, rfl, iteT ⟨_, rfl, rfl, q _ ((same_new hT).trans (same_new hU))⟩⟩
      | list ds =>
        cases p1 with
        | @lst a xs _ h1 a1 =>
        cases p2 with
        | @lst b ys _ h2 a2 =>
        obtain ⟨ol, oa⟩ := o
        have l1 := dps_len a1
        have l2 := dps_len a2
        refine ⟨_, rfl, _, _, _, _, true, rfl, .ty _, tyx_lst h1, kit_ty (by decide +kernel), _, rfl, iteT ⟨_, rfl, _, _, _, _, true, rfl, .ty _, tyx_lst h2, kit_ty (by decide +kernel), _, rfl, iteT (iteT ?_)⟩⟩
        refine ⟨_, rfl, a, xs, rfl, .inl h1, _, rfl, b, ys, rfl, .inl h2, rfl, _, rfl, iteP (decide_eq_true (by rw [l1, l2])) ?_⟩
        refine ⟨_, rfl, _, rfl, a, b, xs, ys, rfl, .inl ⟨h1, h2, fun L hL => ?_⟩⟩
        refine lc_it (walk_zip (K := K) (a := a) (b := b) (xs := xs) (ys := ys) rfl) (fun i H' => Same H H' ∧ H' L = some (.lst (List.replicate i (V.bl true)))) ⟨same_new hL, upd_same⟩
          (fun i H' _ z => ⟨z.1.seq h1, z.1.seq h2⟩) ?_ ?_
        · rintro i v H' H'' hi ⟨z1, z2⟩ ⟨T, x, y, rfl, hT, rfl, hx, hy⟩
          obtain ⟨d1, e1, q1⟩ := dps_get a1 hx
          obtain ⟨d2, e2, q2⟩ := dps_get a2 hy
          have e : d1 = d2 := Option.some.inj (e1.symm.trans e2)
          subst e
          have sT := z1.trans (same_new (o := .tup [x, y]) hT)
          refine ⟨T, _, rfl, sqT_of upd_same, rfl, _, _, rfl, _, _, rfl, rfl, rfl, _, rfl, _, rfl, x, y, d1, rfl, dp_same sT q1, dp_same sT q2, oa d1 (List.mem_of_getElem? e1), fun H3 s3 => ?_⟩
          have hL3 : H3 L = some (.lst (List.replicate i (V.bl true))) := s3 _ _ (by rw [upd_ne (ne_of_none z2 hT)]; exact z2)
          refine ⟨_, hL3, ?_, same_mut (sT.trans s3) hL, ?_⟩
          · rw [List.length_replicate]
            exact Nat.lt_of_lt_of_le (show i < 5001 by omega) (by decide)
          · rw [upd_same, List.replicate_succ']
        · rintro H' ⟨z1, z2⟩
          refine ⟨L, List.replicate (min xs.length ys.length) true, rfl, sqL_of (by rw [z2, List.map_replicate]), ?_⟩
          rw [all_true]
          exact q _ z1
      | tuple ds =>
        cases p1 with
        | @tup a xs _ h1 a1 =>
        cases p2 with
        | @tup b ys _ h2 a2 =>
        obtain ⟨ol, oa⟩ := o
        have l1 := dps_len a1
        have l2 := dps_len a2
        refine ⟨_, rfl, _, _, _, _, false, rfl, .ty _, tyx_tup h1, kit_ty (by decide +kernel), _, rfl, iteF (iteF ⟨_, rfl, _, _, _, _, true, rfl, .ty _, tyx_tup h1, kit_ty (by decide +kernel), _, rfl, iteT ⟨_, rfl, _, _, _, _, true, rfl, .ty _, tyx_tup h2, kit_ty (by decide +kernel), _, rfl, iteT ?_⟩⟩)⟩
        refine ⟨_, rfl, a, xs, rfl, .inr h1, _, rfl, b, ys, rfl, .inr h2, rfl, _, rfl, iteP (decide_eq_true (by rw [l1, l2])) ?_⟩
        refine ⟨_, rfl, _, rfl, a, b, xs, ys, rfl, .inr ⟨h1, h2, fun L hL => ?_⟩⟩
        refine lc_it (walk_zipTT (K := K) (a := a) (b := b) (xs := xs) (ys := ys) rfl) (fun i H' => Same H H' ∧ H' L = some (.lst (List.replicate i (V.bl true)))) ⟨same_new hL, upd_same⟩
          (fun i H' _ z => ⟨same_seqT z.1 h1, same_seqT z.1 h2⟩) ?_ ?_
        · rintro i v H' H'' hi ⟨z1, z2⟩ ⟨T, x, y, rfl, hT, rfl, hx, hy⟩
          obtain ⟨d1, e1, q1⟩ := dps_get a1 hx
          obtain ⟨d2, e2, q2⟩ := dps_get a2 hy
          have e : d1 = d2 := Option.some.inj (e1.symm.trans e2)
          subst e
          have sT := z1.trans (same_new (o := .tup [x, y]) hT)
          refine ⟨T, _, rfl, sqT_of upd_same, rfl, _, _, rfl, _, _, rfl, rfl, rfl, _, rfl, _, rfl, x, y, d1, rfl, dp_same sT q1, dp_same sT q2, oa d1 (List.mem_of_getElem? e1), fun H3 s3 => ?_⟩
          have hL3 : H3 L = some (.lst (List.replicate i (V.bl true))) := s3 _ _ (by rw [upd_ne (ne_of_none z2 hT)]; exact z2)
          refine ⟨_, hL3, ?_, same_mut (sT.trans s3) hL, ?_⟩
          · rw [List.length_replicate]
            exact Nat.lt_of_lt_of_le (show i < 5001 by omega) (by decide)
          · rw [upd_same, List.replicate_succ']
        · rintro H' ⟨z1, z2⟩
          refine ⟨L, List.replicate (min xs.length ys.length) true, rfl, sqL_of (by rw [z2, List.map_replicate]), ?_⟩
          rw [all_true]
          exact q _ z1
      | dict _ => cases p1
end
end Au
set_option maxHeartbeats 4000000
/-! The law's own play: lists of indices. -/
namespace Au
open PySem PySem.Spec PyProof.Rows L2
theorem wait_empty {i u : Nat} : (wait i u).isEmpty = decide (u = 0) := by
  have h := wait_len i u
  cases e : wait i u with
  | nil =>
    rw [e] at h
    have h : 0 = u := h
    subst h
    rfl
  | cons x r =>
    rw [e] at h
    have h : r.length + 1 = u := h
    symm
    exact decide_eq_false (by omega)
section
variable {P : Program} {w : World} {K : PySem.W.Frag} {mg : Str → Option Value} {base : Heap}
/-- a row of the law: a list of indices that is neither R nor L -/
def RowAt (H : Hp) (R L : Addr) (x : V) (ws : List Int) : Prop := ∃ a, x = V.ref a ∧ a ≠ R ∧ a ≠ L ∧ H a = some (.lst (ws.map V.int))
/-- between two edits: the row that waits at W -/
structure LpSt (K : PySem.W.Frag) (H H' : Hp) (R L W : Addr) (rows : List (List Int)) (i : Nat) (s : PS) : Prop where
  same : Same H H'
  w : H' W = some (.lst ((wait i s.u).map V.int))
  wR : W ≠ R
  wL : W ≠ L
  r : ∃ rx, H' R = some (.lst rx) ∧ Paired (RowAt H' R L) rx rows
  e : ∃ xs, H' L = some (.lst xs) ∧ Paired (PairT K H') xs s.done
theorem rows_up {H H' : Hp} {R L : Addr} (k : ∀ b o, b ≠ R → b ≠ L → H b = some o → H' b = some o) {rx : List V} {rows : List (List Int)} (h : Paired (RowAt H R L) rx rows) : Paired (RowAt H' R L) rx rows :=
  Paired.mapP h fun x ws ⟨a, e, n1, n2, q⟩ => ⟨a, e, n1, n2, k a _ n1 n2 q⟩
theorem LpSt.grow {H H' H2 : Hp} {R L W : Addr} {rows : List (List Int)} {i : Nat} {s : PS} (S : LpSt K H H' R L W rows i s) (g : Same H' H2) : LpSt K H H2 R L W rows i s := by
  obtain ⟨rx, r1, r2⟩ := S.r
  obtain ⟨xs, e1, e2⟩ := S.e
  exact ⟨S.same.trans g, g _ _ S.w, S.wR, S.wL, ⟨rx, g _ _ r1, rows_up (fun b o _ _ h => g b o h) r2⟩, ⟨xs, g _ _ e1, pairs_up (.of_same g) e2⟩⟩
/-- a new row waits -/
theorem LpSt.hold {H H' : Hp} {R L W W2 : Addr} {rows : List (List Int)} {i j : Nat} {s : PS} {u : Nat} (S : LpSt K H H' R L W rows i s) (h : H' W2 = some (.lst ((wait j u).map V.int))) (n1 : W2 ≠ R) (n2 : W2 ≠ L) : LpSt K H H' R L W2 rows j ⟨u, s.done⟩ :=
  ⟨S.same, h, n1, n2, S.r, S.e⟩
theorem LpSt.nR {H H' : Hp} {R L W p : Addr} {rows : List (List Int)} {i : Nat} {s : PS} (S : LpSt K H H' R L W rows i s) (h : H' p = none) : p ≠ R := fun e => by
  obtain ⟨rx, r1, _⟩ := S.r
  rw [e, r1] at h
  cases h
theorem LpSt.nL {H H' : Hp} {R L W p : Addr} {rows : List (List Int)} {i : Nat} {s : PS} (S : LpSt K H H' R L W rows i s) (h : H' p = none) : p ≠ L := fun e => by
  obtain ⟨rx, r1, _⟩ := S.e
  rw [e, r1] at h
  cases h
/-- a save is told -/
theorem LpSt.app {H H' : Hp} {R L W T : Addr} {rows : List (List Int)} {i : Nat} {xs : List V} {s : PS} {p : Int × Bool} (S : LpSt K H H' R L W rows i s) (hRL : R ≠ L) (hL : H L = none) (hT : H' T = none) (hx : H' L = some (.lst xs)) (hp : Paired (PairT K H') xs s.done) :
    LpSt K H (upd (upd H' T (.tup [.int p.1, .str (why p.2)])) L (.lst (xs ++ [.ref T]))) R L W rows i ⟨s.u, s.done ++ [p]⟩ := by
  have nL : L ≠ T := ne_of_none hx hT
  have hx1 : (upd H' T (.tup [.int p.1, .str (why p.2)])) L = some (.lst xs) := by rw [upd_ne nL]; exact hx
  have t2 : Tups H' (upd (upd H' T (.tup [.int p.1, .str (why p.2)])) L (.lst (xs ++ [.ref T]))) := (Tups.new hT).trans (.lst hx1)
  have k : ∀ b o, b ≠ L → H' b = some o → (upd (upd H' T (.tup [.int p.1, .str (why p.2)])) L (.lst (xs ++ [.ref T]))) b = some o := fun b o n h => by
    rw [upd_ne n, upd_ne (ne_of_none h hT)]
    exact h
  obtain ⟨rx, r1, r2⟩ := S.r
  exact ⟨same_mut (S.same.trans (same_new hT)) hL, k _ _ S.wL S.w, S.wR, S.wL, ⟨rx, k _ _ hRL r1, rows_up (fun b o _ n h => k b o n h) r2⟩, _, upd_same, paired_snoc (pairs_up t2 hp) ⟨T, rfl, (Tups.lst hx1).sq (sqT_of upd_same)⟩⟩
/-- the row that waits is told -/
theorem LpSt.row {H H' : Hp} {R L W : Addr} {rows : List (List Int)} {rx : List V} {i : Nat} {s : PS} (S : LpSt K H H' R L W rows i s) (hRL : R ≠ L) (hR : H R = none) (hr : H' R = some (.lst rx)) (hp : Paired (RowAt H' R L) rx rows) :
    LpSt K H (upd H' R (.lst (rx ++ [.ref W]))) R L W (rows ++ [wait i s.u]) i s := by
  have k : ∀ b o, b ≠ R → H' b = some o → (upd H' R (.lst (rx ++ [.ref W]))) b = some o := fun b o n h => by
    rw [upd_ne n]
    exact h
  obtain ⟨xs, e1, e2⟩ := S.e
  exact ⟨same_mut S.same hR, k _ _ S.wR S.w, S.wR, S.wL, ⟨_, upd_same, paired_snoc (rows_up (fun b o n _ h => k b o n h) hp) ⟨W, rfl, S.wR, S.wL, k _ _ S.wR S.w⟩⟩, xs, k _ _ hRL.symm e1, pairs_up (.lst hr) e2⟩
/-- what a call of the law's play leaves -/
structure LPlayed (K : PySem.W.Frag) (H H' : Hp) (p : Addr) (c d : Int) (ns : List Int) : Prop where
  same : Same H H'
  ex : ∃ (R L : Addr) (rx xs : List V), H' p = some (.tup [.ref R, .ref L]) ∧ H' R = some (.lst rx) ∧ Paired (RowAt H' R L) rx (waits c d ns ns.length) ∧ H R = none ∧ H L = none ∧ R ≠ L ∧ H' L = some (.lst xs) ∧ Paired (PairT K H') xs (fin c d ns)
def spLPlay (K : PySem.W.Frag) : Sp := fun vs H Q _ => ∃ (a b : Addr) (c d : Int) (ns : List Int), vs = [.ref a, .ref b] ∧ SqT K H a [.int c, .int d] ∧ SqT K H b (ns.map V.int) ∧ 1 ≤ c ∧ ns.length ≤ 60 ∧
  ∀ H' p, H p = none → LPlayed K H H' p c d ns → Q (.ref p) H'
theorem ok_lplay (B : Blt mg) (D : DefT K mg "_law_play" s_law_play ["_law_rule_here", "_law_log_here"]) : C8.Cal P w K mg base 1 "_law_play" (spLPlay K) [] := by
  refine cal_of D sc_law_play (fun vs H Q E h => ?_) (fun f cdv A outer s H vs Q E hr h => ?_)
  · obtain ⟨a, b, c, d, ns, rfl, _⟩ := h
    rfl
  · obtain ⟨a, b, c, d, ns, rfl, hA, hB, hc, hlen, q⟩ := h
    refine ⟨_, pss_cons (ps_asg (pv 0) (pg_tup (by rfl) (pgs_cons (pg_name (i := 2) sc_law_play.nd rfl (Or.inl rfl)) (pgs_cons (pg_name (i := 3) sc_law_play.nd rfl (Or.inl rfl)) pgs_nil))))
      (pss_cons (ps_par3 (i := 4) (j := 5) (l := 6) (by rfl) sc_law_play.nd rfl rfl rfl (by decide) (by decide) (by decide) rfl rfl rfl (pa_cons (pe_lst pa_nil) (pa_cons (pe_lst pa_nil) (pa_cons (pe_lst pa_nil) pa_nil))) (by rfl))
      (pss_cons (ps_for PassesOwn.never rfl (pi_range1 (by rfl) B.m_range (pa_cons (pe_callB call_len_seq (by rfl) B.m_len (by decide +kernel) (pa_cons (pv 1) pa_nil)) pa_nil)) (pg_name (i := 7) sc_law_play.nd rfl (Or.inl rfl))
        (C8.pss_cut (ps_if (PW.pt (pw_and (pt_cmpR (op_neD hr.units) (pv 4) (pe_lst pa_nil) (nomark _)) (pw_and1 (pt_cmpR op_ge (pe_ix ix_tup (pv 1) (pv 7) (fun _ _ => rfl)) (pe_op op_add (pe_ix ix_tup (pv 1) (pe_ix ix_list (pv 4) (pe_un un_neg pe_int) (fun _ _ => rfl)) (fun _ _ => rfl)) (pv 3)) (nomark _))))) (pss_cons (ps_app (pv 6) (pe_tup (pa_cons (pe_op op_add (pe_ix ix_tup (pv 1) (pe_ix ix_list (pv 4) (pe_un un_neg pe_int) (fun _ _ => rfl)) (fun _ _ => rfl)) (pv 3)) (pa_cons pe_str pa_nil))))
      (pss_one (ps_set (i := 4) sc_law_play.nd rfl (Or.inl rfl) (pe_lst pa_nil)))) (pss_nil))
      (pss_cons (ps_set (i := 4) sc_law_play.nd rfl (Or.inl rfl) (pe_op op_cat (pv 4) (pe_lst (pa_cons (pv 7) pa_nil))))
      (C8.pss_cut (ps_if (pt_cmpR op_ge (pe_callB call_len_seq (by rfl) B.m_len (by decide +kernel) (pa_cons (pv 4) pa_nil)) (pv 2) (nomark _)) (pss_cons (ps_app (pv 6) (pe_tup (pa_cons (pe_ix ix_tup (pv 1) (pv 7) (fun _ _ => rfl)) (pa_cons pe_str pa_nil))))
      (pss_one (ps_set (i := 4) sc_law_play.nd rfl (Or.inl rfl) (pe_lst pa_nil)))) (pss_nil))
      (pss_one (ps_app (pv 5) (pv 4)))))))
      (C8.pss_cut (ps_if (pt_cmpR (op_neD hr.units) (pv 4) (pe_lst pa_nil) (nomark _)) (pss_one (ps_app (pv 6) (pe_tup (pa_cons (pe_op op_add (pe_ix ix_tup (pv 1) (pe_ix ix_list (pv 4) (pe_un un_neg pe_int) (fun _ _ => rfl)) (fun _ _ => rfl)) (pv 3)) (pa_cons pe_str pa_nil))))) (pss_nil))
      (pss_one (ps_ret (pe_tup (pa_cons (pv 5) (pa_cons (pv 6) pa_nil)))))))), ?_⟩
    refine ⟨_, rfl, a, _, rfl, hA, rfl, _, _, rfl, _, _, rfl, rfl, ?_⟩
    refine ⟨Nat.zero_le _, fun W hW => ⟨Nat.zero_le _, fun R hR => ⟨Nat.zero_le _, fun L hL => ⟨_, _, _, rfl, ?_⟩⟩⟩⟩
    have nWR : W ≠ R := fun e => by
      subst e
      rw [upd_same] at hR
      cases hR
    have nRL : R ≠ L := fun e => by
      subst e
      rw [upd_same] at hL
      cases hL
    have nWL : W ≠ L := fun e => by
      subst e
      rw [upd_ne nWR, upd_same] at hL
      cases hL
    have hR0 : H R = none := (same_new hW).free hR
    have hL0 : H L = none := ((same_new hW).trans (same_new hR)).free hL
    have s0 : Same H (upd (upd (upd H W (.lst [])) R (.lst [])) L (.lst [])) := ((same_new hW).trans (same_new hR)).trans (same_new hL)
    refine ⟨_, rfl, b, _, rfl, .inr (same_seqT s0 hB), (ns.length : Int), by rw [List.length_map], by omega, by omega, ?_⟩
    refine for_range (lo := 0) (n := (ns.length : Int).toNat) (fun i σ H' => ∃ (W : Addr) (y7 : Option V), σ = [some (.ref a), some (.ref b), some (.int c), some (.int d), some (.ref W), some (.ref R), some (.ref L), y7] ∧
      LpSt K H H' R L W (waits c d ns i) i (run c d ns i)) ?_ ?_ ?_
    · exact ⟨W, none, rfl, s0, by rw [upd_ne nWL, upd_ne nWR, upd_same]; rfl, nWR, nWL, ⟨[], by rw [upd_ne nRL, upd_same], .nil⟩, [], upd_same, .nil⟩
    · rintro i σ H1 hi ⟨W, y7, rfl, S1⟩
      have li : i < ns.length := by omega
      have e0 : (0 : Int) + (i : Int) = (i : Int) := by omega
      show _
      rw [e0]
      have hB1 : SqT K H1 b (ns.map V.int) := same_seqT S1.same hB
      have gt : (ns.map V.int)[i]? = some (.int (ns.getD i 0)) := at_int (at_getD li)
      generalize ht : ns.getD i 0 = t at gt
      have ule := run_le (c := c) (d := d) (ns := ns) i
      have ult := run_lt (c := c) (d := d) (ns := ns) hc i
      have dle := run_len (c := c) (d := d) (ns := ns) i
      refine ⟨fun σ' H2 => ∃ W2, σ' = [some (.ref a), some (.ref b), some (.int c), some (.int d), some (.ref W2), some (.ref R), some (.ref L), some (.int (i : Int))] ∧
        LpSt K H H2 R L W2 (waits c d ns i) i (idleS d (ns.getD (i - 1) 0) t (run c d ns i)), ?_, ?_⟩
      · refine ⟨_, rfl, Nat.zero_le _, fun N hN => ?_⟩
        have S2 := S1.grow (same_new (o := .lst []) hN)
        have hN2 : (upd H1 N (.lst [])) N = some (.lst []) := upd_same
        have hB2 : SqT K (upd H1 N (.lst [])) b (ns.map V.int) := same_seqT S2.same hB
        generalize upd H1 N (.lst []) = H2 at S2 hN2 hB2
        refine ⟨_, _, dp_lst (sqL_of S2.w), dp_nilL hN2, shaped_of (sh_ints _), shaped_of sh_nilL, _, rfl, ?_⟩
        rw [eqv_nilL, List.isEmpty_map, wait_empty]
        refine ite2 (fun c1 => ?_) (fun c1 => iteF ?_)
        · have u0 : 0 < (run c d ns i).u := by
            have c1' : decide ((run c d ns i).u = 0) = false := by simpa using c1
            have := of_decide_eq_false c1'
            omega
          have hw : ((wait i (run c d ns i).u).map V.int)[((wait i (run c d ns i).u).map V.int).length - 1]? = some (.int ((i - 1 : Nat) : Int)) := by
            rw [List.length_map, wait_len]
            exact at_int (wait_last ule u0)
          have hp1 : (ns.map V.int)[i - 1]? = some (.int (ns.getD (i - 1) 0)) := at_int (at_getD (by omega))
          refine ⟨_, rfl, _, rfl, _, _, _, _, rfl, rfl, hB2, atI_nat gt, _, rfl, _, rfl, 1, rfl, _, _, _, _, rfl, rfl, sqL_of S2.w, atI_back hw, _, _, _, _, rfl, rfl, hB2, atI_nat hp1, _, rfl, _, _, rfl, rfl, _, _, rfl, rfl, _, rfl, ite2 (fun c2 => ?_) (fun c2 => ?_)⟩
          · have c3 : ns.getD (i - 1) 0 + d ≤ t := of_decide_eq_true c2
            have e : idleS d (ns.getD (i - 1) 0) t (run c d ns i) = ⟨0, (run c d ns i).done ++ [(ns.getD (i - 1) 0 + d, true)]⟩ := if_pos ⟨u0, by omega⟩
            rw [e]
            obtain ⟨xs, h1, h2⟩ := S2.e
            refine ⟨_, rfl, .inl ⟨rfl, _, sqL_of h1⟩, _, rfl, _, rfl, 1, rfl, _, _, _, _, rfl, rfl, sqL_of S2.w, atI_back hw, _, _, _, _, rfl, rfl, hB2, atI_nat hp1, _, rfl, _, _, rfl, rfl, (by show 2 ≤ sizeLine; decide), fun T hT => ?_⟩
            refine ⟨L, xs, _, rfl, rfl, by rw [upd_ne (ne_of_none h1 hT)]; exact h1, ?_, ?_⟩
            · rw [pairs_len h2]
              exact small1000 (by omega)
            · have S3 := S2.app (p := (ns.getD (i - 1) 0 + d, true)) nRL hL0 hT h1 h2
              refine ⟨Nat.zero_le _, fun M hM => ⟨M, rfl, ?_⟩⟩
              exact (S3.grow (same_new (o := .lst []) hM)).hold (u := 0) upd_same (S3.nR hM) (S3.nL hM)
          · have c3 : ¬ ns.getD (i - 1) 0 + d ≤ t := fun z => c2 (decide_eq_true z)
            have e : idleS d (ns.getD (i - 1) 0) t (run c d ns i) = run c d ns i := if_neg fun z => c3 (by omega)
            rw [e]
            exact ⟨W, rfl, S2⟩
        · have c1' : decide ((run c d ns i).u = 0) = true := by simpa using c1
          have e : idleS d (ns.getD (i - 1) 0) t (run c d ns i) = run c d ns i := if_neg fun z => by
            have := of_decide_eq_true c1'
            omega
          rw [e]
          exact ⟨W, rfl, S2⟩
      · rintro _ H2 ⟨W2, rfl, S2⟩
        have dle2 := @idle_len d (ns.getD (i - 1) 0) t (run c d ns i)
        have ule2 := Nat.le_trans (@idle_u d (ns.getD (i - 1) 0) t (run c d ns i)) ule
        have ult2 := @idle_lt c d (ns.getD (i - 1) 0) t (run c d ns i) ult
        have er : run c d ns (i + 1) = cntS c t (idleS d (ns.getD (i - 1) 0) t (run c d ns i)) := by
          show cntS c (ns.getD i 0) (idleS d (ns.getD (i - 1) 0) (ns.getD i 0) (run c d ns i)) = _
          rw [ht]
        generalize idleS d (ns.getD (i - 1) 0) t (run c d ns i) = z at S2 dle2 er ule2 ult2
        refine ⟨_, rfl, _, rfl, (by show 1 ≤ sizeLine; decide), fun Z hZ => ?_⟩
        have S3 := S2.grow (same_new (o := .lst [V.int (i : Int)]) hZ)
        have hZ3 : (upd H2 Z (.lst [V.int (i : Int)])) Z = some (.lst [V.int (i : Int)]) := upd_same
        generalize upd H2 Z (.lst [V.int (i : Int)]) = H3 at S3 hZ3
        refine ⟨W2, Z, _, _, rfl, rfl, S3.w, hZ3, ?_, fun M hM => ?_⟩
        · rw [List.length_map, wait_len]
          show z.u + 1 ≤ sizeLine
          exact Nat.le_of_lt (small1000 (by omega))
        · have hM4 : (upd H3 M (.lst ((wait i z.u).map V.int ++ [V.int (i : Int)]))) M = some (.lst ((wait (i + 1) (z.u + 1)).map V.int)) := by
            rw [upd_same, wait_more ule2, List.map_append]
            rfl
          have S4 := (S3.grow (same_new (o := .lst ((wait i z.u).map V.int ++ [V.int (i : Int)])) hM)).hold hM4 (S3.nR hM) (S3.nL hM)
          generalize upd H3 M (.lst ((wait i z.u).map V.int ++ [V.int (i : Int)])) = H4 at S4 hM4
          refine ⟨fun σ' H5 => ∃ W5, σ' = [some (.ref a), some (.ref b), some (.int c), some (.int d), some (.ref W5), some (.ref R), some (.ref L), some (.int (i : Int))] ∧
            LpSt K H H5 R L W5 (waits c d ns i) (i + 1) (run c d ns (i + 1)), ?_, ?_⟩
          · refine ⟨_, rfl, M, _, rfl, .inl (sqL_of hM4), _, rfl, _, _, rfl, rfl, _, rfl, ?_⟩
            rw [List.length_map, wait_len]
            refine ite2 (fun c1 => ?_) (fun c1 => ?_)
            · have c2 : ((z.u + 1 : Nat) : Int) = c := by
                have := of_decide_eq_true c1
                omega
              have e : run c d ns (i + 1) = ⟨0, z.done ++ [(t, false)]⟩ := by
                rw [er]
                exact if_pos c2
              rw [e]
              obtain ⟨xs, h1, h2⟩ := S4.e
              refine ⟨_, rfl, .inl ⟨rfl, _, sqL_of h1⟩, _, rfl, _, rfl, _, _, _, _, rfl, rfl, same_seqT S4.same hB, atI_nat gt, (by show 2 ≤ sizeLine; decide), fun T hT => ?_⟩
              refine ⟨L, xs, _, rfl, rfl, by rw [upd_ne (ne_of_none h1 hT)]; exact h1, ?_, ?_⟩
              · rw [pairs_len h2]
                exact small1000 (by show z.done.length ≤ 1000; omega)
              · have S5 := S4.app (p := (t, false)) nRL hL0 hT h1 h2
                refine ⟨Nat.zero_le _, fun N hN => ⟨N, rfl, ?_⟩⟩
                exact (S5.grow (same_new (o := .lst []) hN)).hold (u := 0) upd_same (S5.nR hN) (S5.nL hN)
            · have c2 : ¬ ((z.u + 1 : Nat) : Int) = c := fun z2 => c1 (decide_eq_true (by omega))
              have e : run c d ns (i + 1) = ⟨z.u + 1, z.done⟩ := by
                rw [er]
                exact if_neg c2
              rw [e]
              exact ⟨M, rfl, S4⟩
          · rintro _ H5 ⟨W5, rfl, S5⟩
            obtain ⟨rx, r1, r2⟩ := S5.r
            refine ⟨_, rfl, .inl ⟨rfl, _, sqL_of r1⟩, _, rfl, R, rx, _, rfl, rfl, r1, ?_, ?_⟩
            · rw [Paired.length r2, waits_len]
              exact small1000 (by omega)
            · refine ⟨W5, _, rfl, ?_⟩
              rw [waits_more]
              exact S5.row nRL hR0 r1 r2
    · rintro σ H1 ⟨W, y7, rfl, S1⟩
      have el : (ns.length : Int).toNat = ns.length := by omega
      rw [el] at S1
      have ule := run_le (c := c) (d := d) (ns := ns) ns.length
      have dle := run_len (c := c) (d := d) (ns := ns) ns.length
      refine ⟨fun σ' H2 => ∃ W2, σ' = [some (.ref a), some (.ref b), some (.int c), some (.int d), some (.ref W2), some (.ref R), some (.ref L), y7] ∧
        LpSt K H H2 R L W2 (waits c d ns ns.length) ns.length ⟨(run c d ns ns.length).u, fin c d ns⟩, ?_, ?_⟩
      · refine ⟨_, rfl, Nat.zero_le _, fun N hN => ?_⟩
        have S2 := S1.grow (same_new (o := .lst []) hN)
        have hN2 : (upd H1 N (.lst [])) N = some (.lst []) := upd_same
        generalize upd H1 N (.lst []) = H2 at S2 hN2
        have hB2 : SqT K H2 b (ns.map V.int) := same_seqT S2.same hB
        refine ⟨_, _, dp_lst (sqL_of S2.w), dp_nilL hN2, shaped_of (sh_ints _), shaped_of sh_nilL, _, rfl, ?_⟩
        rw [eqv_nilL, List.isEmpty_map, wait_empty]
        refine ite2 (fun c1 => ?_) (fun c1 => ?_)
        · have u0 : 0 < (run c d ns ns.length).u := by
            have c1' : decide ((run c d ns ns.length).u = 0) = false := by simpa using c1
            have := of_decide_eq_false c1'
            omega
          have hw : ((wait ns.length (run c d ns ns.length).u).map V.int)[((wait ns.length (run c d ns ns.length).u).map V.int).length - 1]? = some (.int ((ns.length - 1 : Nat) : Int)) := by
            rw [List.length_map, wait_len]
            exact at_int (wait_last ule u0)
          have hp1 : (ns.map V.int)[ns.length - 1]? = some (.int (ns.getD (ns.length - 1) 0)) := at_int (at_getD (by omega))
          have e : fin c d ns = (run c d ns ns.length).done ++ [(ns.getD (ns.length - 1) 0 + d, true)] := if_pos u0
          rw [e]
          obtain ⟨xs, h1, h2⟩ := S2.e
          refine ⟨_, rfl, .inl ⟨rfl, _, sqL_of h1⟩, _, rfl, _, rfl, 1, rfl, _, _, _, _, rfl, rfl, sqL_of S2.w, atI_back hw, _, _, _, _, rfl, rfl, hB2, atI_nat hp1, _, rfl, _, _, rfl, rfl, (by show 2 ≤ sizeLine; decide), fun T hT => ?_⟩
          refine ⟨L, xs, _, rfl, rfl, by rw [upd_ne (ne_of_none h1 hT)]; exact h1, ?_, W, rfl, ?_⟩
          · rw [pairs_len h2]
            exact small1000 (by omega)
          · exact S2.app (p := (ns.getD (ns.length - 1) 0 + d, true)) nRL hL0 hT h1 h2
        · have c1' : decide ((run c d ns ns.length).u = 0) = true := by simpa using c1
          have e : fin c d ns = (run c d ns ns.length).done := if_neg fun z => by
            have := of_decide_eq_true c1'
            omega
          rw [e]
          exact ⟨W, rfl, S2⟩
      · rintro _ H2 ⟨W2, rfl, S2⟩
        refine ⟨_, rfl, _, rfl, (by show 2 ≤ sizeLine; decide), fun p hp => ?_⟩
        have S3 := S2.grow (same_new (o := .tup [.ref R, .ref L]) hp)
        obtain ⟨rx, r1, r2⟩ := S3.r
        obtain ⟨xs, h1, h2⟩ := S3.e
        exact q _ p (S2.same.free hp) ⟨S3.same, R, L, rx, xs, upd_same, r1, r2, hR0, hL0, nRL, h1, h2⟩
end
end Au
set_option maxHeartbeats 4000000
/-! What is open at a time; how many saves; moments. -/
namespace Au
open PySem PySem.Spec PyProof.Rows L2
section
variable {P : Program} {w : World} {K : PySem.W.Frag} {mg : Str → Option Value} {base : Heap}
def spLOpen (K : PySem.W.Frag) : Sp := fun vs H Q _ => ∃ (a b : Addr) (c d t : Int) (ns : List Int), vs = [.ref a, .ref b, .int t] ∧ SqT K H a [.int c, .int d] ∧ SqT K H b (ns.map V.int) ∧ 1 ≤ c ∧ ns.length ≤ 60 ∧
  ∀ H' p, Same H H' → H' p = some (.lst ((lostAt c d ns t).map V.int)) → Q (.ref p) H'
theorem ok_lopen (B : Blt mg) (D : DefT K mg "_law_open" s_law_open ["_law_rule_here", "_law_log_here", "_law_time"]) (c_law_play : C8.Cal P w K mg base 1 "_law_play" (spLPlay K) []) : C8.Cal P w K mg base 2 "_law_open" (spLOpen K) [] := by
  refine cal_of D sc_law_open (fun vs H Q E h => ?_) (fun f cdv A outer s H vs Q E hr h => ?_)
  · obtain ⟨a, b, c, d, t, ns, rfl, _⟩ := h
    rfl
  · obtain ⟨a, b, c, d, t, ns, rfl, hA, hB, hc, hlen, q⟩ := h
    refine ⟨_, pss_cons (ps_set (i := 3) sc_law_open.nd rfl (Or.inl rfl) (pe_callTy call_tuple_of (by rfl) B.m_tuple (by decide +kernel) (pa_cons (pe_lc (own := [("_law_moment", 4)]) (g := gName 4) rfl sc_law_open.nd (pi_tup (pv 1)) (blkOk_by (N := N_law_open) (sc := defScope s_law_open) (by decide +kernel)) (fun _ _ _ _ _ => pg_name (i := 4) sc_law_open.nd rfl (Or.inl rfl)) (fun _ _ _ _ _ => pts_one (pt_cmpR op_le (pv 4) (pv 2) (nomark _))) (fun _ _ _ _ _ => pv 4)) pa_nil)))
      (pss_cons (ps_if (pt_cmpR (op_eqD hr.units) (pv 3) (pe_tup pa_nil) (nomark _)) (pss_one (ps_ret (pe_lst pa_nil))) (pss_nil))
      (pss_cons (ps_set (i := 5) sc_law_open.nd rfl (Or.inl rfl) (pe_ix ix_list (pe_ix ix_tup (C8.pe_c c_law_play hr (by decide) (by rfl) (pa_cons (pv 0) (pa_cons (pv 3) pa_nil))) pe_int (fun _ _ => rfl)) (pe_un un_neg pe_int) (fun _ _ => rfl)))
      (pss_one (ps_ret (pe_ifExp (pt_cmpR op_ge (pv 2) (pe_op op_add (pe_ix ix_tup (pv 3) (pe_un un_neg pe_int) (fun _ _ => rfl)) (pe_ix ix_tup (pv 0) pe_int (fun _ _ => rfl))) (nomark _)) (pe_lst pa_nil) (pv 5)))))), ?_⟩
    refine ⟨_, rfl, b, rfl, ⟨_, hB⟩, fun L hL => ?_⟩
    refine lc_tup (K := K) (a := b) (xs := ns.map V.int) (fun i H' => H' = upd H L (.lst ((part (ns.take i) t).map V.int))) rfl (fun i H' _ e => ?_) ?_ ?_
    · subst e
      exact same_seqT (same_new hL) hB
    · rintro i x H' hx rfl
      obtain ⟨n, hn, rfl⟩ := ints_at hx
      refine ⟨rfl, _, rfl, _, rfl, _, _, rfl, rfl, _, rfl, ?_⟩
      have em := part_more (t := t) hn
      refine ite2 (fun c1 => ?_) (fun c1 => ?_)
      · rw [if_pos (of_decide_eq_true c1)] at em
        refine ⟨_, rfl, _, upd_same, ?_, ?_⟩
        · rw [List.length_map]
          exact small1000 (Nat.le_trans part_take (by omega))
        · rw [upd_upd, em, List.map_append]
          rfl
      · rw [if_neg fun z => c1 (decide_eq_true z)] at em
        rw [em]
    · rintro H' rfl
      rw [List.length_map, List.take_length]
      have s1 : Same H (upd H L (.lst ((part ns t).map V.int))) := same_new hL
      have hL1 : (upd H L (.lst ((part ns t).map V.int))) L = some (.lst ((part ns t).map V.int)) := upd_same
      generalize upd H L (.lst ((part ns t).map V.int)) = H1 at s1 hL1
      refine ⟨L, _, rfl, .inl ⟨sqL_of hL1, fun T hT => ?_⟩⟩
      have s2 : Same H (upd H1 T (.tup ((part ns t).map V.int))) := s1.trans (same_new hT)
      have hT2 : SqT K (upd H1 T (.tup ((part ns t).map V.int))) T ((part ns t).map V.int) := sqT_of upd_same
      generalize upd H1 T (.tup ((part ns t).map V.int)) = H2 at s2 hT2
      have hp60 : (part ns t).length ≤ 60 := Nat.le_trans part_le hlen
      refine ⟨_, rfl, Nat.zero_le _, fun N hN => ?_⟩
      have s3 : Same H (upd H2 N (.tup [])) := s2.trans (same_new hN)
      have hT3 : SqT K (upd H2 N (.tup [])) T ((part ns t).map V.int) := same_seqT (same_new hN) hT2
      have hN3 : (upd H2 N (.tup [])) N = some (.tup []) := upd_same
      generalize upd H2 N (.tup []) = H3 at s3 hT3 hN3
      refine ⟨_, _, dp_log hT3, dp_nilT hN3, shaped_of (sh_intsT _), shaped_of sh_nilT, _, rfl, ?_⟩
      rw [eqv_nilT, List.isEmpty_map]
      refine ite2 (fun c1 => ?_) (fun c1 => ?_)
      · have e0 : part ns t = [] := List.isEmpty_iff.mp c1
        refine ⟨Nat.zero_le _, fun M hM => q _ M (s3.trans (same_new hM)) ?_⟩
        unfold lostAt
        rw [upd_same, uAt_nil e0]
        rfl
      · have e0 : part ns t ≠ [] := fun z => c1 (List.isEmpty_iff.mpr z)
        have l0 : 0 < (part ns t).length := List.length_pos_iff.mpr e0
        refine ⟨_, rfl, _, rfl, a, T, c, d, part ns t, rfl, same_seqT s3 hA, hT3, hc, hp60, fun H4 p hp Y => ?_⟩
        obtain ⟨R, M, rx, xs, y1, y2, y3, y4, y5, y6, y7, y8⟩ := Y.ex
        have s4 : Same H H4 := s3.trans Y.same
        have hT4 : SqT K H4 T ((part ns t).map V.int) := same_seqT Y.same hT3
        obtain ⟨m, hm⟩ : ∃ m, (part ns t).length = m + 1 := ⟨(part ns t).length - 1, by omega⟩
        have lr : rx.length = m + 1 := by rw [Paired.length y3, waits_len, hm]
        obtain ⟨x, hx⟩ : ∃ x, rx[m]? = some x := ⟨_, List.getElem?_eq_getElem (by omega)⟩
        obtain ⟨ws, hws, W, rfl, _, _, hW⟩ := paired_get y3 hx
        have ew : ws = wait (part ns t).length (run c d (part ns t) (part ns t).length).u := by
          rw [hm, waits_last] at hws
          rw [hm]
          exact (Option.some.inj hws).symm
        refine ⟨_, _, _, _, rfl, rfl, sqT_of y1, atI_nat (j := 0) rfl, 1, rfl, _, _, _, _, rfl, rfl, sqL_of y2, atI_back (by rw [lr, Nat.add_sub_cancel]; exact hx), ?_⟩
        have hat : atI ((part ns t).map V.int) (-1) = some (.int ((part ns t).getD ((part ns t).length - 1) 0)) := atI_back (by rw [List.length_map]; exact at_int (at_getD (by omega)))
        refine ⟨_, rfl, _, rfl, 1, rfl, _, _, _, _, rfl, rfl, hT4, hat, _, rfl, _, _, _, _, rfl, rfl, same_seqT s4 hA, atI_nat (j := 1) rfl, _, _, rfl, rfl, _, _, rfl, rfl, _, rfl, ite2 (fun c2 => ?_) (fun c2 => ?_)⟩
        · have c3 : (part ns t).getD ((part ns t).length - 1) 0 + d ≤ t := of_decide_eq_true c2
          refine ⟨Nat.zero_le _, fun M2 hM2 => q _ M2 (s4.trans (same_new hM2)) ?_⟩
          unfold lostAt
          rw [upd_same, uAt_late (by omega)]
          rfl
        · have c3 : ¬ (part ns t).getD ((part ns t).length - 1) 0 + d ≤ t := fun z => c2 (decide_eq_true z)
          refine ⟨_, rfl, q _ W s4 ?_⟩
          unfold lostAt
          rw [hW, ew, uAt_open e0 (by omega)]
def spLMany (K : PySem.W.Frag) : Sp := fun vs H Q _ => ∃ (a b : Addr) (c d t : Int) (ns : List Int), vs = [.ref a, .ref b, .int t] ∧ SqT K H a [.int c, .int d] ∧ SqT K H b (ns.map V.int) ∧ 1 ≤ c ∧ ns.length ≤ 60 ∧
  ∀ H', Same H H' → Q (.int ((upTo c d ns t).length : Int)) H'
theorem ok_lmany (B : Blt mg) (D : DefT K mg "_law_many" s_law_many ["_law_rule_here", "_law_log_here", "_law_time"]) (c_law_play : C8.Cal P w K mg base 1 "_law_play" (spLPlay K) []) : C8.Cal P w K mg base 2 "_law_many" (spLMany K) [] := by
  refine cal_of D sc_law_many (fun vs H Q E h => ?_) (fun f cdv A outer s H vs Q E hr h => ?_)
  · obtain ⟨a, b, c, d, t, ns, rfl, _⟩ := h
    rfl
  · obtain ⟨a, b, c, d, t, ns, rfl, hA, hB, hc, hlen, q⟩ := h
    refine ⟨_, pss_one (ps_ret (pe_callB call_len_seq (by rfl) B.m_len (by decide +kernel) (pa_cons (pe_lc (own := [("_law_moment", 3), ("_law_reason", 4)]) (g := gTup K 2 (gCons (gName 3) (gCons (gName 4) gNil))) rfl sc_law_many.nd (pi_list (pe_ix ix_tup (C8.pe_c c_law_play hr (by decide) (by rfl) (pa_cons (pv 0) (pa_cons (pv 1) pa_nil))) pe_int (fun _ _ => rfl))) (blkOk_by (N := N_law_many) (sc := defScope s_law_many) (by decide +kernel)) (fun _ _ _ _ _ => pg_tup (by rfl) (pgs_cons (pg_name (i := 3) sc_law_many.nd rfl (Or.inl rfl)) (pgs_cons (pg_name (i := 4) sc_law_many.nd rfl (Or.inl rfl)) pgs_nil))) (fun _ _ _ _ _ => pts_one (pt_cmpR op_le (pv 3) (pv 2) (nomark _))) (fun _ _ _ _ _ => pv 3)) pa_nil))), ?_⟩
    refine ⟨_, rfl, _, rfl, a, b, c, d, ns, rfl, hA, hB, hc, hlen, fun H2 p hp Y => ?_⟩
    obtain ⟨R, M, rx, xs, y1, y2, y3, y4, y5, y6, y7, y8⟩ := Y.ex
    refine ⟨_, _, _, _, rfl, rfl, sqT_of y1, atI_nat (j := 1) rfl, M, rfl, ⟨_, sqL_of y7⟩, fun L hL => ?_⟩
    have lx := pairs_len y8
    have lf := fin_len (c := c) (d := d) (ns := ns)
    have nLM : M ≠ L := ne_of_none y7 hL
    refine lc_list (K := K) (a := M) (xs := xs) (fun i H' => H' = upd H2 L (.lst ((((fin c d ns).take i).filter fun p => decide (p.1 ≤ t)).map fun p => V.int p.1))) rfl (fun i H' _ e => ?_) ?_ ?_
    · subst e
      exact sqL_of (by rw [upd_ne nLM]; exact y7)
    · rintro i x H' hx rfl
      obtain ⟨p, hp1, T, rfl, hT⟩ := paired_get y8 hx
      refine ⟨T, _, rfl, same_seqT (same_new hL) hT, rfl, _, _, rfl, _, _, rfl, rfl, rfl, _, rfl, _, rfl, _, _, rfl, rfl, _, rfl, ?_⟩
      have em := upTo_more (t := t) hp1
      refine ite2 (fun c1 => ?_) (fun c1 => ?_)
      · rw [if_pos (of_decide_eq_true c1)] at em
        refine ⟨_, rfl, _, upd_same, ?_, ?_⟩
        · rw [List.length_map]
          refine small1000 (Nat.le_trans (List.length_filter_le _ _) ?_)
          rw [List.length_take]
          omega
        · rw [upd_upd, em, List.map_append]
          rfl
      · rw [if_neg fun z => c1 (decide_eq_true z)] at em
        rw [em]
    · rintro H' rfl
      rw [lx, List.take_length]
      refine ⟨L, _, rfl, .inl (sqL_of upd_same), ?_⟩
      rw [List.length_map]
      exact q _ (Y.same.trans (same_new hL))
def spMoments (K : PySem.W.Frag) : Sp := fun vs H Q _ => ∃ (g a b : Addr) (c d n : Int) (ns : List Int), vs = [.ref g, .ref a, .ref b] ∧ Bag H g n ∧ n ≤ 100000000 ∧ SqT K H a [.int c, .int d] ∧ SqT K H b (ns.map V.int) ∧ (1 ≤ d ∧ d ≤ 1000) ∧ LogOk ns ∧
  ∀ (H' : Hp) (p : Addr) (ts : List Int), Keep g H H' → Bag H' g (n + 1) → H p = none → p ≠ g → H' p = some (.lst (ts.map V.int)) → (∀ t ∈ ts, TimeOk t) → ts.length ≤ 300 → Q (.ref p) H'
theorem ok_moments (B : Blt mg) (D : DefT K mg "_law_moments" s_law_moments ["_law_bag", "_law_rule_here", "_law_log_here"]) (c_law_take : C8.Cal P w K mg base 1 "_law_take" spTake []) : C8.Cal P w K mg base 2 "_law_moments" (spMoments K) [] := by
  refine cal_of D sc_law_moments (fun vs H Q E h => ?_) (fun f cdv A outer s H vs Q E hr h => ?_)
  · obtain ⟨g, a, b, c, d, n, ns, rfl, _⟩ := h
    rfl
  · obtain ⟨g, a, b, c, d, n, ns, rfl, b0, hn, hA, hB, hd, lo, q⟩ := h
    refine ⟨_, pss_cons (ps_set (i := 3) sc_law_moments.nd rfl (Or.inl rfl) (pe_lst (pa_cons pe_int (pa_cons (C8.pe_c c_law_take hr (by decide) (by rfl) (pa_cons (pv 0) (pa_cons (pe_op op_pow pe_int pe_int) pa_nil))) (pa_cons (pe_op op_pow pe_int pe_int) pa_nil)))))
      (pss_cons (ps_for PassesOwn.never rfl (pi_tup (pv 2)) (pg_name (i := 4) sc_law_moments.nd rfl (Or.inl rfl))
        (pss_one (ps_set (i := 3) sc_law_moments.nd rfl (Or.inl rfl) (pe_op op_cat (pv 3) (pe_lst (pa_cons (pv 4) (pa_cons (pe_callB (call_max2 rfl) (by rfl) B.m_max (by decide +kernel) (pa_cons pe_int (pa_cons (pe_op op_sub (pv 4) pe_int) pa_nil))) (pa_cons (pe_op op_add (pv 4) (pe_ix ix_tup (pv 1) pe_int (fun _ _ => rfl))) (pa_cons (pe_op op_sub (pe_op op_add (pv 4) (pe_ix ix_tup (pv 1) pe_int (fun _ _ => rfl))) pe_int) pa_nil)))))))))
      (pss_one (ps_ret (pv 3)))), ?_⟩
    refine ⟨_, rfl, _, _, rfl, rfl, ⟨by decide, by decide, by decide⟩, g, _, n, rfl, b0, by omega, by decide, by decide, fun H1 r r0 r1 b1 k1 => ⟨_, _, rfl, rfl, ⟨by decide, by decide, by decide⟩, (by show 3 ≤ sizeLine; decide), fun L hL => ?_⟩⟩
    have r2 : r < 1000000 := r1
    refine ⟨_, rfl, b, rfl, ⟨_, same_seqT (same_new hL) (k1.sqT b0 hB)⟩, ?_⟩
    refine for_tup (K := K) (a := b) (xs := ns.map V.int) (fun i σ H' => ∃ (F : Addr) (ts : List Int) (y4 : Option V), σ = [some (.ref g), some (.ref a), some (.ref b), some (.ref F), y4] ∧ Keep g H H' ∧ Bag H' g (n + 1) ∧ H' F = some (.lst (ts.map V.int)) ∧ H F = none ∧ F ≠ g ∧
      (∀ t ∈ ts, TimeOk t) ∧ ts.length = 3 + 4 * i) ?_ ?_ ?_ ?_
    · refine ⟨L, [0, r, 1000000000], none, rfl, k1.trans (.new hL), b1.same (same_new hL), ?_, keep_free k1 b1 hL, bag_ne b1 hL, ?_, rfl⟩
      · rw [upd_same]
        rfl
      · intro t ht
        have : t = 0 ∨ t = r ∨ t = 1000000000 := by simpa using ht
        rcases this with e | e | e <;> (subst e; constructor <;> omega)
    · rintro i σ H2 _ ⟨F, ts, y4, rfl, k2, b2, _⟩
      exact k2.sqT b0 hB
    · rintro i x σ H2 hx ⟨F, ts, y4, rfl, k2, b2, f1, f2, f3, f4, f5⟩
      obtain ⟨t, et, rfl⟩ := ints_at hx
      have tr := lo.rng t (List.mem_of_getElem? et)
      have il : i < 60 := Nat.lt_of_lt_of_le (lt_of_at et) lo.len
      have hA2 := k2.sqT b0 hA
      refine ⟨_, rfl, _, rfl, _, rfl, _, _, rfl, rfl, _, _, rfl, ?_⟩
      have mx : 0 ≤ (if t - 1 > 0 then t - 1 else 0) ∧ (if t - 1 > 0 then t - 1 else 0) ≤ 1000000 := by
        split <;> omega
      generalize (if t - 1 > 0 then t - 1 else 0) = z at mx
      refine ⟨_, rfl, _, rfl, _, _, _, _, rfl, rfl, hA2, atI_nat (j := 1) rfl, _, _, rfl, rfl, _, rfl, _, rfl, _, _, _, _, rfl, rfl, hA2, atI_nat (j := 1) rfl, _, _, rfl, rfl, _, _, rfl, rfl, (by show 4 ≤ sizeLine; decide), fun N hN => ?_⟩
      have nFN : F ≠ N := ne_of_none f1 hN
      refine ⟨F, N, _, _, rfl, rfl, by rw [upd_ne nFN]; exact f1, upd_same, ?_, fun M hM => ?_⟩
      · rw [List.length_map, f5]
        show 3 + 4 * i + 4 ≤ sizeLine
        exact Nat.le_of_lt (small1000 (by omega))
      · have k3 : Keep g H2 (upd H2 N (.lst [.int t, .int z, .int (t + d), .int (t + d - 1)])) := .new hN
        have b3 := b2.same (same_new (o := .lst [.int t, .int z, .int (t + d), .int (t + d - 1)]) hN)
        refine ⟨M, ts ++ [t, z, t + d, t + d - 1], _, rfl, (k2.trans k3).trans (.new hM), b3.same (same_new hM), ?_, keep_free (k2.trans k3) b3 hM, bag_ne b3 hM, ?_, ?_⟩
        · rw [upd_same, List.map_append]
          rfl
        · intro y hy
          rcases List.mem_append.mp hy with h | h
          · exact f4 y h
          · have : y = t ∨ y = z ∨ y = t + d ∨ y = t + d - 1 := by simpa using h
            rcases this with e | e | e | e <;> (subst e; constructor <;> omega)
        · rw [List.length_append, f5]
          show 3 + 4 * i + 4 = 3 + 4 * (i + 1)
          omega
    · rintro σ H2 ⟨F, ts, y4, rfl, k2, b2, f1, f2, f3, f4, f5⟩
      rw [List.length_map] at f5
      have := lo.len
      exact ⟨_, rfl, q H2 F ts k2 b2 f2 f3 f1 f4 (by omega)⟩
end
end Au
set_option maxHeartbeats 8000000
/-! The law. -/
namespace Au
open PySem PySem.Spec PyProof.Rows L2
theorem sh_pairs (l : List (Int × Bool)) : Sh 2 (.list (l.map dn)) := sh_list fun d hd => by
  obtain ⟨p, _, e⟩ := List.mem_map.mp hd
  subst e
  refine sh_tup fun x hx => ?_
  have hx : x = .int p.1 ∨ x = .str (why p.2) := by simpa using hx
  rcases hx with e | e
  · subst e
    exact sh_int _
  · subst e
    refine sh_str ?_
    cases p.2
    · show (PyData.str "count").canLay0 = true
      decide +kernel
    · show (PyData.str "idle").canLay0 = true
      decide +kernel
theorem okd_pairs {l : List (Int × Bool)} (h : l.length ≤ 5000) : okd 3 (.list (l.map dn)) := by
  refine ⟨by rw [List.length_map]; exact h, fun d hd => ?_⟩
  obtain ⟨p, _, e⟩ := List.mem_map.mp hd
  subst e
  refine ⟨by show 2 ≤ 5000; decide, fun x hx => ?_⟩
  have hx : x = .int p.1 ∨ x = .str (why p.2) := by simpa using hx
  rcases hx with e | e
  · subst e
    trivial
  · subst e
    trivial
theorem okd_ints {l : List Int} (h : l.length ≤ 5000) : okd 3 (.list (l.map PyData.int)) := by
  refine ⟨by rw [List.length_map]; exact h, fun d hd => ?_⟩
  obtain ⟨p, _, e⟩ := List.mem_map.mp hd
  subst e
  trivial
theorem dp_pairs {K : PySem.W.Frag} {H : Hp} {L : Addr} {xs : List V} {l : List (Int × Bool)} (h : H L = some (.lst xs)) (p : Paired (PairT K H) xs l) : Dp K H (.ref L) (.list (l.map dn)) := .lst (sqL_of h) (pairs_dp p)
theorem logOk_a : LogOk [0, 2, 4, 20, 25, 40] where
  len := by decide
  rng := fun n hn => by
    have : n = 0 ∨ n = 2 ∨ n = 4 ∨ n = 20 ∨ n = 25 ∨ n = 40 := by simpa using hn
    omega
  up := fun i hi => by
    have hi : i + 1 < 6 := hi
    have : i = 0 ∨ i = 1 ∨ i = 2 ∨ i = 3 ∨ i = 4 := by omega
    rcases this with e | e | e | e | e <;> (subst e; decide)
theorem logOk_b : LogOk [0, 5] where
  len := by decide
  rng := fun n hn => by
    have : n = 0 ∨ n = 5 := by simpa using hn
    omega
  up := fun i hi => by
    have hi : i + 1 < 2 := hi
    have : i = 0 := by omega
    subst this
    decide
theorem fin_a : fin 3 10 [0, 2, 4, 20, 25, 40] = [(4, false), (35, true), (50, true)] := by decide
theorem fin_b : fin 2 5 [0, 5] = [(5, true), (10, true)] := by decide
theorem fin_c : fin 2 6 [0, 5] = [(5, false)] := by decide
section
variable {P : Program} {w : World} {K : PySem.W.Frag} {mg : Str → Option Value} {base : Heap}
def spLaw (K : PySem.W.Frag) : Sp := fun vs H Q _ => ∃ (a : Addr) (ns : List Int), vs = [.ref a] ∧ SqL K H a (ns.map V.int) ∧ ns.length ≤ 63 ∧ ∀ H', Q (.bl true) H'
theorem ok_law (B : Blt mg) {f : Addr} {fd : FuncData} (F : L2.Fun K "law" "law" s_law f fd) (c_law_bags : C8.Cal P w K mg base 2 "_law_bags" (spBags K) []) (c_law_rule : C8.Cal P w K mg base 2 "_law_rule" (spRule K) [])
    (c_law_log : C8.Cal P w K mg base 2 "_law_log" (spLog K) []) (c_law_play : C8.Cal P w K mg base 1 "_law_play" (spLPlay K) []) (c_saves : C8.Cal P w K mg base 4 "saves" (spSaves K) [])
    (c_law_same : C8.Cal P w K mg base 3 "_law_same" (spSame K 3) []) (c_law_moments : C8.Cal P w K mg base 2 "_law_moments" (spMoments K) []) (c_law_open : C8.Cal P w K mg base 2 "_law_open" (spLOpen K) [])
    (c_lost : C8.Cal P w K mg base 4 "lost" (spLost K) []) (c_unsaved : C8.Cal P w K mg base 4 "unsaved" (spUnsaved K) []) (c_saves_until : C8.Cal P w K mg base 4 "saves_until" (spSavesUntil K) [])
    (c_law_many : C8.Cal P w K mg base 2 "_law_many" (spLMany K) []) : FnOk P w K mg base CX0 5 f fd ["_law_script"] (spLaw K) := by
  refine F.ok sc_law (fun vs H Q E h => ?_) (fun cdv A outer s H vs Q E hr h => ?_)
  · obtain ⟨a, ns, rfl, _⟩ := h
    rfl
  · obtain ⟨a, ns, rfl, hS, hlen, q⟩ := h
    refine ⟨_, pss_cons (ps_for PassesOwn.never rfl (pi_list (C8.pe_c c_law_bags hr (by decide) (by rfl) (pa_cons (pv 0) (pa_cons pe_int pa_nil)))) (pg_name (i := 1) sc_law.nd rfl (Or.inl rfl))
        (pss_cons (ps_set (i := 2) sc_law.nd rfl (Or.inl rfl) (C8.pe_c c_law_rule hr (by decide) (by rfl) (pa_cons (pv 1) pa_nil)))
      (pss_cons (ps_set (i := 3) sc_law.nd rfl (Or.inl rfl) (C8.pe_c c_law_log hr (by decide) (by rfl) (pa_cons (pv 1) (pa_cons pe_int (pa_cons (pv 2) pa_nil)))))
      (pss_cons (ps_asg (C8.pe_c c_law_play hr (by decide) (by rfl) (pa_cons (pv 2) (pa_cons (pv 3) pa_nil))) (pg_tup (by rfl) (pgs_cons (pg_name (i := 4) sc_law.nd rfl (Or.inl rfl)) (pgs_cons (pg_name (i := 5) sc_law.nd rfl (Or.inl rfl)) pgs_nil))))
      (pss_cons (ps_set (i := 6) sc_law.nd rfl (Or.inl rfl) (C8.pe_c c_saves hr (by decide) (by rfl) (pa_cons (pv 2) (pa_cons (pv 3) pa_nil))))
      (pss_cons (ps_if (pt_not (pt_val (C8.pe_c c_law_same hr (by decide) (by rfl) (pa_cons (pv 6) (pa_cons (pv 5) pa_nil))))) (pss_one (ps_ret pe_bl)) (pss_nil))
      (pss_cons (ps_app (pv 6) pe_non)
      (pss_cons (ps_if (pt_cmpR (op_neD hr.units) (C8.pe_c c_saves hr (by decide) (by rfl) (pa_cons (pv 2) (pa_cons (pv 3) pa_nil))) (pv 5) (nomark _)) (pss_one (ps_ret pe_bl)) (pss_nil))
      (pss_one (ps_for PassesOwn.never rfl (pi_list (pe_slice sl_list (C8.pe_c c_law_moments hr (by decide) (by rfl) (pa_cons (pv 1) (pa_cons (pv 2) (pa_cons (pv 3) pa_nil)))) po_none (po_some pe_int))) (pg_name (i := 7) sc_law.nd rfl (Or.inl rfl))
        (pss_cons (ps_set (i := 8) sc_law.nd rfl (Or.inl rfl) (C8.pe_c c_law_open hr (by decide) (by rfl) (pa_cons (pv 2) (pa_cons (pv 3) (pa_cons (pv 7) pa_nil)))))
      (pss_cons (ps_set (i := 9) sc_law.nd rfl (Or.inl rfl) (C8.pe_c c_lost hr (by decide) (by rfl) (pa_cons (pv 2) (pa_cons (pv 3) (pa_cons (pv 7) pa_nil)))))
      (pss_cons (ps_if (PW.pt (pw_or (pt_not (pt_val (C8.pe_c c_law_same hr (by decide) (by rfl) (pa_cons (pv 9) (pa_cons (pv 8) pa_nil))))) (pw_or1 (pt_not (pt_val (C8.pe_c c_law_same hr (by decide) (by rfl) (pa_cons (C8.pe_c c_unsaved hr (by decide) (by rfl) (pa_cons (pv 2) (pa_cons (pv 3) (pa_cons (pv 7) pa_nil)))) (pa_cons (pe_callB call_len_seq (by rfl) B.m_len (by decide +kernel) (pa_cons (pv 8) pa_nil)) pa_nil)))))))) (pss_one (ps_ret pe_bl)) (pss_nil))
      (pss_cons (ps_app (pv 9) pe_int)
      (pss_cons (ps_if (pt_cmpR (op_neD hr.units) (C8.pe_c c_lost hr (by decide) (by rfl) (pa_cons (pv 2) (pa_cons (pv 3) (pa_cons (pv 7) pa_nil)))) (pv 8) (nomark _)) (pss_one (ps_ret pe_bl)) (pss_nil))
      (pss_one (ps_if (pt_not (pt_val (C8.pe_c c_law_same hr (by decide) (by rfl) (pa_cons (C8.pe_c c_saves_until hr (by decide) (by rfl) (pa_cons (pv 2) (pa_cons (pv 3) (pa_cons (pv 7) pa_nil)))) (pa_cons (C8.pe_c c_law_many hr (by decide) (by rfl) (pa_cons (pv 2) (pa_cons (pv 3) (pa_cons (pv 7) pa_nil)))) pa_nil))))) (pss_one (ps_ret pe_bl)) (pss_nil))))))))))))))))))
      (pss_cons (ps_if (pt_cmpR (op_neD hr.units) (C8.pe_c c_saves hr (by decide) (by rfl) (pa_cons (pe_tup (pa_cons pe_int (pa_cons pe_int pa_nil))) (pa_cons (pe_tup (pa_cons pe_int (pa_cons pe_int (pa_cons pe_int (pa_cons pe_int (pa_cons pe_int (pa_cons pe_int pa_nil))))))) pa_nil))) (pe_lst (pa_cons (pe_tup (pa_cons pe_int (pa_cons pe_str pa_nil))) (pa_cons (pe_tup (pa_cons pe_int (pa_cons pe_str pa_nil))) (pa_cons (pe_tup (pa_cons pe_int (pa_cons pe_str pa_nil))) pa_nil)))) (nomark _)) (pss_one (ps_ret pe_bl)) (pss_nil))
      (pss_one (ps_ret (pe_and (pe_cmpR (op_eqD hr.units) (C8.pe_c c_saves hr (by decide) (by rfl) (pa_cons (pe_tup (pa_cons pe_int (pa_cons pe_int pa_nil))) (pa_cons (pe_tup (pa_cons pe_int (pa_cons pe_int pa_nil))) pa_nil))) (pe_lst (pa_cons (pe_tup (pa_cons pe_int (pa_cons pe_str pa_nil))) (pa_cons (pe_tup (pa_cons pe_int (pa_cons pe_str pa_nil))) pa_nil))) (nomark _)) (pe_one (pe_cmpR (op_eqD hr.units) (C8.pe_c c_saves hr (by decide) (by rfl) (pa_cons (pe_tup (pa_cons pe_int (pa_cons pe_int pa_nil))) (pa_cons (pe_tup (pa_cons pe_int (pa_cons pe_int pa_nil))) pa_nil))) (pe_lst (pa_cons (pe_tup (pa_cons pe_int (pa_cons pe_str pa_nil))) pa_nil)) (nomark _))))))), ?_⟩
    refine ⟨_, rfl, a, ns, 8, rfl, hS, by decide, hlen, fun H1 p gs bg => ⟨p, rfl, ⟨_, sqL_of bg.lst⟩, ?_⟩⟩
    refine for_list (K := K) (a := p) (xs := gs.map V.ref) (fun i σ H' => ∃ y1 y2 y3 y4 y5 y6 y7 y8 y9 : Option V, σ = [some (.ref a), y1, y2, y3, y4, y5, y6, y7, y8, y9] ∧ (∀ b o, b ∉ gs → H1 b = some o → H' b = some o) ∧
      ∀ j g, i ≤ j → gs[j]? = some g → Bag H' g 20000) ?_ ?_ ?_ ?_
    · exact ⟨none, none, none, none, none, none, none, none, none, rfl, fun b o _ h => h, fun j g _ hg => bg.bag g (List.mem_of_getElem? hg)⟩
    · rintro i σ H' _ ⟨_, _, _, _, _, _, _, _, _, _, k, _⟩
      exact sqL_of (k _ _ bg.np bg.lst)
    · rintro i x σ H2 hx ⟨y1, y2, y3, y4, y5, y6, y7, y8, y9, rfl, kk, bb⟩
      obtain ⟨g, hg, rfl⟩ : ∃ g, gs[i]? = some g ∧ x = V.ref g := by
        rw [List.getElem?_map] at hx
        cases e : gs[i]? with
        | none =>
          rw [e] at hx
          cases hx
        | some g =>
          rw [e] at hx
          exact ⟨g, rfl, (Option.some.inj hx).symm⟩
      have b2 : Bag H2 g 20000 := bb i g (Nat.le_refl _) hg
      refine ⟨_, rfl, g, 20000, rfl, b2, by decide, fun H3 r c d hcd b3 k3 hr0 hr3 => ?_⟩
      have rok : RuleOk c d := ⟨hcd.1, hcd.2.1, hcd.2.2.1, hcd.2.2.2⟩
      refine ⟨_, rfl, _, rfl, g, r, 60, c, d, 20004, rfl, b3, sqT_of hr3, ⟨rok.d1, rok.d2⟩, by decide, by decide, by decide, fun H4 l ns' lo _ b4 k4 hl4 => ?_⟩
      have hrt4 : SqT K H4 r [.int c, .int d] := k4.sqT b3 (sqT_of hr3)
      refine ⟨_, rfl, _, rfl, r, l, c, d, ns', rfl, hrt4, hl4, rok.c1, lo.len, fun H5 pp hpp Y => ?_⟩
      obtain ⟨R, L, rx, xs, z1, z2, z3, z4, z5, z6, z7, z8⟩ := Y.ex
      refine ⟨pp, _, rfl, sqT_of z1, rfl, _, _, rfl, _, _, rfl, rfl, ?_⟩
      have hrt5 := same_seqT Y.same hrt4
      have hl5 := same_seqT Y.same hl4
      have dd5 : Dp K H5 (.ref L) (.list ((fin c d ns').map dn)) := dp_pairs z7 z8
      have b5 := b4.same Y.same
      have lf := fin_len (c := c) (d := d) (ns := ns')
      have l60 := lo.len
      have okp : okd 3 (.list ((fin c d ns').map dn)) := okd_pairs (by omega)
      have shp := sh_pairs (fin c d ns')
      refine ⟨_, rfl, _, rfl, r, l, c, d, ns', rfl, hrt5, hl5, rok, lo, fun H6 T S => ?_⟩
      obtain ⟨ts, t1, t2⟩ := S.ex
      refine ⟨_, rfl, _, rfl, .ref T, .ref L, _, rfl, dp_pairs t1 t2, dp_same S.same dd5, okp, fun H7 s7 => ⟨_, rfl, iteF ?_⟩⟩
      have t7 := s7 _ _ t1
      refine ⟨_, rfl, .inl ⟨rfl, _, sqL_of t7⟩, T, ts, _, rfl, rfl, t7, ?_, ?_⟩
      · rw [pairs_len t2]
        exact small1000 (by omega)
      · have s8 : Same H5 (upd H7 T (.lst (ts ++ [.non]))) := same_mut (S.same.trans s7) S.free
        generalize upd H7 T (.lst (ts ++ [.non])) = H8 at s8
        refine ⟨_, rfl, _, rfl, r, l, c, d, ns', rfl, same_seqT s8 hrt5, same_seqT s8 hl5, rok, lo, fun H9 T2 S2 => ?_⟩
        obtain ⟨ts2, u1, u2⟩ := S2.ex
        refine ⟨_, rfl, _, _, dp_pairs u1 u2, dp_same (s8.trans S2.same) dd5, shaped_of shp, shaped_of shp, _, rfl, ?_⟩
        rw [eqv_self shp]
        refine iteF ?_
        have s9 : Same H5 H9 := s8.trans S2.same
        have b9 := b5.same s9
        refine ⟨_, rfl, _, rfl, _, rfl, g, r, l, c, d, 20004 + 300, ns', rfl, b9, by decide, same_seqT s9 hrt5, same_seqT s9 hl5, ⟨rok.d1, rok.d2⟩, lo, fun H10 M tms k10 b10 hM0 hMg hM tok tlen => ⟨90, rfl, M, _, rfl, sqL_of hM, fun M2 hM2 => ?_⟩⟩
        have hrt11 : SqT K (upd H10 M2 (.lst (cutV (tms.map V.int) none (some 90)))) r [.int c, .int d] := same_seqT (same_new hM2) (k10.sqT b9 (same_seqT s9 hrt5))
        have hl11 : SqT K (upd H10 M2 (.lst (cutV (tms.map V.int) none (some 90)))) l (ns'.map V.int) := same_seqT (same_new hM2) (k10.sqT b9 (same_seqT s9 hl5))
        have hM11 : (upd H10 M2 (.lst (cutV (tms.map V.int) none (some 90)))) M2 = some (.lst (cutV (tms.map V.int) none (some 90))) := upd_same
        have kAll : ∀ b o, b ≠ g → H2 b = some o → (upd H10 M2 (.lst (cutV (tms.map V.int) none (some 90)))) b = some o := fun b o nb e =>
          same_new hM2 _ _ (k10 _ _ nb (s9 _ _ (Y.same _ _ (k4 _ _ nb (k3 _ _ nb e)))))
        have sub := cut_sub (tms.map V.int) 90
        have sub : ∀ x ∈ cutV (tms.map V.int) none (some 90), x ∈ tms.map V.int := sub
        generalize cutV (tms.map V.int) none (some 90) = cms at hrt11 hl11 hM11 kAll sub ⊢
        generalize upd H10 M2 (.lst cms) = H11 at hrt11 hl11 hM11 kAll ⊢
        refine ⟨M2, rfl, ⟨_, sqL_of hM11⟩, ?_⟩
        refine for_list (K := K) (a := M2) (xs := cms) (fun j σ H' => ∃ v7 v8 v9 : Option V, σ = [some (.ref a), some (.ref g), some (.ref r), some (.ref l), some (.ref R), some (.ref L), some (.ref T), v7, v8, v9] ∧ Same H11 H') ?_ ?_ ?_ ?_
        · exact ⟨_, _, _, rfl, Same.refl _⟩
        · rintro j σ H' _ ⟨_, _, _, _, s⟩
          exact sqL_of (s _ _ hM11)
        · rintro j x σ H12 hx ⟨v7, v8, v9, rfl, s12⟩
          obtain ⟨t, ht, rfl⟩ := List.mem_map.mp (sub x (List.mem_of_getElem? hx))
          have tk := tok t ht
          have hrt12 := same_seqT s12 hrt11
          have hl12 := same_seqT s12 hl11
          have ul := uAt_le (c := c) (d := d) (ns := ns') (t := t)
          have pl := part_le (ns := ns') (t := t)
          have okl : okd 3 (.list ((lostAt c d ns' t).map PyData.int)) := okd_ints (by rw [lostAt_len]; omega)
          have shl := sh_ints (lostAt c d ns' t)
          refine ⟨_, rfl, _, rfl, _, rfl, r, l, c, d, t, ns', rfl, hrt12, hl12, rok.c1, lo.len, fun H13 D s13 hD => ?_⟩
          refine ⟨_, rfl, _, rfl, _, rfl, r, l, c, d, t, ns', rfl, same_seqT s13 hrt12, same_seqT s13 hl12, rok, lo, tk, fun H14 E s14 hE0 hE => ?_⟩
          have hD14 := s14 _ _ hD
          have s1214 := s13.trans s14
          refine ⟨_, rfl, _, rfl, .ref E, .ref D, _, rfl, dp_lst (sqL_of hE), dp_lst (sqL_of hD14), okl, fun H15 s15 => ⟨_, rfl, iteF ?_⟩⟩
          have s1215 := s1214.trans s15
          refine ⟨_, rfl, _, rfl, _, rfl, r, l, c, d, t, ns', rfl, same_seqT s1215 hrt12, same_seqT s1215 hl12, rok, lo, tk, fun H16 s16 => ?_⟩
          have hD16 := s16 _ _ (s15 _ _ hD14)
          refine ⟨_, rfl, D, _, rfl, .inl (sqL_of hD16), .int (uAt c d ns' t : Int), _, .int (uAt c d ns' t : Int), rfl, .int _, ?_, trivial, fun H17 s17 => ⟨_, rfl, iteF ?_⟩⟩
          · rw [List.length_map, lostAt_len]
            exact .int _
          have s1417 := (s15.trans s16).trans s17
          have hE17 := s1417 _ _ hE
          refine ⟨_, rfl, .inl ⟨rfl, _, sqL_of hE17⟩, E, _, _, rfl, rfl, hE17, ?_, ?_⟩
          · rw [List.length_map, lostAt_len]
            exact small1000 (by omega)
          · have s18 : Same H13 (upd H17 E (.lst ((lostAt c d ns' t).map V.int ++ [.int 0]))) := same_mut (s14.trans s1417) hE0
            generalize upd H17 E (.lst ((lostAt c d ns' t).map V.int ++ [.int 0])) = H18 at s18
            have s1218 := s13.trans s18
            refine ⟨_, rfl, _, rfl, _, rfl, r, l, c, d, t, ns', rfl, same_seqT s1218 hrt12, same_seqT s1218 hl12, rok, lo, tk, fun H19 E2 s19 _ hE2 => ?_⟩
            refine ⟨_, rfl, _, _, dp_lst (sqL_of hE2), dp_lst (sqL_of (s19 _ _ (s18 _ _ hD))), shaped_of shl, shaped_of shl, _, rfl, ?_⟩
            rw [eqv_self shl]
            refine iteF ?_
            have s1219 := s1218.trans s19
            refine ⟨_, rfl, _, rfl, _, rfl, r, l, c, d, t, ns', rfl, same_seqT s1219 hrt12, same_seqT s1219 hl12, rok, lo, tk, fun H20 s20 => ?_⟩
            have s1220 := s1219.trans s20
            refine ⟨_, rfl, _, rfl, _, rfl, r, l, c, d, t, ns', rfl, same_seqT s1220 hrt12, same_seqT s1220 hl12, rok.c1, lo.len, fun H21 s21 => ?_⟩
            refine ⟨_, _, _, rfl, .int _, .int _, trivial, fun H22 s22 => ⟨_, rfl, iteF ?_⟩⟩
            exact ⟨_, _, _, rfl, ((s12.trans s1220).trans s21).trans s22⟩
        · rintro σ H12 ⟨v7, v8, v9, rfl, s12⟩
          refine ⟨_, _, _, _, _, _, _, _, _, rfl, fun b o nb e => ?_, fun j g' hj hg' => ?_⟩
          · have nbg : b ≠ g := fun z => nb (z ▸ List.mem_of_getElem? hg)
            exact s12 _ _ (kAll _ _ nbg (kk _ _ nb e))
          · have ne : g' ≠ g := fun z => by
              rw [z] at hg'
              have := nd_ix bg.nd hg' hg
              omega
            obtain ⟨x1, x2, x3, e1, e2⟩ := bb j g' (by omega) hg'
            exact ⟨x1, x2, x3, s12 _ _ (kAll _ _ ne e1), e2⟩
    · rintro σ H2 ⟨y1, y2, y3, y4, y5, y6, y7, y8, y9, rfl, _, _⟩
      refine ⟨(by show 2 ≤ sizeLine; decide), fun A1 hA1 => ⟨(by show 6 ≤ sizeLine; decide), fun A2 hA2 => ?_⟩⟩
      refine ⟨A1, A2, 3, 10, [0, 2, 4, 20, 25, 40], rfl, same_seqT (same_new hA2) (sqT_of upd_same), sqT_of upd_same, ⟨by decide, by decide, by decide, by decide⟩, logOk_a, fun H3 T S => ?_⟩
      obtain ⟨ts, t1, t2⟩ := S.ex
      rw [fin_a] at t2
      have dT := dp_pairs t1 t2
      clear S t1 t2
      refine ⟨(by show 2 ≤ sizeLine; decide), fun B1 hB1 => ⟨(by show 2 ≤ sizeLine; decide), fun B2 hB2 => ⟨(by show 2 ≤ sizeLine; decide), fun B3 hB3 => ⟨(by show 3 ≤ sizeLine; decide), fun Z hZ => ?_⟩⟩⟩⟩
      have s1 := same_new (o := .tup [.int 4, .str "count"]) hB1
      have s2 := same_new (o := .tup [.int 35, .str "idle"]) hB2
      have s3 := same_new (o := .tup [.int 50, .str "idle"]) hB3
      have s4 := same_new (o := .lst [.ref B1, .ref B2, .ref B3]) hZ
      have shp := sh_pairs [(4, false), (35, true), (50, true)]
      refine ⟨_, _, dp_same (((s1.trans s2).trans s3).trans s4) dT, dp_pairs (l := [(4, false), (35, true), (50, true)]) upd_same (.cons ⟨B1, rfl, ?_⟩ (.cons ⟨B2, rfl, ?_⟩ (.cons ⟨B3, rfl, ?_⟩ .nil))), shaped_of shp, shaped_of shp, _, rfl, ?_⟩
      · exact same_seqT s4 (same_seqT s3 (same_seqT s2 (sqT_of upd_same)))
      · exact same_seqT s4 (same_seqT s3 (sqT_of upd_same))
      · exact same_seqT s4 (sqT_of upd_same)
      rw [eqv_self shp]
      refine iteF ?_
      clear dT
      generalize upd (upd (upd (upd H3 B1 (.tup [.int 4, .str "count"])) B2 (.tup [.int 35, .str "idle"])) B3 (.tup [.int 50, .str "idle"])) Z (.lst [.ref B1, .ref B2, .ref B3]) = H4
      refine ⟨(by show 2 ≤ sizeLine; decide), fun A3 hA3 => ⟨(by show 2 ≤ sizeLine; decide), fun A4 hA4 => ?_⟩⟩
      refine ⟨A3, A4, 2, 5, [0, 5], rfl, same_seqT (same_new hA4) (sqT_of upd_same), sqT_of upd_same, ⟨by decide, by decide, by decide, by decide⟩, logOk_b, fun H5 T5 S5 => ?_⟩
      obtain ⟨ts5, t51, t52⟩ := S5.ex
      rw [fin_b] at t52
      have dT5 := dp_pairs t51 t52
      refine ⟨(by show 2 ≤ sizeLine; decide), fun C1 hC1 => ⟨(by show 2 ≤ sizeLine; decide), fun C2 hC2 => ⟨(by show 2 ≤ sizeLine; decide), fun Z2 hZ2 => ?_⟩⟩⟩
      have q1 := same_new (o := .tup [.int 5, .str "idle"]) hC1
      have q2 := same_new (o := .tup [.int 10, .str "idle"]) hC2
      have q3 := same_new (o := .lst [.ref C1, .ref C2]) hZ2
      have shb := sh_pairs [(5, true), (10, true)]
      refine ⟨_, _, dp_same ((q1.trans q2).trans q3) dT5, dp_pairs (l := [(5, true), (10, true)]) upd_same (.cons ⟨C1, rfl, ?_⟩ (.cons ⟨C2, rfl, ?_⟩ .nil)), shaped_of shb, shaped_of shb, ?_⟩
      · exact same_seqT q3 (same_seqT q2 (sqT_of upd_same))
      · exact same_seqT q3 (sqT_of upd_same)
      rw [eqv_self shb]
      refine ⟨_, rfl, iteT ?_⟩
      generalize upd (upd (upd H5 C1 (.tup [.int 5, .str "idle"])) C2 (.tup [.int 10, .str "idle"])) Z2 (.lst [.ref C1, .ref C2]) = H6
      refine ⟨(by show 2 ≤ sizeLine; decide), fun A5 hA5 => ⟨(by show 2 ≤ sizeLine; decide), fun A6 hA6 => ?_⟩⟩
      refine ⟨A5, A6, 2, 6, [0, 5], rfl, same_seqT (same_new hA6) (sqT_of upd_same), sqT_of upd_same, ⟨by decide, by decide, by decide, by decide⟩, logOk_b, fun H7 T7 S7 => ?_⟩
      obtain ⟨ts7, t71, t72⟩ := S7.ex
      rw [fin_c] at t72
      have dT7 := dp_pairs t71 t72
      refine ⟨(by show 2 ≤ sizeLine; decide), fun D1 hD1 => ⟨(by show 1 ≤ sizeLine; decide), fun Z3 hZ3 => ?_⟩⟩
      have r1 := same_new (o := .tup [.int 5, .str "count"]) hD1
      have r3 := same_new (o := .lst [.ref D1]) hZ3
      have shc := sh_pairs [(5, false)]
      refine ⟨_, _, dp_same (r1.trans r3) dT7, dp_pairs (l := [(5, false)]) upd_same (.cons ⟨D1, rfl, ?_⟩ .nil), shaped_of shc, shaped_of shc, ?_⟩
      · exact same_seqT r3 (sqT_of upd_same)
      rw [eqv_self shc]
      exact q _
end
end Au
set_option maxHeartbeats 8000000
/-! The end. -/
namespace Au
open PySem PySem.Spec PyProof.Rows L2
theorem defT_mk {K : PySem.W.Frag} {h : Heap} {mg : Str → Option Value} {x : Str} {st : Stmt} {ps : List Str} {f : Addr} {oc : Value} {od an : Option Addr} {osl : Array (Option Value)} {kV doc pm cdv ct : Value} (X : K.In h) (G : h.Ns mainGlobals mg)
    (a : PySem.W.nsIn K mainGlobals x = some (some (.ref f))) (l : K.lookup f = some ⟨oc, od, .func (PySem.W.fnOf x x (defArgs st) (defBody st) (defScope st) .none kV doc pm an cdv ct), osl⟩) (c : PySem.W.codeIn K cdv x = true) (k : PySem.W.keepIn K (.ref f) = true)
    (b : ∀ (kV doc pm : Value) (an : Option Addr) (cdv ct : Value) (us : List Value), us.length = ps.length → bindArgs (PySem.W.fnOf x x (defArgs st) (defBody st) (defScope st) .none kV doc pm an cdv ct) ⟨us, []⟩ = pure (ps.zip us)) : DefT K mg x st ps :=
  ⟨f, _, fun_mk l c k, PySem.W.mg_of X G a, (fun_mk (st := st) l c k).binds b⟩
theorem all_mk {l : PySem.W.OpenLaw} {w : World} {K : PySem.W.Frag} {h : Heap} {mg : Str → Option Value} {fa f0 f1 f2 f3 f4 f5 f6 f7 f8 f9 f10 f11 f12 f13 f14 f15 f16 f17 f18 f19 f20 f21 f22 : Addr} {od0 an0 od1 an1 od2 an2 od3 an3 od4 an4 od5 an5 od6 an6 od7 an7 od8 an8 od9 an9 od10 an10 od11 an11 od12 an12 od13 an13 od14 an14 od15 an15 od16 an16 od17 an17 od18 an18 od19 an19 od20 an20 od21 an21 od22 an22 : Option Addr} {sl0 sl1 sl2 sl3 sl4 sl5 sl6 sl7 sl8 sl9 sl10 sl11 sl12 sl13 sl14 sl15 sl16 sl17 sl18 sl19 sl20 sl21 sl22 : Array (Option Value)} {oc0 kV0 dc0 pm0 cd0 ct0 oc1 kV1 dc1 pm1 cd1 ct1 oc2 kV2 dc2 pm2 cd2 ct2 oc3 kV3 dc3 pm3 cd3 ct3 oc4 kV4 dc4 pm4 cd4 ct4 oc5 kV5 dc5 pm5 cd5 ct5 oc6 kV6 dc6 pm6 cd6 ct6 oc7 kV7 dc7 pm7 cd7 ct7 oc8 kV8 dc8 pm8 cd8 ct8 oc9 kV9 dc9 pm9 cd9 ct9 oc10 kV10 dc10 pm10 cd10 ct10 oc11 kV11 dc11 pm11 cd11 ct11 oc12 kV12 dc12 pm12 cd12 ct12 oc13 kV13 dc13 pm13 cd13 ct13 oc14 kV14 dc14 pm14 cd14 ct14 oc15 kV15 dc15 pm15 cd15 ct15 oc16 kV16 dc16 pm16 cd16 ct16 oc17 kV17 dc17 pm17 cd17 ct17 oc18 kV18 dc18 pm18 cd18 ct18 oc19 kV19 dc19 pm19 cd19 ct19 oc20 kV20 dc20 pm20 cd20 ct20 oc21 kV21 dc21 pm21 cd21 ct21 oc22 kV22 dc22 pm22 cd22 ct22 : Value} (X : K.In h) (G : h.Ns mainGlobals mg) (hfa : mg "law" = some (.ref fa))
    (a0 : PySem.W.nsIn K mainGlobals "in_range" = some (some (.ref f0))) (l0 : K.lookup f0 = some ⟨oc0, od0, .func (PySem.W.fnOf "in_range" "in_range" (defArgs s_in_range) (defBody s_in_range) (defScope s_in_range) .none kV0 dc0 pm0 an0 cd0 ct0), sl0⟩) (c0 : PySem.W.codeIn K cd0 "in_range" = true) (k0 : PySem.W.keepIn K (.ref f0) = true)
    (a1 : PySem.W.nsIn K mainGlobals "is_rule" = some (some (.ref f1))) (l1 : K.lookup f1 = some ⟨oc1, od1, .func (PySem.W.fnOf "is_rule" "is_rule" (defArgs s_is_rule) (defBody s_is_rule) (defScope s_is_rule) .none kV1 dc1 pm1 an1 cd1 ct1), sl1⟩) (c1 : PySem.W.codeIn K cd1 "is_rule" = true) (k1 : PySem.W.keepIn K (.ref f1) = true)
    (a2 : PySem.W.nsIn K mainGlobals "is_log" = some (some (.ref f2))) (l2 : K.lookup f2 = some ⟨oc2, od2, .func (PySem.W.fnOf "is_log" "is_log" (defArgs s_is_log) (defBody s_is_log) (defScope s_is_log) .none kV2 dc2 pm2 an2 cd2 ct2), sl2⟩) (c2 : PySem.W.codeIn K cd2 "is_log" = true) (k2 : PySem.W.keepIn K (.ref f2) = true)
    (a3 : PySem.W.nsIn K mainGlobals "check_rule" = some (some (.ref f3))) (l3 : K.lookup f3 = some ⟨oc3, od3, .func (PySem.W.fnOf "check_rule" "check_rule" (defArgs s_check_rule) (defBody s_check_rule) (defScope s_check_rule) .none kV3 dc3 pm3 an3 cd3 ct3), sl3⟩) (c3 : PySem.W.codeIn K cd3 "check_rule" = true) (k3 : PySem.W.keepIn K (.ref f3) = true)
    (a4 : PySem.W.nsIn K mainGlobals "check_log" = some (some (.ref f4))) (l4 : K.lookup f4 = some ⟨oc4, od4, .func (PySem.W.fnOf "check_log" "check_log" (defArgs s_check_log) (defBody s_check_log) (defScope s_check_log) .none kV4 dc4 pm4 an4 cd4 ct4), sl4⟩) (c4 : PySem.W.codeIn K cd4 "check_log" = true) (k4 : PySem.W.keepIn K (.ref f4) = true)
    (a5 : PySem.W.nsIn K mainGlobals "check_time" = some (some (.ref f5))) (l5 : K.lookup f5 = some ⟨oc5, od5, .func (PySem.W.fnOf "check_time" "check_time" (defArgs s_check_time) (defBody s_check_time) (defScope s_check_time) .none kV5 dc5 pm5 an5 cd5 ct5), sl5⟩) (c5 : PySem.W.codeIn K cd5 "check_time" = true) (k5 : PySem.W.keepIn K (.ref f5) = true)
    (a6 : PySem.W.nsIn K mainGlobals "played" = some (some (.ref f6))) (l6 : K.lookup f6 = some ⟨oc6, od6, .func (PySem.W.fnOf "played" "played" (defArgs s_played) (defBody s_played) (defScope s_played) .none kV6 dc6 pm6 an6 cd6 ct6), sl6⟩) (c6 : PySem.W.codeIn K cd6 "played" = true) (k6 : PySem.W.keepIn K (.ref f6) = true)
    (a7 : PySem.W.nsIn K mainGlobals "unsaved_at" = some (some (.ref f7))) (l7 : K.lookup f7 = some ⟨oc7, od7, .func (PySem.W.fnOf "unsaved_at" "unsaved_at" (defArgs s_unsaved_at) (defBody s_unsaved_at) (defScope s_unsaved_at) .none kV7 dc7 pm7 an7 cd7 ct7), sl7⟩) (c7 : PySem.W.codeIn K cd7 "unsaved_at" = true) (k7 : PySem.W.keepIn K (.ref f7) = true)
    (a8 : PySem.W.nsIn K mainGlobals "unsaved" = some (some (.ref f8))) (l8 : K.lookup f8 = some ⟨oc8, od8, .func (PySem.W.fnOf "unsaved" "unsaved" (defArgs s_unsaved) (defBody s_unsaved) (defScope s_unsaved) .none kV8 dc8 pm8 an8 cd8 ct8), sl8⟩) (c8 : PySem.W.codeIn K cd8 "unsaved" = true) (k8 : PySem.W.keepIn K (.ref f8) = true)
    (a9 : PySem.W.nsIn K mainGlobals "lost" = some (some (.ref f9))) (l9 : K.lookup f9 = some ⟨oc9, od9, .func (PySem.W.fnOf "lost" "lost" (defArgs s_lost) (defBody s_lost) (defScope s_lost) .none kV9 dc9 pm9 an9 cd9 ct9), sl9⟩) (c9 : PySem.W.codeIn K cd9 "lost" = true) (k9 : PySem.W.keepIn K (.ref f9) = true)
    (a10 : PySem.W.nsIn K mainGlobals "saves" = some (some (.ref f10))) (l10 : K.lookup f10 = some ⟨oc10, od10, .func (PySem.W.fnOf "saves" "saves" (defArgs s_saves) (defBody s_saves) (defScope s_saves) .none kV10 dc10 pm10 an10 cd10 ct10), sl10⟩) (c10 : PySem.W.codeIn K cd10 "saves" = true) (k10 : PySem.W.keepIn K (.ref f10) = true)
    (a11 : PySem.W.nsIn K mainGlobals "saves_until" = some (some (.ref f11))) (l11 : K.lookup f11 = some ⟨oc11, od11, .func (PySem.W.fnOf "saves_until" "saves_until" (defArgs s_saves_until) (defBody s_saves_until) (defScope s_saves_until) .none kV11 dc11 pm11 an11 cd11 ct11), sl11⟩) (c11 : PySem.W.codeIn K cd11 "saves_until" = true) (k11 : PySem.W.keepIn K (.ref f11) = true)
    (a12 : PySem.W.nsIn K mainGlobals "_law_well" = some (some (.ref f12))) (l12 : K.lookup f12 = some ⟨oc12, od12, .func (PySem.W.fnOf "_law_well" "_law_well" (defArgs s_law_well) (defBody s_law_well) (defScope s_law_well) .none kV12 dc12 pm12 an12 cd12 ct12), sl12⟩) (c12 : PySem.W.codeIn K cd12 "_law_well" = true) (k12 : PySem.W.keepIn K (.ref f12) = true)
    (a13 : PySem.W.nsIn K mainGlobals "_law_take" = some (some (.ref f13))) (l13 : K.lookup f13 = some ⟨oc13, od13, .func (PySem.W.fnOf "_law_take" "_law_take" (defArgs s_law_take) (defBody s_law_take) (defScope s_law_take) .none kV13 dc13 pm13 an13 cd13 ct13), sl13⟩) (c13 : PySem.W.codeIn K cd13 "_law_take" = true) (k13 : PySem.W.keepIn K (.ref f13) = true)
    (a14 : PySem.W.nsIn K mainGlobals "_law_bags" = some (some (.ref f14))) (l14 : K.lookup f14 = some ⟨oc14, od14, .func (PySem.W.fnOf "_law_bags" "_law_bags" (defArgs s_law_bags) (defBody s_law_bags) (defScope s_law_bags) .none kV14 dc14 pm14 an14 cd14 ct14), sl14⟩) (c14 : PySem.W.codeIn K cd14 "_law_bags" = true) (k14 : PySem.W.keepIn K (.ref f14) = true)
    (a15 : PySem.W.nsIn K mainGlobals "_law_same" = some (some (.ref f15))) (l15 : K.lookup f15 = some ⟨oc15, od15, .func (PySem.W.fnOf "_law_same" "_law_same" (defArgs s_law_same) (defBody s_law_same) (defScope s_law_same) .none kV15 dc15 pm15 an15 cd15 ct15), sl15⟩) (c15 : PySem.W.codeIn K cd15 "_law_same" = true) (k15 : PySem.W.keepIn K (.ref f15) = true)
    (a16 : PySem.W.nsIn K mainGlobals "_law_rule" = some (some (.ref f16))) (l16 : K.lookup f16 = some ⟨oc16, od16, .func (PySem.W.fnOf "_law_rule" "_law_rule" (defArgs s_law_rule) (defBody s_law_rule) (defScope s_law_rule) .none kV16 dc16 pm16 an16 cd16 ct16), sl16⟩) (c16 : PySem.W.codeIn K cd16 "_law_rule" = true) (k16 : PySem.W.keepIn K (.ref f16) = true)
    (a17 : PySem.W.nsIn K mainGlobals "_law_log" = some (some (.ref f17))) (l17 : K.lookup f17 = some ⟨oc17, od17, .func (PySem.W.fnOf "_law_log" "_law_log" (defArgs s_law_log) (defBody s_law_log) (defScope s_law_log) .none kV17 dc17 pm17 an17 cd17 ct17), sl17⟩) (c17 : PySem.W.codeIn K cd17 "_law_log" = true) (k17 : PySem.W.keepIn K (.ref f17) = true)
    (a18 : PySem.W.nsIn K mainGlobals "_law_play" = some (some (.ref f18))) (l18 : K.lookup f18 = some ⟨oc18, od18, .func (PySem.W.fnOf "_law_play" "_law_play" (defArgs s_law_play) (defBody s_law_play) (defScope s_law_play) .none kV18 dc18 pm18 an18 cd18 ct18), sl18⟩) (c18 : PySem.W.codeIn K cd18 "_law_play" = true) (k18 : PySem.W.keepIn K (.ref f18) = true)
    (a19 : PySem.W.nsIn K mainGlobals "_law_open" = some (some (.ref f19))) (l19 : K.lookup f19 = some ⟨oc19, od19, .func (PySem.W.fnOf "_law_open" "_law_open" (defArgs s_law_open) (defBody s_law_open) (defScope s_law_open) .none kV19 dc19 pm19 an19 cd19 ct19), sl19⟩) (c19 : PySem.W.codeIn K cd19 "_law_open" = true) (k19 : PySem.W.keepIn K (.ref f19) = true)
    (a20 : PySem.W.nsIn K mainGlobals "_law_moments" = some (some (.ref f20))) (l20 : K.lookup f20 = some ⟨oc20, od20, .func (PySem.W.fnOf "_law_moments" "_law_moments" (defArgs s_law_moments) (defBody s_law_moments) (defScope s_law_moments) .none kV20 dc20 pm20 an20 cd20 ct20), sl20⟩) (c20 : PySem.W.codeIn K cd20 "_law_moments" = true) (k20 : PySem.W.keepIn K (.ref f20) = true)
    (a21 : PySem.W.nsIn K mainGlobals "_law_many" = some (some (.ref f21))) (l21 : K.lookup f21 = some ⟨oc21, od21, .func (PySem.W.fnOf "_law_many" "_law_many" (defArgs s_law_many) (defBody s_law_many) (defScope s_law_many) .none kV21 dc21 pm21 an21 cd21 ct21), sl21⟩) (c21 : PySem.W.codeIn K cd21 "_law_many" = true) (k21 : PySem.W.keepIn K (.ref f21) = true)
    (a22 : PySem.W.nsIn K mainGlobals "law" = some (some (.ref f22))) (l22 : K.lookup f22 = some ⟨oc22, od22, .func (PySem.W.fnOf "law" "law" (defArgs s_law) (defBody s_law) (defScope s_law) .none kV22 dc22 pm22 an22 cd22 ct22), sl22⟩) (c22 : PySem.W.codeIn K cd22 "law" = true) (k22 : PySem.W.keepIn K (.ref f22) = true)
    (m_isinstance : PySem.W.nsIn K mainGlobals "isinstance" = some none)
    (m_int : PySem.W.nsIn K mainGlobals "int" = some none)
    (m_bool : PySem.W.nsIn K mainGlobals "bool" = some none)
    (m_str : PySem.W.nsIn K mainGlobals "str" = some none)
    (m_list : PySem.W.nsIn K mainGlobals "list" = some none)
    (m_tuple : PySem.W.nsIn K mainGlobals "tuple" = some none)
    (m_len : PySem.W.nsIn K mainGlobals "len" = some none)
    (m_all : PySem.W.nsIn K mainGlobals "all" = some none)
    (m_zip : PySem.W.nsIn K mainGlobals "zip" = some none)
    (m_enumerate : PySem.W.nsIn K mainGlobals "enumerate" = some none)
    (m_range : PySem.W.nsIn K mainGlobals "range" = some none)
    (m_max : PySem.W.nsIn K mainGlobals "max" = some none)
    {t_MOST_COUNT : Tok} (g_MOST_COUNT : PySem.W.nsIn K mainGlobals "MOST_COUNT" = some (some (.int 20 t_MOST_COUNT)))
    {t_MOST_IDLE : Tok} (g_MOST_IDLE : PySem.W.nsIn K mainGlobals "MOST_IDLE" = some (some (.int 1000 t_MOST_IDLE)))
    {t_MOST_EDITS : Tok} (g_MOST_EDITS : PySem.W.nsIn K mainGlobals "MOST_EDITS" = some (some (.int 60 t_MOST_EDITS)))
    {t_LAST : Tok} (g_LAST : PySem.W.nsIn K mainGlobals "LAST" = some (some (.int 1000000 t_LAST)))
    {t_FAR : Tok} (g_FAR : PySem.W.nsIn K mainGlobals "FAR" = some (some (.int 1000000000 t_FAR)))
    : ∃ fd : FuncData, (∀ (s : Shared) (v : Value), BindsTo s fd ⟨[v], []⟩ [("_law_script", v)]) ∧ ∀ base : Heap, K.In base → base.Ns mainGlobals mg → FnOk l.prog w K mg base CX0 5 fa fd ["_law_script"] (spLaw K) := by
  have e := hfa.symm.trans (PySem.W.mg_of X G a22)
  cases e
  have B : Blt mg := { m_isinstance := PySem.W.mg_none_of X G m_isinstance, m_int := PySem.W.mg_none_of X G m_int, m_bool := PySem.W.mg_none_of X G m_bool, m_str := PySem.W.mg_none_of X G m_str, m_list := PySem.W.mg_none_of X G m_list, m_tuple := PySem.W.mg_none_of X G m_tuple, m_len := PySem.W.mg_none_of X G m_len, m_all := PySem.W.mg_none_of X G m_all, m_zip := PySem.W.mg_none_of X G m_zip, m_enumerate := PySem.W.mg_none_of X G m_enumerate, m_range := PySem.W.mg_none_of X G m_range, m_max := PySem.W.mg_none_of X G m_max, g_MOST_COUNT := ⟨_, PySem.W.mg_of X G g_MOST_COUNT, ⟨_, rfl⟩⟩, g_MOST_IDLE := ⟨_, PySem.W.mg_of X G g_MOST_IDLE, ⟨_, rfl⟩⟩, g_MOST_EDITS := ⟨_, PySem.W.mg_of X G g_MOST_EDITS, ⟨_, rfl⟩⟩, g_LAST := ⟨_, PySem.W.mg_of X G g_LAST, ⟨_, rfl⟩⟩, g_FAR := ⟨_, PySem.W.mg_of X G g_FAR, ⟨_, rfl⟩⟩ }
  have d0 : DefT K mg "in_range" s_in_range ["value", "low", "high"] := defT_mk X G a0 l0 c0 k0 fun _ _ _ _ _ _ us hl => match us, hl with | [_, _, _], _ => rfl
  have d1 : DefT K mg "is_rule" s_is_rule ["value"] := defT_mk X G a1 l1 c1 k1 fun _ _ _ _ _ _ us hl => match us, hl with | [_], _ => rfl
  have d2 : DefT K mg "is_log" s_is_log ["value"] := defT_mk X G a2 l2 c2 k2 fun _ _ _ _ _ _ us hl => match us, hl with | [_], _ => rfl
  have d3 : DefT K mg "check_rule" s_check_rule ["value"] := defT_mk X G a3 l3 c3 k3 fun _ _ _ _ _ _ us hl => match us, hl with | [_], _ => rfl
  have d4 : DefT K mg "check_log" s_check_log ["value"] := defT_mk X G a4 l4 c4 k4 fun _ _ _ _ _ _ us hl => match us, hl with | [_], _ => rfl
  have d5 : DefT K mg "check_time" s_check_time ["value"] := defT_mk X G a5 l5 c5 k5 fun _ _ _ _ _ _ us hl => match us, hl with | [_], _ => rfl
  have d6 : DefT K mg "played" s_played ["rule", "log"] := defT_mk X G a6 l6 c6 k6 fun _ _ _ _ _ _ us hl => match us, hl with | [_, _], _ => rfl
  have d7 : DefT K mg "unsaved_at" s_unsaved_at ["rule", "log", "time"] := defT_mk X G a7 l7 c7 k7 fun _ _ _ _ _ _ us hl => match us, hl with | [_, _, _], _ => rfl
  have d8 : DefT K mg "unsaved" s_unsaved ["rule", "log", "time"] := defT_mk X G a8 l8 c8 k8 fun _ _ _ _ _ _ us hl => match us, hl with | [_, _, _], _ => rfl
  have d9 : DefT K mg "lost" s_lost ["rule", "log", "time"] := defT_mk X G a9 l9 c9 k9 fun _ _ _ _ _ _ us hl => match us, hl with | [_, _, _], _ => rfl
  have d10 : DefT K mg "saves" s_saves ["rule", "log"] := defT_mk X G a10 l10 c10 k10 fun _ _ _ _ _ _ us hl => match us, hl with | [_, _], _ => rfl
  have d11 : DefT K mg "saves_until" s_saves_until ["rule", "log", "time"] := defT_mk X G a11 l11 c11 k11 fun _ _ _ _ _ _ us hl => match us, hl with | [_, _, _], _ => rfl
  have d12 : DefT K mg "_law_well" s_law_well ["_law_cell", "_law_turn"] := defT_mk X G a12 l12 c12 k12 fun _ _ _ _ _ _ us hl => match us, hl with | [_, _], _ => rfl
  have d13 : DefT K mg "_law_take" s_law_take ["_law_bag", "_law_many_here"] := defT_mk X G a13 l13 c13 k13 fun _ _ _ _ _ _ us hl => match us, hl with | [_, _], _ => rfl
  have d14 : DefT K mg "_law_bags" s_law_bags ["_law_script", "_law_most"] := defT_mk X G a14 l14 c14 k14 fun _ _ _ _ _ _ us hl => match us, hl with | [_, _], _ => rfl
  have d15 : DefT K mg "_law_same" s_law_same ["_law_a", "_law_b"] := defT_mk X G a15 l15 c15 k15 fun _ _ _ _ _ _ us hl => match us, hl with | [_, _], _ => rfl
  have d16 : DefT K mg "_law_rule" s_law_rule ["_law_bag"] := defT_mk X G a16 l16 c16 k16 fun _ _ _ _ _ _ us hl => match us, hl with | [_], _ => rfl
  have d17 : DefT K mg "_law_log" s_law_log ["_law_bag", "_law_most", "_law_rule_here"] := defT_mk X G a17 l17 c17 k17 fun _ _ _ _ _ _ us hl => match us, hl with | [_, _, _], _ => rfl
  have d18 : DefT K mg "_law_play" s_law_play ["_law_rule_here", "_law_log_here"] := defT_mk X G a18 l18 c18 k18 fun _ _ _ _ _ _ us hl => match us, hl with | [_, _], _ => rfl
  have d19 : DefT K mg "_law_open" s_law_open ["_law_rule_here", "_law_log_here", "_law_time"] := defT_mk X G a19 l19 c19 k19 fun _ _ _ _ _ _ us hl => match us, hl with | [_, _, _], _ => rfl
  have d20 : DefT K mg "_law_moments" s_law_moments ["_law_bag", "_law_rule_here", "_law_log_here"] := defT_mk X G a20 l20 c20 k20 fun _ _ _ _ _ _ us hl => match us, hl with | [_, _, _], _ => rfl
  have d21 : DefT K mg "_law_many" s_law_many ["_law_rule_here", "_law_log_here", "_law_time"] := defT_mk X G a21 l21 c21 k21 fun _ _ _ _ _ _ us hl => match us, hl with | [_, _, _], _ => rfl
  refine ⟨PySem.W.fnOf "law" "law" (defArgs s_law) (defBody s_law) (defScope s_law) .none kV22 dc22 pm22 an22 cd22 ct22, fun s v => .of_eq rfl, fun base _ _ => ?_⟩
  have c_in_range := ok_in_range (P := l.prog) (w := w) (base := base) B d0
  have c_is_rule := ok_is_rule B d1 c_in_range
  have c_is_log := ok_is_log B d2 c_in_range
  have c_check_rule := ok_check_rule B d3 c_is_rule
  have c_check_log := ok_check_log B d4 c_is_log
  have c_check_time := ok_check_time B d5 c_in_range
  have c_played := ok_played (P := l.prog) (w := w) (base := base) B d6
  have c_unsaved_at := ok_unsaved_at B d7 c_played
  have c_unsaved := ok_unsaved B d8 c_check_rule c_check_log c_check_time c_unsaved_at
  have c_lost := ok_lost B d9 c_check_rule c_check_log c_check_time c_unsaved_at
  have c_saves := ok_saves B d10 c_check_rule c_check_log c_played
  have c_saves_until := ok_saves_until B d11 c_check_rule c_check_log c_check_time c_played
  have c_law_well := ok_well (P := l.prog) (w := w) (base := base) B d12
  have c_law_take := ok_take (P := l.prog) (w := w) (base := base) B d13
  have c_law_bags := ok_bags B d14 c_law_well
  have c_law_same := ok_same (P := l.prog) (w := w) (base := base) B d15 3
  have c_law_rule := ok_rule B d16 c_law_take
  have c_law_log := ok_log B d17 c_law_take
  have c_law_play := ok_lplay (P := l.prog) (w := w) (base := base) B d18
  have c_law_open := ok_lopen B d19 c_law_play
  have c_law_moments := ok_moments B d20 c_law_take
  have c_law_many := ok_lmany B d21 c_law_play
  exact ok_law B (fun_mk l22 c22 k22) c_law_bags c_law_rule c_law_log c_law_play c_saves c_law_same c_law_moments c_law_open c_lost c_unsaved c_saves_until c_law_many
theorem walk {l : PySem.W.OpenLaw} {q : Program} {loose : List Str} {XP : (Str → Option Value) → Heap → Prop} {YP : World → Heap → Prop} {d : DefRec} {K : Params → PySem.W.Frag} (hn : l.most = some 63) (hdf : d.params.defaults = [])
    (hY : ∀ (w : World) (h : Heap), YP w h → (K w.params).In h)
    (F : ∀ (w : World) (mg : Str → Option Value) (fa : Addr) (h : Heap), (K w.params).In h → h.Ns mainGlobals mg → mg d.name = some (.ref fa) →
      ∃ fd : FuncData, (∀ (s : Shared) (u : Value), BindsTo s fd ⟨[u], []⟩ [("_law_script", u)]) ∧ ∀ base : Heap, (K w.params).In base → base.Ns mainGlobals mg → FnOk l.prog w (K w.params) mg base CX0 5 fa fd ["_law_script"] (spLaw (K w.params))) :
    PySem.W.WalkO q loose XP YP l.row.toRowW d [] (fun f vs => PySem.call f vs) :=
  L2.walk_of (n := 63) (k := 5) (x := "_law_script") (CX := fun _ => CX0) (sp := fun w => spLaw (K w.params)) hn (by decide) hdf ⟨rfl, by decide, by decide⟩ hY F (fun _ _ a ns hl _ hS => ⟨a, ns, rfl, hS, hl, fun _ => rfl⟩) fun _ _ _ _ _ z => z
end Au
open PySem PySem.W PyProof.Rows
set_option maxRecDepth 100000 in
set_option maxHeartbeats 0 in
theorem PySem.Challenge.cw_autosaves_k03_saves_and_unsaved_edits_holds : PySem.Challenge.rw_autosaves_k03_saves_and_unsaved_edits.Holds := by
  w_on; o_law; k_head; (case hw => w_witness2)
  k_fill
  refine Au.walk (l := PySem.Challenge.rw_autosaves_k03_saves_and_unsaved_edits) rfl rfl (fun w h Y => PySem.W.kIn_of Y) ?F
  case F =>
    intro w mg fa h KX G hmg
    refine' Au.all_mk KX G hmg ?a0 ?l0 ?c0 ?k0 ?a1 ?l1 ?c1 ?k1 ?a2 ?l2 ?c2 ?k2 ?a3 ?l3 ?c3 ?k3 ?a4 ?l4 ?c4 ?k4 ?a5 ?l5 ?c5 ?k5 ?a6 ?l6 ?c6 ?k6 ?a7 ?l7 ?c7 ?k7 ?a8 ?l8 ?c8 ?k8 ?a9 ?l9 ?c9 ?k9 ?a10 ?l10 ?c10 ?k10 ?a11 ?l11 ?c11 ?k11 ?a12 ?l12 ?c12 ?k12 ?a13 ?l13 ?c13 ?k13 ?a14 ?l14 ?c14 ?k14 ?a15 ?l15 ?c15 ?k15 ?a16 ?l16 ?c16 ?k16 ?a17 ?l17 ?c17 ?k17 ?a18 ?l18 ?c18 ?k18 ?a19 ?l19 ?c19 ?k19 ?a20 ?l20 ?c20 ?k20 ?a21 ?l21 ?c21 ?k21 ?a22 ?l22 ?c22 ?k22 ?m_isinstance ?m_int ?m_bool ?m_str ?m_list ?m_tuple ?m_len ?m_all ?m_zip ?m_enumerate ?m_range ?m_max ?g_MOST_COUNT ?g_MOST_IDLE ?g_MOST_EDITS ?g_LAST ?g_FAR
    (case a0 => k_is)
    (case l0 => k_is)
    (case c0 => k_is)
    (case k0 => k_is)
    (case a1 => k_is)
    (case l1 => k_is)
    (case c1 => k_is)
    (case k1 => k_is)
    (case a2 => k_is)
    (case l2 => k_is)
    (case c2 => k_is)
    (case k2 => k_is)
    (case a3 => k_is)
    (case l3 => k_is)
    (case c3 => k_is)
    (case k3 => k_is)
    (case a4 => k_is)
    (case l4 => k_is)
    (case c4 => k_is)
    (case k4 => k_is)
    (case a5 => k_is)
    (case l5 => k_is)
    (case c5 => k_is)
    (case k5 => k_is)
    (case a6 => k_is)
    (case l6 => k_is)
    (case c6 => k_is)
    (case k6 => k_is)
    (case a7 => k_is)
    (case l7 => k_is)
    (case c7 => k_is)
    (case k7 => k_is)
    (case a8 => k_is)
    (case l8 => k_is)
    (case c8 => k_is)
    (case k8 => k_is)
    (case a9 => k_is)
    (case l9 => k_is)
    (case c9 => k_is)
    (case k9 => k_is)
    (case a10 => k_is)
    (case l10 => k_is)
    (case c10 => k_is)
    (case k10 => k_is)
    (case a11 => k_is)
    (case l11 => k_is)
    (case c11 => k_is)
    (case k11 => k_is)
    (case a12 => k_is)
    (case l12 => k_is)
    (case c12 => k_is)
    (case k12 => k_is)
    (case a13 => k_is)
    (case l13 => k_is)
    (case c13 => k_is)
    (case k13 => k_is)
    (case a14 => k_is)
    (case l14 => k_is)
    (case c14 => k_is)
    (case k14 => k_is)
    (case a15 => k_is)
    (case l15 => k_is)
    (case c15 => k_is)
    (case k15 => k_is)
    (case a16 => k_is)
    (case l16 => k_is)
    (case c16 => k_is)
    (case k16 => k_is)
    (case a17 => k_is)
    (case l17 => k_is)
    (case c17 => k_is)
    (case k17 => k_is)
    (case a18 => k_is)
    (case l18 => k_is)
    (case c18 => k_is)
    (case k18 => k_is)
    (case a19 => k_is)
    (case l19 => k_is)
    (case c19 => k_is)
    (case k19 => k_is)
    (case a20 => k_is)
    (case l20 => k_is)
    (case c20 => k_is)
    (case k20 => k_is)
    (case a21 => k_is)
    (case l21 => k_is)
    (case c21 => k_is)
    (case k21 => k_is)
    (case a22 => k_is)
    (case l22 => k_is)
    (case c22 => k_is)
    (case k22 => k_is)
    (case m_isinstance => k_is)
    (case m_int => k_is)
    (case m_bool => k_is)
    (case m_str => k_is)
    (case m_list => k_is)
    (case m_tuple => k_is)
    (case m_len => k_is)
    (case m_all => k_is)
    (case m_zip => k_is)
    (case m_enumerate => k_is)
    (case m_range => k_is)
    (case m_max => k_is)
    (case g_MOST_COUNT => k_is)
    (case g_MOST_IDLE => k_is)
    (case g_MOST_EDITS => k_is)
    (case g_LAST => k_is)
    (case g_FAR => k_is)
