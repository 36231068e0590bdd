import PyProof.Rows.All
import Wide.All
import OpenK.AllK
import Wide.FinOn
import KE.KStateDown
import Lean
import HandS.Base
import HandS.Call
import HandS.Ends
import HandS.More
import HandS.Words
import HandS.WordsExc
import HandS.Defaults
import HandS.ExcInit
import HandS.ExcField
import HandS.Head0
import HandS.Head1
import HandS.Head2
import HandS.HeadEnd
import HandS.HeadHook1
import HandS.HeadHook2
import PySem.Challenge.RW_startlog_k18_whole_replays_row_by_row
import KE.KUnpackStar
import KE.GoesEnum
import HandS.List
import HandS.Comp
import HandS.Iter
import HandS.Exc
import HandS.ExcOwn
import HandS.ForMost
import HandS.IsInst
import HandS.TupAny
import HandS.Style
import HandS.Strs
import HandS.Replace
import HandS.MakeKw
import HandS.MakeKwOnly
import HandS.Codes
import OpenK.KEqL
set_option Elab.async false
set_option linter.all false
set_option maxRecDepth 100000
set_option maxHeartbeats 0
namespace K18
open PySem PySem.Spec PyProof.Rows L2
/-! the text by places -/
def top (i : Nat) : Stmt := PySem.Challenge.pw_startlog_k18_whole_replays_row_by_row.main.body.getD i (.Pass ⟨0, 0, 0, 0⟩)
/-- an own exception class over ValueError: what raising it and reading a field of it wants -/
def excB (K : PySem.W.Frag) (C : Addr) : Bool := match K.lookup C with
  | some ⟨.type t, _, .cls cd, sl⟩ => (match cd.mro, sl.toList with
    | .ref D :: bm, [_, _, _, _, some (.builtin n), _] => decide (t = "type") && (decide (D = C) && (decide (n = "ValueError.__new__") && (!cd.hasDel && (cd.hasDict && PySem.HandSPX.refsVE bm))))
    | _, _ => false)
  | _ => false
theorem excB_ok {K : PySem.W.Frag} {C : Addr} (h : excB K C = true) :
    ∃ nm q N bs bm sn sub ab col dd k0 k1 k2 k3 k5, K.lookup C = some (excClassObj nm q C N bs bm true sn sub ab col dd k0 k1 k2 k3 k5 "ValueError.__new__") ∧ PySem.HandSPX.refsVE bm = true := by
  unfold excB at h
  split at h
  · rename_i t dd cd sl lk
    split at h
    · rename_i D bm k0 k1 k2 k3 n k5 em es
      simp only [Bool.and_eq_true, decide_eq_true_eq, Bool.not_eq_true'] at h
      obtain ⟨rfl, rfl, rfl, hd, hdi, hr⟩ := h
      obtain ⟨nm, bs, mro, ns, qn, hdc, sn, sub, ab, col, del⟩ := cd
      dsimp only at em hd hdi
      subst em hd hdi
      have e : sl = #[k0, k1, k2, k3, some (.builtin "ValueError.__new__"), k5] := by
        obtain ⟨l⟩ := sl
        simp only at es
        rw [es]
      subst e
      exact ⟨nm, qn, ns, bs, bm, sn, sub, ab, col, dd, k0, k1, k2, k3, k5, lk, hr⟩
    · cases h
  · cases h
/-- ValueError.__init__ as it is looked up -/
def viB (K : PySem.W.Frag) : Bool := match PySem.W.findCls K (.type "ValueError") (.type "type") "__init__" with
  | some (.val (.builtin n)) => decide (n = "ValueError.__init__")
  | _ => false
/-- a bare tuple -/
def btB (K : PySem.W.Frag) (a : Addr) : Bool := match K.lookup a with
  | some ⟨.type c, none, _, _⟩ => decide (c = "tuple")
  | _ => false
theorem btB_ok {K : PySem.W.Frag} {a : Addr} (h : btB K a = true) : ∃ o, K.lookup a = some o ∧ o.cls = .type "tuple" ∧ o.dict = none := by
  unfold btB at h
  split at h
  · rename_i c dt sl e
    exact ⟨_, e, congrArg Value.type (of_decide_eq_true h), rfl⟩
  · cases h
/-- more facts of what the top has written -/
def exB (K : PySem.W.Frag) : Bool :=
  He.tupB K "WORDS" [.str "load", .str "set", .str "end", .str "late", .str "reset"] && (He.tupB K "BARE_WORDS" [.str "end", .str "reset"] && (He.tupB K "BEHIND_END" [.str "late", .str "reset"] &&
    (excB K (He.ga K "BadLog") && (He.eqO (PySem.W.findIn K (.ref (He.ga K "BadLog")) "__setattr__") (some (some (.builtin "object.__setattr__"))) &&
    (decide (PySem.W.subIn K (.ref (He.ga K "BadLog")) (.type "BaseException") = some true) && (decide (PySem.W.typeIn K (.ref (He.ga K "BadLog")) = some (.type "type")) && (PySem.W.keepIn K (.ref (He.ga K "BadLog")) &&
    (L2.xfB K (He.ga K "BadLog") && (viB K &&
    (btB K (He.ga K "WORDS") && decide (PySem.W.typeIn K (.ref (He.ma K (He.ga K "BadLog") "__init__")) = some (.type "function"))))))))))))
/-! the defs -/
def dG (x : Str) (i : Nat) (dfl : List He.Dv := []) (kwd : List (Str × He.Dv) := []) : He.DefD := ⟨(x, none), x, x, defArgs (top i), defBody (top i), defScope (top i), dfl, kwd⟩
def dM (C m q : Str) (st : Stmt) (dfl : List He.Dv := []) (kwd : List (Str × He.Dv) := []) : He.DefD := ⟨(C, some m), m, q, defArgs st, defBody st, defScope st, dfl, kwd⟩
def kw2 : List (Str × He.Dv) := [("many", .int 4), ("fixed", .int 2)]
def fn : List He.DefD := [
  dM "BadLog" "__init__" "StartError.__init__" (inClass (top 2) 0),
  dG "is_name" 9, dG "name_number" 10, dG "is_from" 20, dG "is_noted" 21, dG "is_row" 22, dG "row_number" 23, dG "can_stand" 28, dG "fault" 29 [] kw2,
  dG "look_log" 31, dG "row_behind" 32, dG "replays" 33 [] kw2, dG "replay" 34 [] kw2, dG "is_between" 40, dG "divisor_of" 41,
  dM "Mixing" "__init__" "Mixing.__init__" (inClass (top 43) 0) [.non] [("factor", .int 7919)], dM "Mixing" "begin" "Mixing.begin" (inClass (top 43) 1) [] [("reset", .bl false)], dM "Mixing" "mixed" "Mixing.mixed" (inClass (top 43) 2),
  dG "_law_box" 45, dG "_law_take" 46, dG "_law_pick" 47, dG "_law_names" 48, dG "_law_same" 49, dG "_law_name_number" 50, dG "_law_row_number" 51, dG "_law_shares" 52, dG "_law_how" 53, dG "_law_mixed" 54, dG "_law_note" 55, dG "_law_row" 56,
  dG "_law_log" 57, dG "_law_fault" 58, dG "_law_sizes" 59, dG "_law_bent_log" 60, dG "_law_refused" 61, dG "_law_right" 62, dG "law" 63]
def fa : List He.Fa := [
  .int "LONGEST" 4, .int "BASE" 27, .int "NOTES" 9973, .int "SPAN" 26500305465, .int "FACTOR" 7919, .int "BOARDS" 4, .int "FIXED" 2, .int "MOST_BOARDS" 8, .int "LEAST_WIDTH" 3, .int "MOST" 1000000, .int "PLAIN_BEGIN" 1, .int "RESET_BEGIN" 2,
  .str "LETTERS" "abcdefghijklmnopqrstuvwxyz", .str "END" "end", .str "RESET" "reset",
  .glo "WORDS", .glo "BARE_WORDS", .glo "BEHIND_END",
  .glo "Mixing", .cls "Mixing", .noat "Mixing" "width", .noat "Mixing" "factor", .meth "Mixing" "begin", .meth "Mixing" "mixed", .mkr "Mixing",
  .glo "BadLog", .exm "BadLog" "BadLog" true, .noat "BadLog" "what", .meth "BadLog" "__init__",
  .free "isinstance", .free "str", .free "len", .free "all", .free "int", .free "bool", .free "tuple", .free "enumerate", .free "list", .free "range", .free "abs", .free "zip", .free "min", .free "max", .free "ValueError",
  .glo "is_name", .glo "name_number", .glo "is_from", .glo "is_noted", .glo "is_row", .glo "row_number", .glo "can_stand", .glo "fault", .glo "look_log", .glo "row_behind", .glo "replays", .glo "replay", .glo "is_between", .glo "divisor_of",
  .glo "_law_box", .glo "_law_take", .glo "_law_pick", .glo "_law_names", .glo "_law_same", .glo "_law_name_number", .glo "_law_row_number", .glo "_law_shares", .glo "_law_how", .glo "_law_mixed", .glo "_law_note", .glo "_law_row",
  .glo "_law_log", .glo "_law_fault", .glo "_law_sizes", .glo "_law_bent_log", .glo "_law_refused", .glo "_law_right", .glo "law"]
abbrev R : PySem.W.OpenRow := PySem.W.OpenLaw.row PySem.Challenge.rw_startlog_k18_whole_replays_row_by_row
/-! the hook: the facts, the defs, the further Bool -/
abbrev AlK : Type := He.AlD × Bool
def obsK (K : PySem.W.Frag) : AlK := (He.obsD fa fn K, exB K)
def valK : AlK := (He.valD fn, true)
def obsKG (g : Addr → Option Obj) : AlK := obsK (He.frG g (He.asD g 5))
def hk : PySem.W.Hook where
  α := AlK
  obs := fun s => obsKG s.heap.get?
  val := fun _ => valK
  says := fun _ h => ∃ K : PySem.W.Frag, K.In h ∧ obsK K = valK
  of := fun _ _ e => ⟨_, He.frG_in, e⟩
  keeps := fun _ _ _ ⟨K, hK, c⟩ k => ⟨K, PySem.W.Frag.In.keeps hK k, c⟩
def ob (s : PySem.W.SharedT) : AlK := obsKG (HandSHeadRun.getT s)
theorem ob_eq (s : PySem.W.SharedT) : ob s = hk.obs s.abs := by
  have e : HandSHeadRun.getT s = s.abs.heap.get? := funext (HandSHeadRun.getT_eq s)
  show obsKG (HandSHeadRun.getT s) = obsKG s.abs.heap.get?
  rw [e]
def loose1 : List PySem.Str := ["_wall", "StartError", "BadMixing", "BadLog", "LETTERS", "LONGEST", "BASE", "is_name", "name_number", "WORDS", "NOTES", "SPAN", "FACTOR", "BOARDS", "FIXED", "MOST_BOARDS", "BARE_WORDS", "is_from", "is_noted", "is_row", "row_number", "BEHIND_END", "END", "RESET", "can_stand"]
def loose2 : List PySem.Str := ["fault", "look_log", "row_behind", "replays", "replay", "LEAST_WIDTH", "MOST", "PLAIN_BEGIN", "RESET_BEGIN", "is_between", "divisor_of", "parts_text", "Mixing", "_law_box", "_law_take", "_law_pick", "_law_names", "_law_same", "_law_name_number", "_law_row_number", "_law_shares", "_law_how", "_law_mixed", "_law_note", "_law_row", "_law_log", "_law_fault", "_law_sizes", "_law_bent_log", "_law_refused", "_law_right"]
def loose : List PySem.Str := loose1 ++ loose2
theorem run (w : World) : HandSHeadRun.RunEq R (PySem.W.view R.prog [63]) hk ob 6000 loose w := by
  intro os
  kernel_rfl
end K18

set_option maxHeartbeats 4000000
namespace K18
open PySem PySem.Spec PyProof.Rows L2
/-! ### a starred target -/
theorem star_items {prog : Program} {w : World} {A : Around} {E : Value → Shared → Prop} {s : Shared} {t : Addr} {its : Array Value} {n i : Nat} {Q : List Value → Shared → Prop}
    (ht : IsTup s.heap t its) (hh : A.handled = none) (hi : i < n) (hn : n ≤ its.size + 1) (hz : its.size ≤ 16384)
    (h : ∀ (h1 : Heap) (tk : Nat), (∀ b o, s.heap.get? b = some o → h1.get? b = some o) →
      Q (its.toList.take i ++ [.ref h1.objs.size] ++ (its.toList.drop i).drop (its.size + 1 - n))
        { s with heap := h1.push { cls := .type "list", data := .seq ((its.toList.drop i).take (its.size + 1 - n)).toArray }, toks := tk }) :
    wpAny (model prog w) A (unpackItems (.ref t) n (some i)) Q E s := by
  have tne : t ≠ s.heap.objs.size := by
    obtain ⟨o, e, _⟩ := ht
    exact Nat.ne_of_lt (Heap.lt_size e)
  unfold unpackItems
  refine wpAny_bind ?_
  unfold notIterableAtAll
  refine wpAny_bind (wpAny_specialOf ht.typeIs slot_tuple_iter.lookup ?_)
  refine wpAny_pure ?_
  rw [if_neg Bool.false_ne_true]
  refine wpAny_bind (wpAny_holding (iter_tuple ht ?_))
  refine wpAny_bind (wpAny_holding (draw_tuple tne i 0 _ _ ⟨_, Heap.get?_push_size _ rfl, rfl, rfl⟩ (ht.push _) (by omega) fun ha it1 sb => ?_))
  have ta : IsTup ha t its := (ht.push _).extBut sb.extBut tne
  rw [Nat.zero_add] at it1
  obtain ⟨oi, ei, _⟩ := id it1
  obtain ⟨ol, el, _⟩ := id ta
  rw [List.drop_zero]
  have lt1 : (its.toList.take i).length = i := by
    rw [List.length_take, Array.length_toList]
    omega
  rw [if_neg (by rw [lt1]; omega)]
  refine wpAny_bind (wpAny_holding (PySem.W.kun_collect (s := { s with heap := ha }) (T := "tuple_iterator") (.inr (.inr (.inr rfl)))
    (Walks.tuple (A := A.in1) hh s.heap.objs.size t tne its) (fun j u st => st.1.typeIs) (k := i) (by omega) ⟨it1, ta⟩ (Heap.lt_size ei) (Heap.lt_size el) (fun hb tk hk => ?_) (by rw [sizeLine_eq]; omega)))
  have ld : (its.toList.drop i).length = its.size - i := by
    rw [List.length_drop, Array.length_toList]
  have lm : (its.toList.drop i).length - (n - 1 - i) = its.size + 1 - n := by
    rw [ld]
    omega
  show wpAny _ _ (if (its.toList.drop i).length < n - 1 - i then _ else _) _ _ _
  rw [if_neg (by rw [ld]; omega)]
  show wpAny _ _ (newList ((its.toList.drop i).take ((its.toList.drop i).length - (n - 1 - i))) >>= fun d => pure (its.toList.take i ++ [d] ++ (its.toList.drop i).drop ((its.toList.drop i).length - (n - 1 - i)))) _ _ _
  rw [lm]
  refine wpAny_bind (wpAny_newList ?_ (by rw [List.length_take, ld, sizeLine_eq]; omega))
  exact wpAny_pure (h hb tk fun b o e => hk b o (Nat.ne_of_lt (Heap.lt_size e)) (sb.extBut b o (Nat.ne_of_lt (Heap.lt_size e)) (Heap.get?_push_of_some _ e)))
section
variable {X : Cx} {pos : Pos}
theorem pgs_star {e : Expr} {p : Pos} {g : TG} (h1 : PG X e g) (hs : (assignEach [.Starred e p] X.env).map (·.2) = [assign e X.env] := by rfl) : PGs X [.Starred e p] (gCons g gNil) := by
  refine ⟨fun pins s σ H vs us Q I r h => ?_⟩
  obtain ⟨v, vr, rfl, h⟩ := h
  cases r with
  | cons r1 rr =>
    rw [hs]
    refine assignInOrder_cons (thn (h1.run pins s σ H _ _ _ I r1 h) fun _ s1 ⟨σ1, H1, I1, q1⟩ => ?_)
    obtain ⟨rfl, q1⟩ := q1
    cases rr
    exact assignInOrder_nil ⟨σ1, H1, I1, q1⟩
/-- (a, b, *c) = a tuple: c is the i-th target of n -/
def gStar (K : PySem.W.Frag) (n i : Nat) (t : TGs) : TG := fun v σ H Q => ∃ a xs, v = .ref a ∧ SqT K H a xs ∧ n ≤ xs.length + 1 ∧ xs.length ≤ 16384 ∧
  ∀ p, H p = none → t (xs.take i ++ [.ref p] ++ (xs.drop i).drop (xs.length + 1 - n)) σ (upd H p (.lst ((xs.drop i).take (xs.length + 1 - n)))) Q
theorem pg_star {es : List Expr} {k : Nat} {t : TGs} {n i : Nat} (hc : X.calm = true) (h : PGs X es t)
    (hn : (assignEach es X.env).length = n := by rfl) (hst : (assignEach es X.env).findIdx? (·.1) = some i := by rfl) (hi : i < n := by decide) : PG X (.Tuple es k pos) (gStar X.K n i t) := by
  refine ⟨fun pins s σ H v u Q I r hw => ?_⟩
  obtain ⟨a, xs, rfl, hq, hl, hz, hw⟩ := hw
  cases r
  obtain ⟨its, rv, ht, _⟩ := I.tuple hq
  have el : xs.length = its.toArray.size := by simpa using rv.length
  rw [assign_Tuple]
  refine wpAny_bind (wpAny_standAt ?_)
  unfold unpack
  rw [hn, hst]
  refine wpAny_bind (wpAny_holding (star_items ht (I.ok.hd hc) hi (by omega) (by omega) fun h1 tk k1 => ?_))
  have I1 : Inv X pins σ H { s with heap := h1, toks := tk } := I.kept k1
  have hp : H h1.objs.size = none := I1.hok.fresh (Nat.le_refl _)
  have rm : Vals ((xs.drop i).take (xs.length + 1 - n)) ((its.drop i).take (its.length + 1 - n)) := by
    have e2 : xs.length = its.length := rv.length
    rw [e2]
    exact (rv.drop i).take _
  have I2 : Inv X pins σ (upd H h1.objs.size (.lst ((xs.drop i).take (xs.length + 1 - n)))) { s with heap := h1.push { cls := .type "list", data := .seq ((its.toArray.toList.drop i).take (its.toArray.size + 1 - n)).toArray }, toks := tk } := by
    refine I1.laid (t' := tk) (fun b o e => Heap.get?_push_of_some _ e) (Nat.le_refl _) ⟨?_, (its.drop i).take (its.length + 1 - n), 0, rm, ?_⟩
    · rw [List.length_take, List.length_drop, sizeLine_eq]
      omega
    · have := Heap.get?_push_size h1 (o := { cls := .type "list", data := .seq ((its.toArray.toList.drop i).take (its.toArray.size + 1 - n)).toArray }) rfl
      simpa using this
  refine h.run pins _ σ _ _ _ Q I2 ?_ (hw h1.objs.size hp)
  have e2 : xs.length = its.length := rv.length
  have r3 : Vals (xs.take i ++ [V.ref h1.objs.size] ++ (xs.drop i).drop (xs.length + 1 - n)) (its.take i ++ [Value.ref h1.objs.size] ++ (its.drop i).drop (its.length + 1 - n)) := by
    rw [e2]
    exact ((rv.take i).append (.cons (show RelV (V.ref h1.objs.size) (Value.ref h1.objs.size) from rfl) .nil)).append ((rv.drop i).drop _)
  simpa using r3
end

/-! ### enumerate(a tuple) -/
set_option maxHeartbeats 1000000 in
theorem enum_new1 {v : Value} {o : Obj} {Hh : Heap → Prop} (B : Begins v o Hh) :
    Meets (Builtin.«enumerate.__new__» ⟨[.type "enumerate", v], []⟩) (fun _ R s => Hh s.heap ∧
      R (.ok (.ret (.ref (s.heap.push o).objs.size)))
        { s with heap := (s.heap.push o).push { cls := .type "enumerate", data := .fields #[.none, .bool false, .ref s.heap.objs.size, rawInt 0, .none, .none] } }) :=
  .of_wp fun prog w A R s h => by
    obtain ⟨hp, g, d, tk, os⟩ := s
    obtain ⟨hb, h⟩ := h
    have sub0 := sub_enumerate
    have itr : ∀ {A1 : Around} {E1 : Value → Shared → Prop} {Q1 : Value → Shared → Prop}, Q1 (.ref hp.objs.size) ⟨hp.push o, g, d, tk, os⟩ →
        wpAny (model prog w) A1 (pyIter v) Q1 E1 ⟨hp, g, d, tk, os⟩ := fun q => B.iter prog w _ _ ⟨hp, g, d, tk, os⟩ _ hb q
    wp_walk using itr
    refine wpAny_stack_any fun stk => wpAny_pure ?_
    split
    · rename_i c0 _ _ _ _ _
      cases (c0 == Value.type "enumerate")
      all_goals
        wp_walk using itr
        exact ⟨_, rfl, h⟩
    · wp_walk using itr
      exact ⟨_, rfl, h⟩
section
variable {prog : Program} {w : World} {A : Around} {E : Value → Shared → Prop} {s : Shared}
theorem enum_call1 {v : Value} {o : Obj} {Hh : Heap → Prop} {Q : Value → Shared → Prop} (B : Begins v o Hh) (hb : Hh s.heap)
    (h : ∀ h', IsEnum h' (s.heap.objs.size + 1) s.heap.objs.size 0 .none → h'.get? s.heap.objs.size = some o →
      (∀ b o, s.heap.get? b = some o → h'.get? b = some o) → Q (.ref (s.heap.objs.size + 1)) { s with heap := h' }) :
    wpAny (model prog w) A (call (.type "enumerate") [v]) Q E s := by
  refine callType_new PySem.F.called_enumerate (by decide) (PySem.F.typeCall_enumerate_1 _) (PySem.F.newCall_enumerate_1 _) (fun z => PySem.F.args_object_init_2 z _)
    PySem.F.entry_enumerate_new (enum_new1 B) ⟨hb, ?_⟩
  have zz : (s.heap.push o).objs.size = s.heap.objs.size + 1 := Heap.size_push ..
  show _ ∧ _
  rw [zz]
  have ee : IsEnum ((s.heap.push o).push { cls := .type "enumerate", data := .fields #[.none, .bool false, .ref s.heap.objs.size, rawInt 0, .none, .none] })
      (s.heap.objs.size + 1) s.heap.objs.size 0 .none := by
    have := Heap.get?_push_size (s.heap.push o) (o := { cls := .type "enumerate", data := .fields #[.none, .bool false, .ref s.heap.objs.size, rawInt 0, .none, .none] }) rfl
    rw [zz] at this
    exact this
  exact ⟨⟨_, ee, rfl⟩, h _ ee (Heap.get?_push_of_some _ (Heap.get?_push_size _ B.free)) fun b o q => Heap.get?_push_of_some _ (Heap.get?_push_of_some _ q)⟩
end
/-- the tuple at a, its items xs, each in a new pair -/
def Itu (K : PySem.W.Frag) (a : Addr) (xs : List V) : It :=
  ⟨fun i H => SqT K H a xs ∧ i < xs.length, fun i H v H' => ∃ T x, v = .ref T ∧ H T = none ∧ H' = upd H T (.tup [.int (i : Nat), x]) ∧ xs[i]? = some x, fun i H => SqT K H a xs ∧ xs.length = i⟩
theorem turn_enumT {P : Program} {w : World} {K : PySem.W.Frag} {elts : List Expr} {kk : Nat} {tpos : Pos} (a : Addr) (xs : List V) (e it : Addr) :
    Turn P w K (.Tuple elts kk tpos) (Itu K a xs) [e, it] e (fun i h => (∃ old, IsEnum h e it ((i : Nat) : Int) old) ∧ h.IsTupleIter it a i ∧ e ≠ it ∧ a ≠ e ∧ a ≠ it) where
  mem := by simp
  obj := fun i h st b hb => by
    obtain ⟨⟨old, he⟩, ⟨o, ho, hc, hd⟩, _⟩ := st
    rcases (by simpa using hb : b = e ∨ b = it) with rfl | rfl
    · exact ⟨_, he, fun v q => nomatch q⟩
    · exact ⟨o, ho, fun v q => by rw [hd] at q; cases q⟩
  keep := fun i h h' st k => by
    obtain ⟨⟨old, he⟩, hi, hn⟩ := st
    exact ⟨⟨old, k e (by simp) _ he⟩, hi.at fun o q => k it (by simp) o q, hn⟩
  item := by
    intro X hP hw hK hc i pins s σ H E I hf st hg
    subst hP hw hK
    obtain ⟨⟨old, he⟩, hit, hne, hae, hai⟩ := st
    obtain ⟨hq, hlt⟩ := hg
    obtain ⟨its, rv, p, hz⟩ := I.tuple hq
    obtain ⟨x, hx⟩ : ∃ x, xs[i]? = some x := ⟨_, List.getElem?_eq_getElem hlt⟩
    obtain ⟨u, hu, ru⟩ := rv.get hx
    have lsz : i < its.toArray.size := by
      have := rv.length
      simp
      omega
    have l1 : e < s.heap.objs.size := Heap.lt_size he
    have l2 : it < s.heap.objs.size := by
      obtain ⟨_, q, _⟩ := hit
      exact Heap.lt_size q
    refine wpAny_pyNext_enum_itemD (Draws.tuple (A := X.A.in1) (I.ok.hd hc) it a hai its.toArray) he ⟨hit, p⟩ lsz hne (by simp [hne, Ne.symm hae]) fun y h' tk hy ho hst hT hsz hk => ?_
    have eu : y = u := by
      have hy' : its.toArray[i]? = some y := hy
      rw [List.getElem?_toArray, hu] at hy'
      exact (Option.some.inj hy').symm
    subst eu
    refine ⟨_, rfl, wpAny_letOwnedTupleGo_enum (s := { s with heap := h', toks := tk + 1 }) ho fun h2 he2 sb => ?_⟩
    have hT2 : h2.get? s.heap.objs.size = some { cls := .type "tuple", data := .seq #[.int i tk, y] } := (sb.2 _ (Nat.ne_of_gt l1)).trans hT
    have new : ObjOk X.prog X.w (upd H s.heap.objs.size (.tup [.int (i : Nat), x])) h2 s.heap.objs.size (.tup [.int (i : Nat), x]) :=
      ⟨(by show 2 ≤ sizeLine; decide), [.int i tk, y], .cons ⟨_, rfl⟩ (.cons ru .nil), ⟨_, hT2, rfl, _, rfl⟩⟩
    have I1 : Inv X pins σ (upd H s.heap.objs.size (.tup [.int (i : Nat), x])) { s with heap := h2, toks := tk + 1 } :=
      I.turnedNew (ch := [e, it]) (fun b ob hb q => (sb.2 b (fun z => hb (by simp [z]))).trans (hk b ob (fun z => hb (by simp [z])) (fun z => hb (by simp [z])) q)) hf (Nat.le_refl _) new
    refine ⟨.ref s.heap.objs.size, _, I1, rfl, ⟨_, x, rfl, I.hok.fresh (Nat.le_refl _), rfl, hx⟩, ⟨⟨y, ?_⟩, hst.1.at fun o q => (sb.2 it (Ne.symm hne)).trans q, hne, hae, hai⟩, fun b hb => ?_⟩
    · have e1 : ((i + 1 : Nat) : Int) = (i : Int) + 1 := by omega
      rw [e1]
      exact he2
    · have lb : b < s.heap.objs.size := by
        rcases (by simpa using hb : b = e ∨ b = it) with rfl | rfl
        · exact l1
        · exact l2
      rw [upd_ne (Nat.ne_of_lt lb)]
      exact (hf b hb).1
  done := by
    intro X hP hw hK hc i pins s σ H E I hf st hg
    subst hP hw hK
    obtain ⟨⟨old, he⟩, hit, hne, hae, hai⟩ := st
    obtain ⟨hq, hle⟩ := hg
    obtain ⟨its, rv, p, hz⟩ := I.tuple hq
    obtain ⟨f0, f1, f2, f3, f4, f5⟩ := hf it (by simp)
    have e0 : i = its.toArray.size := by
      have := rv.length
      simp
      omega
    subst e0
    exact wpAny_pyNext_enum_endD (Draws.tuple (A := X.A.in1) (I.ok.hd hc) it a hai its.toArray) he ⟨hit, p⟩ fun h' eb => ⟨rfl, I.turned (t' := s.toks) (fun b o hb q => eb b o hb q) f0 f1 f3 f4 f5⟩
  self := fun A i s Q E st h => by
    obtain ⟨⟨_, he⟩, _⟩ := st
    exact wpAny_pyIter_enum he h

def iEnumT (K : PySem.W.Frag) (ta : TA) : TI := fun σ H R => ta σ H fun vs H1 => ∃ a xs, vs = [.ref a] ∧ SqT K H1 a xs ∧ R (Itu K a xs) H1
theorem pi_enumT {X : Cx} {e : Expr} {ta : TA} {p pos tpos : Pos} {elts : List Expr} {kk : Nat} (hg : Gl X "enumerate") (hm : X.mg "enumerate" = none) (ha : PA X [e] ta)
    (hs : starEach [e] X.env = [(false, eval e X.env)] := by rfl) : PI X (.Tuple elts kk tpos) (.Call (.Name "enumerate" p) [e] [] pos) (iEnumT X.K ta) := by
  refine ⟨fun pins s σ H R I h => ?_⟩
  refine Call_ (ld_blt I hg hm boot_enumerate (PyProof.Rows.callWith_type1 (thn (ha.run pos pins s σ H _ I h) fun us s1 hh => ?_) hs rfl))
  obtain ⟨vs, H1, I1, r1, a, xs, rfl, hq, q⟩ := hh
  cases r1 with
  | cons r rr =>
    cases rr
    cases r
    obtain ⟨its, rv, pt, hz⟩ := I1.tuple hq
    have la : a < s1.heap.objs.size := pt.lt
    refine enum_call1 (begins_tuple a its.toArray) pt fun h' he hit hk => wpAny_pyIter_enum he ?_
    have I2 : Inv X pins σ H1 { s1 with heap := h' } := I1.kept (t' := s1.toks) hk
    refine ⟨s1.heap.objs.size + 1, [s1.heap.objs.size + 1, s1.heap.objs.size], _, _, H1, rfl, I2, turn_enumT a xs (s1.heap.objs.size + 1) s1.heap.objs.size,
      ⟨⟨.none, he⟩, ⟨_, hit, rfl, rfl⟩, Nat.succ_ne_self _, Nat.ne_of_lt (Nat.lt_succ_of_lt la), Nat.ne_of_lt la⟩, fun b hb => ?_, q⟩
    have hle : s1.heap.objs.size ≤ b := by
      rcases (by simpa using hb : b = s1.heap.objs.size + 1 ∨ b = s1.heap.objs.size) with z | z
      · exact z ▸ Nat.le_succ _
      · exact z ▸ Nat.le_refl _
    exact I1.fpOk hle (I1.hok.fresh hle)
/-! ### loops over what is enumerated -/
section
variable {K : PySem.W.Frag} {a : Addr} {xs : List V} {g : TG} {tb : TS} {D : Ends} {σ : L2.St} {H : Hp}
theorem for_enumT (Pv : Nat → L2.St → Hp → Prop) (h0 : Pv 0 σ H) (hl : ∀ i σ H, i ≤ xs.length → Pv i σ H → SqT K H a xs)
    (hs : ∀ i x T σ H, xs[i]? = some x → Pv i σ H → H T = none → g (.ref T) σ (upd H T (.tup [.int (i : Nat), x])) fun σ2 H2 => tb { D with nx := Pv (i + 1), ct := Pv (i + 1), bk := D.nx } σ2 H2)
    (hd : ∀ σ H, Pv xs.length σ H → D.nx σ H) :
    ∃ W : Nat → Nat → L2.St → Hp → Prop, (∃ m, W 0 m σ H) ∧ ∀ i m σ H, W i m σ H →
      ((Itu K a xs).stop i H ∧ D.nx σ H) ∨ ((Itu K a xs).go i H ∧ ∃ N : L2.St → Hp → Prop, (∀ σ' H', N σ' H' → ∃ m', m' < m ∧ W (i + 1) m' σ' H') ∧
        ∀ x H', (Itu K a xs).yld i H x H' → g x σ H' fun σ2 H2 => tb { D with nx := N, ct := N, bk := D.nx } σ2 H2) := by
  refine ⟨fun i m σ H => m = xs.length - i ∧ i ≤ xs.length ∧ Pv i σ H, ⟨xs.length, rfl, Nat.zero_le _, h0⟩, ?_⟩
  rintro i m σ H ⟨rfl, hi, p⟩
  by_cases hlt : i < xs.length
  · refine .inr ⟨⟨hl i σ H hi p, hlt⟩, Pv (i + 1), fun σ' H' p' => ⟨xs.length - (i + 1), by omega, rfl, hlt, p'⟩, ?_⟩
    rintro v H' ⟨T, x, rfl, hT, rfl, hx⟩
    exact hs i x T σ H hx p hT
  · have e : i = xs.length := by omega
    subst e
    exact .inl ⟨⟨hl _ σ H hi p, rfl⟩, hd σ H p⟩
theorem for_enumL (Pv : Nat → L2.St → Hp → Prop) (h0 : Pv 0 σ H) (hl : ∀ i σ H, i ≤ xs.length → Pv i σ H → SqL K H a xs)
    (hs : ∀ i x T σ H, xs[i]? = some x → Pv i σ H → H T = none → g (.ref T) σ (upd H T (.tup [.int (i : Nat), x])) fun σ2 H2 => tb { D with nx := Pv (i + 1), ct := Pv (i + 1), bk := D.nx } σ2 H2)
    (hd : ∀ σ H, Pv xs.length σ H → D.nx σ H) :
    ∃ W : Nat → Nat → L2.St → Hp → Prop, (∃ m, W 0 m σ H) ∧ ∀ i m σ H, W i m σ H →
      ((Ite K a).stop i H ∧ D.nx σ H) ∨ ((Ite K a).go i H ∧ ∃ N : L2.St → Hp → Prop, (∀ σ' H', N σ' H' → ∃ m', m' < m ∧ W (i + 1) m' σ' H') ∧
        ∀ x H', (Ite K a).yld i H x H' → g x σ H' fun σ2 H2 => tb { D with nx := N, ct := N, bk := D.nx } σ2 H2) := by
  refine ⟨fun i m σ H => m = xs.length - i ∧ i ≤ xs.length ∧ Pv i σ H, ⟨xs.length, rfl, Nat.zero_le _, h0⟩, ?_⟩
  rintro i m σ H ⟨rfl, hi, p⟩
  have q := hl i σ H hi p
  by_cases hlt : i < xs.length
  · refine .inr ⟨⟨xs, xs[i], q, by simp [hlt]⟩, Pv (i + 1), fun σ' H' p' => ⟨xs.length - (i + 1), by omega, rfl, hlt, p'⟩, ?_⟩
    rintro v H' ⟨T, x, rfl, hT, rfl, hx⟩
    exact hs i x T σ H (hx xs q) p hT
  · have e : i = xs.length := by omega
    subst e
    exact .inl ⟨⟨xs, q, Nat.le_refl _⟩, hd σ H p⟩
end
/-- a comprehension without ifs, over n turns of whatever is walked -/
theorem lc_any {J : It} {g : TG} {te : TE} {vs : List Nat} {σ : L2.St} {H1 : Hp} {D : Addr} {Qd : Hp → Prop} (n : Nat) (Pv : Nat → Hp → Prop) (h0 : Pv 0 (upd H1 D (.lst [])))
    (hgo : ∀ i H, i < n → Pv i H → J.go i H) (hstop : ∀ H, Pv n H → J.stop n H)
    (hs : ∀ i x H H', i < n → Pv i H → J.yld i H x H' → g x (wipe σ vs) H' fun σ2 H2 => wipe σ2 vs = wipe σ vs ∧
      te σ2 H2 fun y H4 => ∃ acc, H4 D = some (.lst acc) ∧ acc.length < sizeLine ∧ Pv (i + 1) (upd H4 D (.lst (acc ++ [y]))))
    (hd : ∀ H, Pv n H → Qd H) :
    ∃ W : Nat → Nat → Hp → Prop, (∃ m, W 0 m (upd H1 D (.lst []))) ∧ ∀ i m H, W i m H →
      (J.stop i H ∧ Qd H) ∨ (J.go i H ∧ ∃ Nx : Hp → Prop, (∀ H', Nx H' → ∃ m', m' < m ∧ W (i + 1) m' H') ∧ ∀ x H', J.yld i H x H' → g x (wipe σ vs) H' fun σ2 H2 =>
        wipe σ2 vs = wipe σ vs ∧ tYes σ2 H2 fun b H3 => if b = true then te σ2 H3 fun y H4 => ∃ acc, H4 D = some (.lst acc) ∧ acc.length < sizeLine ∧ Nx (upd H4 D (.lst (acc ++ [y]))) else Nx H3) := by
  refine ⟨fun i m H => m = n - i ∧ i ≤ n ∧ Pv i H, ⟨n, rfl, Nat.zero_le _, h0⟩, ?_⟩
  rintro i m H ⟨rfl, hi, p⟩
  by_cases hlt : i < n
  · exact .inr ⟨hgo i H hlt p, Pv (i + 1), fun H' p' => ⟨n - (i + 1), by omega, rfl, hlt, p'⟩, fun x H' y => hs i x H H' hlt p y⟩
  · have e : i = n := by omega
    subst e
    exact .inl ⟨hstop H p, hd H p⟩
/-- a loop of n turns over whatever is walked -/
theorem for_any {J : It} {g : TG} {tb : TS} {D : Ends} {σ : L2.St} {H : Hp} (n : Nat) (Pv : Nat → L2.St → Hp → Prop) (h0 : Pv 0 σ H) (hgo : ∀ i σ H, i < n → Pv i σ H → J.go i H) (hstop : ∀ σ H, Pv n σ H → J.stop n H)
    (hs : ∀ i x σ H H', i < n → Pv i σ H → J.yld i H x H' → g x σ H' fun σ2 H2 => tb { D with nx := Pv (i + 1), ct := Pv (i + 1), bk := D.nx } σ2 H2) (hd : ∀ σ H, Pv n σ H → D.nx σ H) :
    ∃ W : Nat → Nat → L2.St → Hp → Prop, (∃ m, W 0 m σ H) ∧ ∀ i m σ H, W i m σ H →
      (J.stop i H ∧ D.nx σ H) ∨ (J.go i H ∧ ∃ N : L2.St → Hp → Prop, (∀ σ' H', N σ' H' → ∃ m', m' < m ∧ W (i + 1) m' σ' H') ∧
        ∀ x H', J.yld i H x H' → g x σ H' fun σ2 H2 => tb { D with nx := N, ct := N, bk := D.nx } σ2 H2) := by
  refine ⟨fun i m σ H => m = n - i ∧ i ≤ n ∧ Pv i σ H, ⟨n, rfl, Nat.zero_le _, h0⟩, ?_⟩
  rintro i m σ H ⟨rfl, hi, p⟩
  by_cases hlt : i < n
  · exact .inr ⟨hgo i σ H hlt p, Pv (i + 1), fun σ' H' p' => ⟨n - (i + 1), by omega, rfl, hlt, p'⟩, fun x H' y => hs i x σ H H' hlt p y⟩
  · have e : i = n := by omega
    subst e
    exact .inl ⟨hstop σ H p, hd σ H p⟩
end K18

set_option maxHeartbeats 4000000
namespace K18
open PySem PySem.Spec PyProof.Rows L2
/-! ### an exception that is caught, kept by a name of the suite's, and read behind the try -/
/-- at a: a caught exception of the class cls, its own dict at d -/
def exH (cls : Value) (d : Option Addr) (a : Addr) : HO := .ext fun h => ∃ (oe : Obj) (vs : Array Value), h.get? a = some oe ∧ Zc cls d oe ∧ oe.data = .fields vs
section
variable {X : Cx} {pins : List (Addr × Obj)} {σ : L2.St} {H : Hp} {s : Shared}
/-- an untracked object, younger than the entry, comes to be tracked -/
theorem inv_hold {a : Addr} {u : HO} (I : Inv X pins σ H s) (hn : H a = none) (n0 : X.s_0.heap.get? a = none) (nL : a ≠ X.env.locals) (nC : ∀ x c, X.env.cells.lookup x = some c → c ≠ a) (nP : ∀ p ∈ X.pn ++ pins, p.1 ≠ a)
    (new : ObjOk X.prog X.w (upd H a u) s.heap a u) : Inv X pins σ (upd H a u) s where
  ok := I.ok
  os := I.os
  bare := I.bare
  base := {
    keep := I.base.keep
    slot := I.base.slot
    free := fun b o e n hx => by
      have nb : b ≠ a := fun z => by
        rw [z, n0] at e
        cases e
      rw [upd_ne nb]
      exact I.base.free b o e n hx
    there := I.base.there
    tups := fun b xs e => by
      have q := I.base.tups b xs e
      rw [upd_ne (ne_of_none q hn)]
      exact q
    frzs := fun b o xs e => by
      have q := I.base.frzs b o xs e
      rw [upd_ne (ne_of_none q hn)]
      exact q
    tbls := fun b ps e => by
      obtain ⟨m, q⟩ := I.base.tbls b ps e
      exact ⟨m, by rw [upd_ne (ne_of_none q hn)]; exact q⟩ }
  loc := I.loc
  cell := I.cell
  free := by
    rw [upd_ne (Ne.symm nL)]
    exact I.free
  freeC := fun x c e => by
    rw [upd_ne (nC x c e)]
    exact I.freeC x c e
  pin := fun p hp => by
    obtain ⟨e, n, q⟩ := I.pin p hp
    exact ⟨e, by rw [upd_ne (nP p hp)]; exact n, q⟩
  hok := fun b o e => by
    by_cases hb : b = a
    · subst hb
      rw [upd_same] at e
      cases e
      exact new
    · rw [upd_ne hb] at e
      refine (I.hok b o e).stay (fun _ _ _ q => q) (fun c q => ?_) fun c xs q => ?_
      · rw [upd_ne (ne_of_none q hn)]
        exact q
      · rw [upd_ne (ne_of_none q hn)]
        exact q
  len := I.len
theorem inv_suite0 (I : Inv X pins σ H s) (a : Addr) : Inv (X.suite a (X.pn ++ pins)) [] σ H s :=
  ⟨I.ok.suite _ _, I.os, I.bare, I.base, I.loc, I.cell, I.free, I.freeC, fun p hp => I.pin p (by rw [List.append_nil] at hp; exact hp), I.hok, I.len⟩
theorem inv_unsuite0 {a : Addr} {pn : List (Addr × Obj)} (I : Inv (X.suite a (X.pn ++ pins)) pn σ H s) (ok : X.Ok) : Inv X pins σ H s :=
  ⟨ok, I.os, I.bare, I.base, I.loc, I.cell, I.free, I.freeC, fun p hp => I.pin p (List.mem_append_left _ hp), I.hok, I.len⟩
end
/-- what the clause wishes of an exception of the body: it is the clause's; the suite runs with it tracked, its name in slot i -/
def wHeld (K : PySem.W.Frag) (c : Value) (i : Nat) (ts : TS) (D : Ends) : WX := fun cls d σ H =>
  PySem.W.exmOne K cls c = some true ∧ ∀ a, H a = none →
    ts { nx := fun σ' H' => D.nx (σ'.set i none) H', rt := D.rt, bk := fun σ' H' => D.bk (σ'.set i none) H', ct := fun σ' H' => D.ct (σ'.set i none) H' } (σ.set i (some (.ref a))) (upd H a (exH cls d a))
section
variable {X : Cx} {x n : Str} {c : Value} {i : Nat} {body suite : List Stmt} {b0 : Stmt} {np pos pos' : Pos} {tb : WX → TS} {ts : TS}
theorem ps_try_held (hs : X.stack = X.env :: X.outer) (hf : X.env.frame = some X.env.locals) (hex : X.ex = []) (hN : X.N.Nodup) (hi : X.N[i]? = some n) (hln : X.env.kindOf n = some .local) (hc : Names X x c)
    (hb : ∀ (W : WX) (pn : List (Addr × Obj)) (xe : Value → Shared → Prop), Takes (X.tr pn xe) W → PSs (X.tr pn xe) body (tb W))
    (hsu : ∀ (a : Addr) (pn : List (Addr × Obj)), PSs (X.suite a pn) (b0 :: suite) ts) :
    PS X (.Try body [.ExceptHandler (some (.Name x np)) (some n) (b0 :: suite) pos'] [] [] pos) (fun D σ H => tb (wHeld X.K c i ts D) D σ H) := by
  refine ⟨fun pins s σ H D I h => ?_⟩
  have ok := I.ok
  have hfr : X.A.frames = some (X.env :: X.outer) := ok.frames.trans (congrArg some hs)
  refine wpAny_Try_except (wpAny_mono ((hb (wHeld X.K c i ts D) (X.pn ++ pins) _ fun u s' xx => ?_).run [] s σ H D (I.toTry _) h) (fun f s1 hsp => ?_) fun e s1 he => he)
  · obtain ⟨a, B, sI, pins', σ', H', cls, d, rfl, J', nb, up, sky, na, os, ag, hm, hyes⟩ := xx
    have J : Inv X pins σ' H' sI := J'.ofTry ok
    have sky2 : Sky B (X.env :: X.outer) a (Zc cls d) X.env.locals s'.heap := hs ▸ sky
    show wpAny (model X.prog X.w) X.A (noteFrame (.ref a) X.env) _ _ _
    refine Sky.land Zc.steady hfr hf sky2 fun h3 fl3 up3 => ?_
    have J3 : Inv X pins σ' H' { s' with heap := h3 } := J.landed nb fl3.1 (up.trans up3) os ag
    obtain ⟨oe3, vs3, he3, hz3, hd3⟩ := fl3.there
    have nfr : a ∉ frs (X.env :: X.outer) := fun hm2 => by
      obtain ⟨_, o', e', hnf⟩ := fl3.2.2.1.mem hm2
      rw [he3] at e'
      cases e'
      exact hnf _ hd3
    have nL : a ≠ X.env.locals := fun z => nfr (List.mem_filterMap.mpr ⟨X.env, List.mem_cons_self, by rw [hf, z]⟩)
    have S3 := inv_suite0 J3 a
    refine wpAny_handleBy_cons (codeAny_handlers_test ?_) (by intro q; cases q)
    have LT : PySem.W.Looks (model X.prog X.w) h3 (typeOf (.ref a)) cls := fun A1 Q1 E1 s1 k q => wpAny_typeOf_ref (k _ _ he3) (by rw [hz3.1]; exact q)
    have LM := PySem.W.exm_one (M := model X.prog X.w) J3.kIn LT hm
    have look : ∀ {Q1 : Value → Shared → Prop} {E1 : Value → Shared → Prop}, Q1 c { s' with heap := h3 } →
        wpAny (model X.prog X.w) (X.A.mark (some (.ref a))) (eval (.Name x np) X.env) Q1 E1 { s' with heap := h3 } := fun {Q1 E1} q => by
      obtain ⟨hg, hdbg, hm2 | ⟨hm2, hv, hnn⟩⟩ := hc
      · exact ld_glob (X := X.suite a (X.pn ++ pins)) S3 hg hm2 q hdbg
      · exact ld_blt (X := X.suite a (X.pn ++ pins)) S3 hg hm2 hv q hnn hdbg
    refine look (LM.here ?_)
    refine codeAny_handlers_suite_as ?_
    refine HandSPX.lands_againZ fl3 fun h4 fl4 up4 => ?_
    have J4 : Inv X pins σ' H' { s' with heap := h4 } := J.landed nb fl4.1 ((up.trans up3).trans up4) os ag
    obtain ⟨oe4, vs4, he4, hz4, hd4⟩ := fl4.there
    have nI : sI.heap.get? a = none := by
      cases q : sI.heap.get? a with
      | none => rfl
      | some o =>
        have z := nb a o q (hs ▸ nfr)
        rw [fl4.2.1] at z
        cases z
    have n0 : X.s_0.heap.get? a = none := by
      cases q : X.s_0.heap.get? a with
      | none => rfl
      | some o =>
        obtain ⟨o', z⟩ := J.base.there a o q (by rw [hex]; exact fun z => nomatch z)
        rw [nI] at z
        cases z
    have nC : ∀ y c', X.env.cells.lookup y = some c' → c' ≠ a := fun y c' e z => by
      obtain ⟨v, o, ho, hdd⟩ := J4.cell y c' e
      rw [z] at ho
      have ho' : h4.get? a = some o := ho
      rw [he4] at ho'
      cases ho'
      rw [hd4] at hdd
      cases hdd
    have nP : ∀ p ∈ X.pn ++ pins, p.1 ≠ a := fun p hp z => by
      have q := (J.pin p hp).1
      rw [z, nI] at q
      cases q
    have new : ObjOk X.prog X.w (upd H' a (exH cls d a)) h4 a (exH cls d a) :=
      ⟨⟨oe4, vs4, he4, hz4, hd4⟩, ⟨_, he4⟩, fun g1 g2 z k => by
        obtain ⟨o, v, e1, e2⟩ := z
        exact ⟨o, v, k o e1, e2⟩⟩
    have J5 := inv_hold (s := { s' with heap := h4 }) J4 na n0 nL nC nP new
    refine store_ok (X := X.suite a (X.pn ++ pins)) (v := .ref a) (inv_suite0 J5 a) hN hi (.inl hln) rfl (fun s5 S5 => ?_) (.inr hln)
    refine wpAny_mono ((hsu a (X.pn ++ pins)).run [] s5 _ _ _ S5 (hyes a na)) (fun f s6 hsp => ?_) (fun _ _ z => False.elim z)
    have fin : ∀ {σ6 : L2.St} {H6 : Hp} {Q6 : Shared → Prop}, Inv (X.suite a (X.pn ++ pins)) [] σ6 H6 s6 → (∀ s7, Inv X pins (σ6.set i none) H6 s7 → Q6 s7) →
        wpAny (model X.prog X.w) X.A (do bindName X.env n .none; unbindBehindTheSuite X.env n pos') (fun _ s7 => Q6 s7) X.xe s6 :=
      fun {σ6 H6 Q6} S6 hq => gone_ok (inv_unsuite0 S6 ok) hN hi hln hq
    cases f with
    | next =>
      obtain ⟨σ6, H6, S6, q6⟩ := hsp
      exact fin S6 fun s7 J7 => ⟨_, _, J7, q6⟩
    | brk =>
      obtain ⟨σ6, H6, S6, q6⟩ := hsp
      exact fin S6 fun s7 J7 => ⟨_, _, J7, q6⟩
    | cont =>
      obtain ⟨σ6, H6, S6, q6⟩ := hsp
      exact fin S6 fun s7 J7 => ⟨_, _, J7, q6⟩
    | ret u =>
      obtain ⟨v6, σ6, H6, S6, r6, q6⟩ := hsp
      exact fin S6 fun s7 J7 => ⟨_, _, _, J7, r6, q6⟩
  · cases f with
    | next =>
      obtain ⟨σ1, H1, J1, q⟩ := hsp
      exact wpAny_execs_nil ⟨σ1, H1, J1.ofTry ok, q⟩
    | brk =>
      obtain ⟨σ1, H1, J1, q⟩ := hsp
      exact ⟨σ1, H1, J1.ofTry ok, q⟩
    | cont =>
      obtain ⟨σ1, H1, J1, q⟩ := hsp
      exact ⟨σ1, H1, J1.ofTry ok, q⟩
    | ret u =>
      obtain ⟨v1, σ1, H1, J1, r1, q⟩ := hsp
      exact ⟨v1, σ1, H1, J1.ofTry ok, r1, q⟩
/-- e.f, e a held exception of an own class -/
def tHeldF (C : Addr) (f : Str) (te : TE) : TE := fun σ H Q => te σ H fun x H1 => ∃ (a dd : Addr) (fs : List (Str × V)) (v : V), x = .ref a ∧ H1 a = some (exH (.ref C) (some dd) a) ∧ H1 dd = some (.xd fs) ∧ fs.lookup f = some v ∧ Q v H1
theorem pe_heldF {C : Addr} {e : Expr} {te : TE} {f : Str} (T : XfC X.K C) (hno : PySem.W.findIn X.K (.ref C) f = some none) (he : PE X e te) (hb : attributeBase e f X.env (eval e X.env) = eval e X.env := by rfl) :
    PE X (.Attribute e f pos) (tHeldF C f te) := by
  refine ⟨fun pins s σ H Q I h => ?_⟩
  refine attr_of hb (thn (he.run pins s σ H _ I h) fun u s1 hh => ?_)
  obtain ⟨y, H1, I1, ry, a, dd, fs, v, rfl, ea, ed, l, q⟩ := hh
  obtain rfl : u = Value.ref a := ry
  have xa : ObjOk X.prog X.w H1 s1.heap a (.ext fun h => ∃ (oe : Obj) (vs : Array Value), h.get? a = some oe ∧ Zc (.ref C) (some dd) oe ∧ oe.data = .fields vs) := I1.hok a _ ea
  obtain ⟨⟨oe, vs, ho, hz, hd⟩, _⟩ := xa
  have xd : ObjOk X.prog X.w H1 s1.heap dd (.xd fs) := I1.hok dd _ ed
  obtain ⟨mA, hns, hr⟩ := xd
  obtain ⟨od, hod, hl⟩ := lookIn_ns hns
  obtain ⟨u, hu, ru⟩ := RelO.some_of (v := v) (o := mA f) (by rw [← l]; exact hr f)
  have J : PySem.W.InstAt s1.heap a oe C (some od) := ⟨ho, hz.1, by unfold PySem.W.notCls; rw [hd] <;> rfl, by rw [hz.2]; exact hod⟩
  exact HandSPX.exc_get I1.kIn J T.ga T.gg T.exC (PySem.W.findObj_own T.hdC hno rfl (by rw [hl, hu])) (handed_of ru) ⟨v, H1, I1.tok _, ru, q⟩
end
end K18

set_option maxHeartbeats 4000000
namespace K18
open PySem PySem.Spec PyProof.Rows L2
/-! ### built-ins by name -/
theorem b_len : bootBuiltins "len" = some (.builtin "len") := by decide +kernel
theorem b_isinstance : bootBuiltins "isinstance" = some (.builtin "isinstance") := by decide +kernel
theorem b_all : bootBuiltins "all" = some (.builtin "all") := by decide +kernel
theorem b_abs : bootBuiltins "abs" = some (.builtin "abs") := by decide +kernel
theorem b_max : bootBuiltins "max" = some (.builtin "max") := by decide +kernel
theorem b_min : bootBuiltins "min" = some (.builtin "min") := by decide +kernel
theorem b_int : bootBuiltins "int" = some (.type "int") := by decide +kernel
theorem b_str : bootBuiltins "str" = some (.type "str") := by decide +kernel
theorem b_bool : bootBuiltins "bool" = some (.type "bool") := by decide +kernel
theorem b_list : bootBuiltins "list" = some (.type "list") := by decide +kernel
theorem b_tuple : bootBuiltins "tuple" = some (.type "tuple") := by decide +kernel
section
variable {X : Cx} {x : Str} {pos : Pos}
theorem gi {i : Int} (h : ∃ t, X.mg x = some (.int i t)) (hg : Gl X x := by rfl) (hd : (x == ("__debug__" : Str)) = false := by decide) : PE X (.Name x pos) (tC (.int i)) := by
  obtain ⟨t, h⟩ := h
  exact pe_glob hg h ⟨t, rfl⟩ hd
theorem gs {z : Str} (h : ∃ t, X.mg x = some (.str z t)) (hg : Gl X x := by rfl) (hd : (x == ("__debug__" : Str)) = false := by decide) : PE X (.Name x pos) (tC (.str z)) := by
  obtain ⟨t, h⟩ := h
  exact pe_glob hg h ⟨t, rfl⟩ hd
theorem gr {a : Addr} (h : X.mg x = some (.ref a)) (hg : Gl X x := by rfl) (hd : (x == ("__debug__" : Str)) = false := by decide) : PE X (.Name x pos) (tC (.ref a)) :=
  pe_glob hg h rfl hd
theorem gty_int (h : X.mg "int" = none) (hg : Gl X "int" := by rfl) : PE X (.Name "int" pos) (tC (.ty "int")) := pe_bltn hg h b_int rfl
theorem gty_str (h : X.mg "str" = none) (hg : Gl X "str" := by rfl) : PE X (.Name "str" pos) (tC (.ty "str")) := pe_bltn hg h b_str rfl
theorem gty_bool (h : X.mg "bool" = none) (hg : Gl X "bool" := by rfl) : PE X (.Name "bool" pos) (tC (.ty "bool")) := pe_bltn hg h b_bool rfl
theorem gty_list (h : X.mg "list" = none) (hg : Gl X "list" := by rfl) : PE X (.Name "list" pos) (tC (.ty "list")) := pe_bltn hg h b_list rfl
theorem gty_tuple (h : X.mg "tuple" = none) (hg : Gl X "tuple" := by rfl) : PE X (.Name "tuple" pos) (tC (.ty "tuple")) := pe_bltn hg h b_tuple rfl
end
/-! ### defs by their names -/
/-- a def that may be called with all its arguments by place (dvs: defaults behind them) -/
structure Cal (P : Program) (w : World) (K : PySem.W.Frag) (mg : Str → Option Value) (base : Heap) (CX : CXT) (k : Nat) (x : Str) (sp : Sp) (dvs : List V) : Prop where
  ex : ∃ (f : Addr) (fd : FuncData) (ps : List Str) (ds : List Value), FnOk P w K mg base CX k f fd ps sp ∧ mg x = some (.ref f) ∧ PySem.W.keepIn K (.ref f) = true ∧ Binds K fd ps ds ∧ Vals dvs ds
/-- a def that may be called with n arguments by place, then keywords ks -/
structure KCal (P : Program) (w : World) (K : PySem.W.Frag) (mg : Str → Option Value) (base : Heap) (CX : CXT) (k : Nat) (x : Str) (sp : Sp) (n : Nat) (ks : List Str) (gV : List V → List V → List V) : Prop where
  ex : ∃ (f : Addr) (fd : FuncData) (ps : List Str) (g : List Value → List Value → List Value), FnOk P w K mg base CX k f fd ps sp ∧ mg x = some (.ref f) ∧ PySem.W.keepIn K (.ref f) = true ∧ KBn K fd ps n ks g gV
structure Met (P : Program) (w : World) (K : PySem.W.Frag) (mg : Str → Option Value) (base : Heap) (k : Nat) (C : Addr) (m : Str) (sp : Sp) (dvs : List V) : Prop where
  ex : ∃ (f : Addr) (fd : FuncData) (ps : List Str) (ds : List Value), Cls K C ∧ Meth K C m f ∧ FnOk P w K mg base CX0 k f fd ps sp ∧ Binds K fd ps ds ∧ Vals dvs ds
structure KMet (P : Program) (w : World) (K : PySem.W.Frag) (mg : Str → Option Value) (base : Heap) (k : Nat) (C : Addr) (m : Str) (sp : Sp) (n : Nat) (ks : List Str) (gV : List V → List V → List V) : Prop where
  ex : ∃ (f : Addr) (fd : FuncData) (ps : List Str) (g : List Value → List Value → List Value), Cls K C ∧ Meth K C m f ∧ FnOk P w K mg base CX0 k f fd ps sp ∧ KBn K fd ps n ks g gV
/-- a class that may be made with n arguments by place, then keywords ks -/
structure KMak (P : Program) (w : World) (K : PySem.W.Frag) (mg : Str → Option Value) (base : Heap) (k : Nat) (x : Str) (C : Addr) (sp : Sp) (n : Nat) (ks : List Str) (gV : List V → List V → List V) : Prop where
  ex : ∃ (f : Addr) (fd : FuncData) (ps : List Str) (g : List Value → List Value → List Value), Mk K C f ∧ mg x = some (.ref C) ∧ FnOk P w K mg base CX0 k f fd ps sp ∧ KBn K fd ps (n + 1) ks g gV
def tKc (n m : Nat) (sp : Sp) (gV : List V → List V → List V) (E : L2.St → XK) (t tk : TA) : TE := fun σ H Q => t σ H fun vs H1 => tk σ H1 fun zs H2 => vs.length = n ∧ zs.length = m ∧ sp (gV vs zs) H2 Q (E σ)
def tCs (sp : Sp) (dvs : List V) (E : L2.St → XK) (t : TA) : TE := fun σ H Q => t σ H fun vs H1 => sp (vs ++ dvs) H1 Q (E σ)
def tKm (C : Addr) (m : Str) (sp : Sp) (gV : List V → List V → List V) (n l : Nat) (ta : TE) (tk : TA) : TE := fun σ H Q => ta σ H fun x H1 => ∃ a dx fs, x = .ref a ∧ H1 a = some (.ins C dx fs) ∧ fs.lookup m = none ∧
  tk σ H1 fun zs H2 => n = 1 ∧ zs.length = l ∧ sp (gV [x] zs) H2 Q E0
theorem none_at {X : Cx} {σ : L2.St} : PassesAt (L2.CX X.prog X.w) X σ E0 := fun pins H s e s' I c => (passL (X := X)) pins σ H s e s' I c
theorem none_at0 {X : Cx} {σ : L2.St} {E : XK} : PassesAt CX0 X σ E := fun _ _ _ _ _ _ h => h.elim
section
variable {X : Cx} {CX : CXT} {j k n : Nat} {C : Addr} {x m : Str} {sp : Sp} {dvs : List V} {ks : List Str} {gV : List V → List V → List V} {E : L2.St → XK} {p pos apos : Pos} {e o : Expr} {es : List Expr} {kws : List Keyword} {ta : TE} {t tk : TA}
theorem cl (c : Cal X.prog X.w X.K X.mg X.base CX0 k x sp dvs) (hr : Room j X.A) (hk : k ≤ j) (ha : PA X (e :: es) t) (hg : Gl X x := by rfl)
    (hdb : (x == ("__debug__" : Str)) = false := by decide) (he : starEach (e :: es) X.env = (false, eval e X.env) :: starEach es X.env := by rfl) (hpl : (backTo pos (starEach es X.env)).any (·.1) = false := by rfl) :
    PE X (.Call (.Name x p) (e :: es) [] pos) (tCall sp dvs E0 t) := by
  obtain ⟨f, fd, ps, ds, F, hm, kp, b, d⟩ := c.ex
  exact pe_call F (hr.mono hk) hg hm kp b d pass0 ha hdb he hpl
/-- a callee that may raise -/
theorem clS (c : Cal X.prog X.w X.K X.mg X.base CX k x sp dvs) (hr : Room j X.A) (hk : k ≤ j) (hx : ∀ σ, PassesAt CX X σ (E σ)) (ha : PA X (e :: es) t) (hg : Gl X x := by rfl)
    (hdb : (x == ("__debug__" : Str)) = false := by decide) (he : starEach (e :: es) X.env = (false, eval e X.env) :: starEach es X.env := by rfl) (hpl : (backTo pos (starEach es X.env)).any (·.1) = false := by rfl) :
    PE X (.Call (.Name x p) (e :: es) [] pos) (tCs sp dvs E t) := by
  obtain ⟨f, fd, ps, ds, F, hm, kp, b, d⟩ := c.ex
  refine ⟨fun pins s σ H Q I h => ?_⟩
  refine wpAny_Call_Name_kw (ld_glob I hg hm ?_ hdb)
  refine PySem.W.callWith_K (h₀ := X.base) I.ok.mod.kin kp (thn (ha.run pos pins s σ H _ I h) fun us s1 hh => ?_) he hpl
  obtain ⟨vs, H1, I1, r, q⟩ := hh
  have r2 : Vals (vs ++ dvs) (us ++ ds) := r.append d
  have hl : (us ++ ds).length = ps.length := r2.length.symm.trans (F.len _ _ _ _ q)
  refine ⟨I1.kIn, wpAny_call (codeAny_mono (F.run X.A X.stack s1 H1 ⟨us, []⟩ (us ++ ds) (vs ++ dvs) Q (E σ) (hr.mono hk) I1.env0 (b s1 us I1.kIn hl) r2 q) fun r s' hq => ?_)⟩
  cases r with
  | error e => exact hx σ pins H1 s1 e s' I1 hq
  | ok fl =>
    cases fl with
    | ret u => exact I1.after hq
    | next => exact hq.elim
    | brk => exact hq.elim
    | cont => exact hq.elim
/-- the callee runs, with keywords -/
theorem run_kc {f : Addr} {fd : FuncData} {ps : List Str} {g : List Value → List Value → List Value} {pins : List (Addr × Obj)} {σ : L2.St} {H : Hp} {s : Shared} {Q : VK} {us ws : List Value} {vs zs : List V} {E : XK} (F : FnOk X.prog X.w X.K X.mg X.base CX k f fd ps sp) (hr : Room k X.A)
    (hb : KBn X.K fd ps n ks g gV) (hx : PassesAt CX X σ E) (I : Inv X pins σ H s) (r : Vals vs us) (rz : Vals zs ws) (l1 : vs.length = n) (l2 : zs.length = ks.length) (h : sp (gV vs zs) H Q E) :
    wpAny (model X.prog X.w) X.A (call (.ref f) us (ks.zip ws)) (EP X pins σ Q) X.xe s := by
  have bd := hb.to s us ws I.kIn (r.length.symm.trans l1) (rz.length.symm.trans l2)
  refine wpAny_call (codeAny_mono (F.run X.A X.stack s H ⟨us, ks.zip ws⟩ (g us ws) (gV vs zs) Q E hr I.env0 bd (hb.rel r rz) h) fun r s' hq => ?_)
  cases r with
  | error e => exact hx pins H s e s' I hq
  | ok fl =>
    cases fl with
    | ret u => exact I.after hq
    | next => exact hq.elim
    | brk => exact hq.elim
    | cont => exact hq.elim
theorem kc (c : KCal X.prog X.w X.K X.mg X.base CX k x sp n ks gV) (hr : Room j X.A) (hk : k ≤ j) (hx : ∀ σ, PassesAt CX X σ (E σ)) (ha : PA X (e :: es) t) (hkw : PK X kws tk) (hg : Gl X x := by rfl)
    (hall : (backToKw pos (keywordEach kws X.env)).all (·.1.isSome) = true := by rfl) (hks : (backToKw pos (keywordEach kws X.env)).filterMap (·.1) = ks := by rfl)
    (hdb : (x == ("__debug__" : Str)) = false := by decide) (he : starEach (e :: es) X.env = (false, eval e X.env) :: starEach es X.env := by rfl)
    (hpl : ((backTo pos (starEach (e :: es) X.env)).any (·.1) || (backToKw pos (keywordEach kws X.env)).any (·.1.isNone)) = false := by rfl) :
    PE X (.Call (.Name x p) (e :: es) kws pos) (tKc n ks.length sp gV E t tk) := by
  obtain ⟨f, fd, ps, g, F, hm, kp, b⟩ := c.ex
  refine ⟨fun pins s σ H Q I h => ?_⟩
  refine wpAny_Call_Name_kw (ld_glob I hg hm ?_ hdb)
  refine PySem.W.callWith_KW (h₀ := X.base) I.ok.mod.kin kp hall (thn (ha.run pos pins s σ H _ I h) fun us s1 hh => ?_) hpl he
  obtain ⟨vs, H1, I1, r, q⟩ := hh
  refine thn (hkw.run pos pins s1 σ H1 _ I1 q) fun ws s2 hh => ?_
  obtain ⟨zs, H2, I2, rz, l1, l2, q2⟩ := hh
  refine ⟨I2.kIn, ?_⟩
  rw [hks]
  exact run_kc F (hr.mono hk) b (hx σ) I2 r rz l1 l2 q2
theorem kc0 (c : KCal X.prog X.w X.K X.mg X.base CX k x sp 0 ks gV) (hr : Room j X.A) (hk : k ≤ j) (hx : ∀ σ, PassesAt CX X σ (E σ)) (hkw : PK X kws tk) (hg : Gl X x := by rfl)
    (hall : (backToKw pos (keywordEach kws X.env)).all (·.1.isSome) = true := by rfl) (hks : (backToKw pos (keywordEach kws X.env)).filterMap (·.1) = ks := by rfl)
    (hdb : (x == ("__debug__" : Str)) = false := by decide)
    (hpl : ((backTo pos (starEach [] X.env)).any (·.1) || (backToKw pos (keywordEach kws X.env)).any (·.1.isNone)) = false := by rfl) :
    PE X (.Call (.Name x p) [] kws pos) (tKc 0 ks.length sp gV E tNil tk) := by
  obtain ⟨f, fd, ps, g, F, hm, kp, b⟩ := c.ex
  refine ⟨fun pins s σ H Q I h => ?_⟩
  refine wpAny_Call_Name_kw (ld_glob I hg hm ?_ hdb)
  refine PySem.W.callWith_KW0 (h₀ := X.base) I.ok.mod.kin kp hall ?_ hpl
  refine thn (hkw.run pos pins s σ H _ I h) fun ws s2 hh => ?_
  obtain ⟨zs, H2, I2, rz, l1, l2, q2⟩ := hh
  refine ⟨I2.kIn, ?_⟩
  rw [hks]
  exact run_kc (us := []) F (hr.mono hk) b (hx σ) I2 .nil rz l1 l2 q2
theorem ml {pl : Sem Bool} (c : Met X.prog X.w X.K X.mg X.base k C m sp dvs) (hr : Room j X.A) (hk : k ≤ j) (he : PE X o ta) (ha : PA X (e :: es) t)
    (hst : starEach (e :: es) X.env = (false, eval e X.env) :: starEach es X.env := by rfl) (hpl : (backTo pos (starEach es X.env)).any (·.1) = false := by rfl)
    (ht : eval (.Call (.Attribute o m apos) (e :: es) [] pos) X.env = (do
      let ov ← eval o X.env
      standAt apos.atName
      let (f, first) ← holding [ov] (getMethod ov m pl)
      callWith pos f first (backTo pos (starEach (e :: es) X.env)) (backToKw pos (keywordEach [] X.env))) := by rfl) :
    PE X (.Call (.Attribute o m apos) (e :: es) [] pos) (tMeth C m sp dvs E0 ta t) := by
  obtain ⟨f, fd, ps, ds, hc, hm, F, b, d⟩ := c.ex
  exact pe_meth (pl := pl) he hc hm F (hr.mono hk) b d pass0 ha hst hpl ht
theorem ml0 {pl : Sem Bool} (c : Met X.prog X.w X.K X.mg X.base k C m sp dvs) (hr : Room j X.A) (hk : k ≤ j) (he : PE X o ta)
    (ht : eval (.Call (.Attribute o m apos) [] [] pos) X.env = (do
      let ov ← eval o X.env
      standAt apos.atName
      let (f, first) ← holding [ov] (getMethod ov m pl)
      callWith pos f first (backTo pos (starEach [] X.env)) (backToKw pos (keywordEach [] X.env))) := by rfl) :
    PE X (.Call (.Attribute o m apos) [] [] pos) (tMeth C m sp dvs E0 ta tNil) := by
  obtain ⟨f, fd, ps, ds, hc, hm, F, b, d⟩ := c.ex
  exact pe_meth0 (pl := pl) he hc hm F (hr.mono hk) b d pass0 ht
/-- o.m(k = v, ..) -/
theorem mk0 {pl : Sem Bool} (c : KMet X.prog X.w X.K X.mg X.base k C m sp 1 ks gV) (hr : Room j X.A) (hk : k ≤ j) (he : PE X o ta) (hkw : PK X kws tk)
    (hall : (backToKw pos (keywordEach kws X.env)).all (·.1.isSome) = true := by rfl) (hks : (backToKw pos (keywordEach kws X.env)).filterMap (·.1) = ks := by rfl)
    (hpl : ((backTo pos (starEach [] X.env)).any (·.1) || (backToKw pos (keywordEach kws X.env)).any (·.1.isNone)) = false := by rfl)
    (ht : eval (.Call (.Attribute o m apos) [] kws pos) X.env = (do
      let ov ← eval o X.env
      standAt apos.atName
      let (f, first) ← holding [ov] (getMethod ov m pl)
      callWith pos f first (backTo pos (starEach [] X.env)) (backToKw pos (keywordEach kws X.env))) := by rfl) :
    PE X (.Call (.Attribute o m apos) [] kws pos) (tKm C m sp gV 1 ks.length ta tk) := by
  obtain ⟨f, fd, ps, g, hc, hm, F, b⟩ := c.ex
  refine ⟨fun pins s σ H Q I h => ?_⟩
  refine PySem.W.methodCall_KW (pl := pl) (thn (he.run pins s σ H _ I h) fun u s1 hh => ?_) ht
  obtain ⟨y, H1, I1, ry, a, dx, fs, rfl, ea, l, q⟩ := hh
  obtain rfl : u = Value.ref a := ry
  refine getmeth_ok I1 ea hc hm l ?_
  refine PySem.W.callWith_KW0 (first := [.ref a]) (h₀ := X.base) I.ok.mod.kin hm.kp hall ?_ hpl
  refine thn (hkw.run pos pins s1 σ H1 _ I1 q) fun ws s2 hh => ?_
  obtain ⟨zs, H2, I2, rz, l1, l2, q2⟩ := hh
  refine ⟨I2.kIn, ?_⟩
  rw [hks]
  exact run_kc (us := [.ref a]) (vs := [.ref a]) F (hr.mono hk) b none_at0 I2 (.cons rfl .nil) rz rfl l2 q2
/-- C(e, .., k = v, ..) -/
theorem kmk (c : KMak X.prog X.w X.K X.mg X.base k x C sp n ks gV) (hr : Room j X.A) (hk : k + 1 ≤ j) (ha : PA X (e :: es) t) (hkw : PK X kws tk) (hg : Gl X x := by rfl)
    (hall : (backToKw pos (keywordEach kws X.env)).all (·.1.isSome) = true := by rfl) (hks : (backToKw pos (keywordEach kws X.env)).filterMap (·.1) = ks := by rfl) (hdb : (x == ("__debug__" : Str)) = false := by decide)
    (he : starEach (e :: es) X.env = (false, eval e X.env) :: starEach es X.env := by rfl) (hpl : ((backTo pos (starEach (e :: es) X.env)).any (·.1) || (backToKw pos (keywordEach kws X.env)).any (·.1.isNone)) = false := by rfl) :
    PE X (.Call (.Name x p) (e :: es) kws pos) (tMakeN C n ks.length sp gV E0 t tk) := by
  obtain ⟨f, fd, ps, g, M, hm, F, b⟩ := c.ex
  exact pe_makeN M F (hr.mono hk) hg hm b pass0 ha hkw hall hks hdb he hpl
end
/-! ### defs by their bodies -/
/-- a def of the text as it stands behind the top -/
structure Fn (K : PySem.W.Frag) (mg : Str → Option Value) (x : Str) (st : Stmt) (kws : List (Str × V)) : Prop where
  ex : ∃ (f : Addr) (fd : FuncData), FunD K x x (defArgs st) (defBody st) (defScope st) [] kws f fd ∧ mg x = some (.ref f)
section
variable {P : Program} {w : World} {K : PySem.W.Frag} {mg : Str → Option Value} {base : Heap}
/-- the body keeps the promise: nothing is raised -/
def Body (P : Program) (w : World) (K : PySem.W.Frag) (mg : Str → Option Value) (base : Heap) (N : List Str) (q : Str) (st : Stmt) (k : Nat) (sp : Sp) : Prop :=
  ∀ (f : Addr) (cdv : Value) (A : Around) (outer : List Env) (s : Shared) (H : Hp) (vs : List V) (Q : VK) (E : XK), Room k (A.deeper (envOfC q (defScope st) s.heap.objs.size f cdv)) → sp vs H Q E →
    ∃ t, PSs (cxOf CX0 P w K mg base N q (defScope st) f cdv A outer s H E).nox (defBody st) t ∧ t { nx := fun _ H' => Q .non H', rt := Q } (start N vs) H
/-- .. it may raise -/
def BodyX (P : Program) (w : World) (K : PySem.W.Frag) (mg : Str → Option Value) (base : Heap) (N : List Str) (q : Str) (st : Stmt) (k : Nat) (sp : Sp) : Prop :=
  ∀ (f : Addr) (cdv : Value) (A : Around) (outer : List Env) (s : Shared) (H : Hp) (vs : List V) (Q : VK) (E : XK), Room k (A.deeper (envOfC q (defScope st) s.heap.objs.size f cdv)) → sp vs H Q E →
    ∃ t, PSs (cxOf (L2.CX P w) P w K mg base N q (defScope st) f cdv A outer s H E) (defBody st) t ∧ t { nx := fun _ H' => Q .non H', rt := Q } (start N vs) H
theorem Body.fn {q x : Str} {st : Stmt} {dvs : List V} {kws : List (Str × V)} {f : Addr} {fd : FuncData} {N ps : List Str} {k : Nat} {sp : Sp} (b : Body P w K mg base N q st k sp) (F : FunD K x q (defArgs st) (defBody st) (defScope st) dvs kws f fd)
    (S : FnScope N ps (defScope st)) (len : ∀ vs H Q E, sp vs H Q E → vs.length = ps.length) : FnOk P w K mg base CX0 (k + 1) f fd ps sp :=
  F.ok S len fun cdv A outer s H vs Q E hr h => by
    obtain ⟨t, h1, h2⟩ := b f cdv A outer s H vs Q E hr h
    exact ⟨t, h1.nox, h2⟩
theorem BodyX.fn {q x : Str} {st : Stmt} {dvs : List V} {kws : List (Str × V)} {f : Addr} {fd : FuncData} {N ps : List Str} {k : Nat} {sp : Sp} (b : BodyX P w K mg base N q st k sp) (F : FunD K x q (defArgs st) (defBody st) (defScope st) dvs kws f fd)
    (S : FnScope N ps (defScope st)) (len : ∀ vs H Q E, sp vs H Q E → vs.length = ps.length) : FnOk P w K mg base (L2.CX P w) (k + 1) f fd ps sp :=
  F.ok S len fun cdv A outer s H vs Q E hr h => b f cdv A outer s H vs Q E hr h
theorem Fn.cal {x : Str} {st : Stmt} {N ps : List Str} {k : Nat} {sp : Sp} (F : Fn K mg x st []) (S : FnScope N ps (defScope st)) (len : ∀ vs H Q E, sp vs H Q E → vs.length = ps.length)
    (hb : ∀ (kV doc pm : Value) (an : Option Addr) (cdv ct : Value) (us : List Value), us.length = ps.length → bindArgs (PySem.W.fnOf x x (defArgs st) (defBody st) (defScope st) .none kV doc pm an cdv ct) ⟨us, []⟩ = pure (ps.zip us))
    (b : Body P w K mg base N x st k sp) : Cal P w K mg base CX0 (k + 1) x sp [] := by
  obtain ⟨f, fd, F, hm⟩ := F.ex
  exact ⟨f, fd, ps, [], b.fn F S len, hm, F.kp, F.bindsN hb, .nil⟩
theorem Fn.calX {x : Str} {st : Stmt} {N ps : List Str} {k : Nat} {sp : Sp} (F : Fn K mg x st []) (S : FnScope N ps (defScope st)) (len : ∀ vs H Q E, sp vs H Q E → vs.length = ps.length)
    (hb : ∀ (kV doc pm : Value) (an : Option Addr) (cdv ct : Value) (us : List Value), us.length = ps.length → bindArgs (PySem.W.fnOf x x (defArgs st) (defBody st) (defScope st) .none kV doc pm an cdv ct) ⟨us, []⟩ = pure (ps.zip us))
    (b : BodyX P w K mg base N x st k sp) : Cal P w K mg base (L2.CX P w) (k + 1) x sp [] := by
  obtain ⟨f, fd, F, hm⟩ := F.ex
  exact ⟨f, fd, ps, [], b.fn F S len, hm, F.kp, F.bindsN hb, .nil⟩
/-- a def with keyword-only defaults, all of them given by keywords -/
theorem Fn.kbn {x : Str} {st : Stmt} {kws : List (Str × V)} {ps : List Str} (n : Nat) (ks : List Str) (g : {α : Type} → List α → List α → List α) {f : Addr} {fd : FuncData} (F : FunD K x x (defArgs st) (defBody st) (defScope st) [] kws f fd)
    (hrel : ∀ {vs zs : List V} {us ws : List Value}, Vals vs us → Vals zs ws → Vals (g vs zs) (g us ws))
    (h : ∀ (kV doc pm : Value) (an : Option Addr) (cdv ct : Value) (us ws : List Value), us.length = n → ws.length = ks.length →
      bindArgs (PySem.W.fnOf x x (defArgs st) (defBody st) (defScope st) .none kV doc pm an cdv ct) ⟨us, ks.zip ws⟩ = pure (ps.zip (g us ws))) : KBn K fd ps n ks (fun us ws => g us ws) (fun vs zs => g vs zs) := by
  obtain ⟨oc, od, dV, kV, doc, pm, an, cdv, ct, osl, rfl, lk, hcd, hD, hK⟩ := F.ex
  rcases hD with ⟨_, rfl⟩ | ⟨e, _⟩
  · exact ⟨fun s us ws X l1 l2 => .of_eq (h kV doc pm an cdv ct us ws l1 l2), fun r1 r2 => hrel r1 r2⟩
  · exact absurd rfl e
end
end K18

set_option maxHeartbeats 4000000
namespace K18
open PySem PySem.Spec PyProof.Rows L2
abbrev CM (K : PySem.W.Frag) : Addr := He.ga K "Mixing"
abbrev CB (K : PySem.W.Frag) : Addr := He.ga K "BadLog"
/-- what the top has written -/
structure Txt (K : PySem.W.Frag) (mg : Str → Option Value) : Prop where
  i_LONGEST : ∃ t, mg "LONGEST" = some (.int 4 t)
  i_BASE : ∃ t, mg "BASE" = some (.int 27 t)
  i_NOTES : ∃ t, mg "NOTES" = some (.int 9973 t)
  i_SPAN : ∃ t, mg "SPAN" = some (.int 26500305465 t)
  i_FACTOR : ∃ t, mg "FACTOR" = some (.int 7919 t)
  i_BOARDS : ∃ t, mg "BOARDS" = some (.int 4 t)
  i_FIXED : ∃ t, mg "FIXED" = some (.int 2 t)
  i_MOST_BOARDS : ∃ t, mg "MOST_BOARDS" = some (.int 8 t)
  i_LEAST_WIDTH : ∃ t, mg "LEAST_WIDTH" = some (.int 3 t)
  i_MOST : ∃ t, mg "MOST" = some (.int 1000000 t)
  i_PLAIN_BEGIN : ∃ t, mg "PLAIN_BEGIN" = some (.int 1 t)
  i_RESET_BEGIN : ∃ t, mg "RESET_BEGIN" = some (.int 2 t)
  s_LETTERS : ∃ t, mg "LETTERS" = some (.str "abcdefghijklmnopqrstuvwxyz" t)
  s_END : ∃ t, mg "END" = some (.str "end" t)
  s_RESET : ∃ t, mg "RESET" = some (.str "reset" t)
  g_WORDS : mg "WORDS" = some (.ref (He.ga K "WORDS"))
  t_WORDS : ∀ H : Hp, SqT K H (He.ga K "WORDS") ((["load", "set", "end", "late", "reset"] : List Str).map V.str)
  g_BARE_WORDS : mg "BARE_WORDS" = some (.ref (He.ga K "BARE_WORDS"))
  t_BARE_WORDS : ∀ H : Hp, SqT K H (He.ga K "BARE_WORDS") ((["end", "reset"] : List Str).map V.str)
  g_BEHIND_END : mg "BEHIND_END" = some (.ref (He.ga K "BEHIND_END"))
  t_BEHIND_END : ∀ H : Hp, SqT K H (He.ga K "BEHIND_END") ((["late", "reset"] : List Str).map V.str)
  z_isinstance : mg "isinstance" = none
  z_str : mg "str" = none
  z_len : mg "len" = none
  z_all : mg "all" = none
  z_int : mg "int" = none
  z_bool : mg "bool" = none
  z_tuple : mg "tuple" = none
  z_enumerate : mg "enumerate" = none
  z_list : mg "list" = none
  z_range : mg "range" = none
  z_abs : mg "abs" = none
  z_zip : mg "zip" = none
  z_min : mg "min" = none
  z_max : mg "max" = none
  z_ValueError : mg "ValueError" = none
  g_Mixing : mg "Mixing" = some (.ref (CM K))
  cl : Cls K (CM K)
  nW : NoAttr K (CM K) "width"
  nF : NoAttr K (CM K) "factor"
  mB : Meth K (CM K) "begin" (He.ma K (CM K) "begin")
  mM : Meth K (CM K) "mixed" (He.ma K (CM K) "mixed")
  mkM : Mk K (CM K) (He.ma K (CM K) "__init__")
  g_BadLog : mg "BadLog" = some (.ref (CB K))
  oex : OexC K (CB K)
  xf : XfC K (CB K)
  exm : PySem.W.exmOne K (.ref (CB K)) (.ref (CB K)) = some true
  nWhat : PySem.W.findIn K (.ref (CB K)) "what" = some none
  iC : PySem.W.findIn K (.ref (CB K)) "__init__" = some (some (.ref (He.ma K (CB K) "__init__")))
  tI : PySem.W.typeIn K (.ref (He.ma K (CB K) "__init__")) = some (.type "function")
  y_WORDS : ∃ o, K.lookup (He.ga K "WORDS") = some o ∧ o.cls = .type "tuple" ∧ o.dict = none
  vi : PySem.W.findCls K (.type "ValueError") (.type "type") "__init__" = some (.val (.builtin "ValueError.__init__"))
theorem viB_ok {K : PySem.W.Frag} (h : viB K = true) : PySem.W.findCls K (.type "ValueError") (.type "type") "__init__" = some (.val (.builtin "ValueError.__init__")) := by
  unfold viB at h
  split at h
  · rename_i n e
    rw [e, of_decide_eq_true h]
  · cases h
section
variable {K : PySem.W.Frag} {h : Heap} {mg : Str → Option Value}
theorem says_of (c : obsK K = valK) : He.SaysD fa fn K := congrArg (fun z : AlK => z.1) c
theorem exB_of (c : obsK K = valK) : exB K = true := congrArg (fun z : AlK => z.2) c
theorem txt_of (X : K.In h) (G : h.Ns mainGlobals mg) (c0 : obsK K = valK) : Txt K mg := by
  have c := says_of c0
  have e := exB_of c0
  unfold exB at e
  obtain ⟨e1, e⟩ := He.ba e
  obtain ⟨e2, e⟩ := He.ba e
  obtain ⟨e3, e⟩ := He.ba e
  obtain ⟨e4, e⟩ := He.ba e
  obtain ⟨e5, e⟩ := He.ba e
  obtain ⟨e6, e⟩ := He.ba e
  obtain ⟨e7, e⟩ := He.ba e
  obtain ⟨e8, e⟩ := He.ba e
  obtain ⟨e9, e⟩ := He.ba e
  obtain ⟨e10, e⟩ := He.ba e
  obtain ⟨e12, e11⟩ := He.ba e
  exact {
    i_LONGEST := He.int_ok X G (c.fact 0 (f := .int "LONGEST" 4) rfl)
    i_BASE := He.int_ok X G (c.fact 1 (f := .int "BASE" 27) rfl)
    i_NOTES := He.int_ok X G (c.fact 2 (f := .int "NOTES" 9973) rfl)
    i_SPAN := He.int_ok X G (c.fact 3 (f := .int "SPAN" 26500305465) rfl)
    i_FACTOR := He.int_ok X G (c.fact 4 (f := .int "FACTOR" 7919) rfl)
    i_BOARDS := He.int_ok X G (c.fact 5 (f := .int "BOARDS" 4) rfl)
    i_FIXED := He.int_ok X G (c.fact 6 (f := .int "FIXED" 2) rfl)
    i_MOST_BOARDS := He.int_ok X G (c.fact 7 (f := .int "MOST_BOARDS" 8) rfl)
    i_LEAST_WIDTH := He.int_ok X G (c.fact 8 (f := .int "LEAST_WIDTH" 3) rfl)
    i_MOST := He.int_ok X G (c.fact 9 (f := .int "MOST" 1000000) rfl)
    i_PLAIN_BEGIN := He.int_ok X G (c.fact 10 (f := .int "PLAIN_BEGIN" 1) rfl)
    i_RESET_BEGIN := He.int_ok X G (c.fact 11 (f := .int "RESET_BEGIN" 2) rfl)
    s_LETTERS := He.str_ok X G (c.fact 12 (f := .str "LETTERS" "abcdefghijklmnopqrstuvwxyz") rfl)
    s_END := He.str_ok X G (c.fact 13 (f := .str "END" "end") rfl)
    s_RESET := He.str_ok X G (c.fact 14 (f := .str "RESET" "reset") rfl)
    g_WORDS := He.glo_ok X G (c.fact 15 (f := .glo "WORDS") rfl)
    t_WORDS := fun H => He.tupB_ok e1 H
    g_BARE_WORDS := He.glo_ok X G (c.fact 16 (f := .glo "BARE_WORDS") rfl)
    t_BARE_WORDS := fun H => He.tupB_ok e2 H
    g_BEHIND_END := He.glo_ok X G (c.fact 17 (f := .glo "BEHIND_END") rfl)
    t_BEHIND_END := fun H => He.tupB_ok e3 H
    z_isinstance := He.free_ok X G (c.fact 29 (f := .free "isinstance") rfl)
    z_str := He.free_ok X G (c.fact 30 (f := .free "str") rfl)
    z_len := He.free_ok X G (c.fact 31 (f := .free "len") rfl)
    z_all := He.free_ok X G (c.fact 32 (f := .free "all") rfl)
    z_int := He.free_ok X G (c.fact 33 (f := .free "int") rfl)
    z_bool := He.free_ok X G (c.fact 34 (f := .free "bool") rfl)
    z_tuple := He.free_ok X G (c.fact 35 (f := .free "tuple") rfl)
    z_enumerate := He.free_ok X G (c.fact 36 (f := .free "enumerate") rfl)
    z_list := He.free_ok X G (c.fact 37 (f := .free "list") rfl)
    z_range := He.free_ok X G (c.fact 38 (f := .free "range") rfl)
    z_abs := He.free_ok X G (c.fact 39 (f := .free "abs") rfl)
    z_zip := He.free_ok X G (c.fact 40 (f := .free "zip") rfl)
    z_min := He.free_ok X G (c.fact 41 (f := .free "min") rfl)
    z_max := He.free_ok X G (c.fact 42 (f := .free "max") rfl)
    z_ValueError := He.free_ok X G (c.fact 43 (f := .free "ValueError") rfl)
    g_Mixing := He.glo_ok X G (c.fact 18 (f := .glo "Mixing") rfl)
    cl := He.cls_ok (c.fact 19 (f := .cls "Mixing") rfl)
    nW := He.noat_ok (c.fact 20 (f := .noat "Mixing" "width") rfl)
    nF := He.noat_ok (c.fact 21 (f := .noat "Mixing" "factor") rfl)
    mB := He.meth_ok (c.fact 22 (f := .meth "Mixing" "begin") rfl)
    mM := He.meth_ok (c.fact 23 (f := .meth "Mixing" "mixed") rfl)
    mkM := He.mkr_ok (c.fact 24 (f := .mkr "Mixing") rfl)
    g_BadLog := He.glo_ok X G (c.fact 25 (f := .glo "BadLog") rfl)
    oex := ⟨excB_ok e4, He.eqO_ok e5, of_decide_eq_true e6, of_decide_eq_true e7, e8⟩
    xf := xfB_ok e9
    exm := He.exm_ok (c.fact 26 (f := .exm "BadLog" "BadLog" true) rfl)
    nWhat := He.noat_ok (c.fact 27 (f := .noat "BadLog" "what") rfl)
    iC := (He.meth_ok (c.fact 28 (f := .meth "BadLog" "__init__") rfl)).1
    tI := of_decide_eq_true e11
    y_WORDS := btB_ok e12
    vi := viB_ok e10 }
/-! the defs -/
theorem fn_is_name (X : K.In h) (G : h.Ns mainGlobals mg) (c0 : obsK K = valK) : Fn K mg "is_name" (top 9) [] := by
  have c := says_of c0
  obtain ⟨fd, F⟩ := c.def_ 1 (d := dG "is_name" 9) rfl
  exact ⟨_, fd, F, He.glo_ok X G (c.fact 44 (f := .glo "is_name") rfl)⟩
theorem fn_name_number (X : K.In h) (G : h.Ns mainGlobals mg) (c0 : obsK K = valK) : Fn K mg "name_number" (top 10) [] := by
  have c := says_of c0
  obtain ⟨fd, F⟩ := c.def_ 2 (d := dG "name_number" 10) rfl
  exact ⟨_, fd, F, He.glo_ok X G (c.fact 45 (f := .glo "name_number") rfl)⟩
theorem fn_is_from (X : K.In h) (G : h.Ns mainGlobals mg) (c0 : obsK K = valK) : Fn K mg "is_from" (top 20) [] := by
  have c := says_of c0
  obtain ⟨fd, F⟩ := c.def_ 3 (d := dG "is_from" 20) rfl
  exact ⟨_, fd, F, He.glo_ok X G (c.fact 46 (f := .glo "is_from") rfl)⟩
theorem fn_is_noted (X : K.In h) (G : h.Ns mainGlobals mg) (c0 : obsK K = valK) : Fn K mg "is_noted" (top 21) [] := by
  have c := says_of c0
  obtain ⟨fd, F⟩ := c.def_ 4 (d := dG "is_noted" 21) rfl
  exact ⟨_, fd, F, He.glo_ok X G (c.fact 47 (f := .glo "is_noted") rfl)⟩
theorem fn_is_row (X : K.In h) (G : h.Ns mainGlobals mg) (c0 : obsK K = valK) : Fn K mg "is_row" (top 22) [] := by
  have c := says_of c0
  obtain ⟨fd, F⟩ := c.def_ 5 (d := dG "is_row" 22) rfl
  exact ⟨_, fd, F, He.glo_ok X G (c.fact 48 (f := .glo "is_row") rfl)⟩
theorem fn_row_number (X : K.In h) (G : h.Ns mainGlobals mg) (c0 : obsK K = valK) : Fn K mg "row_number" (top 23) [] := by
  have c := says_of c0
  obtain ⟨fd, F⟩ := c.def_ 6 (d := dG "row_number" 23) rfl
  exact ⟨_, fd, F, He.glo_ok X G (c.fact 49 (f := .glo "row_number") rfl)⟩
theorem fn_can_stand (X : K.In h) (G : h.Ns mainGlobals mg) (c0 : obsK K = valK) : Fn K mg "can_stand" (top 28) [] := by
  have c := says_of c0
  obtain ⟨fd, F⟩ := c.def_ 7 (d := dG "can_stand" 28) rfl
  exact ⟨_, fd, F, He.glo_ok X G (c.fact 50 (f := .glo "can_stand") rfl)⟩
theorem fn_fault (X : K.In h) (G : h.Ns mainGlobals mg) (c0 : obsK K = valK) : Fn K mg "fault" (top 29) [("many", V.int 4), ("fixed", V.int 2)] := by
  have c := says_of c0
  obtain ⟨fd, F⟩ := c.def_ 8 (d := dG "fault" 29 [] kw2) rfl
  exact ⟨_, fd, F, He.glo_ok X G (c.fact 51 (f := .glo "fault") rfl)⟩
theorem fn_look_log (X : K.In h) (G : h.Ns mainGlobals mg) (c0 : obsK K = valK) : Fn K mg "look_log" (top 31) [] := by
  have c := says_of c0
  obtain ⟨fd, F⟩ := c.def_ 9 (d := dG "look_log" 31) rfl
  exact ⟨_, fd, F, He.glo_ok X G (c.fact 52 (f := .glo "look_log") rfl)⟩
theorem fn_row_behind (X : K.In h) (G : h.Ns mainGlobals mg) (c0 : obsK K = valK) : Fn K mg "row_behind" (top 32) [] := by
  have c := says_of c0
  obtain ⟨fd, F⟩ := c.def_ 10 (d := dG "row_behind" 32) rfl
  exact ⟨_, fd, F, He.glo_ok X G (c.fact 53 (f := .glo "row_behind") rfl)⟩
theorem fn_replays (X : K.In h) (G : h.Ns mainGlobals mg) (c0 : obsK K = valK) : Fn K mg "replays" (top 33) [("many", V.int 4), ("fixed", V.int 2)] := by
  have c := says_of c0
  obtain ⟨fd, F⟩ := c.def_ 11 (d := dG "replays" 33 [] kw2) rfl
  exact ⟨_, fd, F, He.glo_ok X G (c.fact 54 (f := .glo "replays") rfl)⟩
theorem fn_replay (X : K.In h) (G : h.Ns mainGlobals mg) (c0 : obsK K = valK) : Fn K mg "replay" (top 34) [("many", V.int 4), ("fixed", V.int 2)] := by
  have c := says_of c0
  obtain ⟨fd, F⟩ := c.def_ 12 (d := dG "replay" 34 [] kw2) rfl
  exact ⟨_, fd, F, He.glo_ok X G (c.fact 55 (f := .glo "replay") rfl)⟩
theorem fn_is_between (X : K.In h) (G : h.Ns mainGlobals mg) (c0 : obsK K = valK) : Fn K mg "is_between" (top 40) [] := by
  have c := says_of c0
  obtain ⟨fd, F⟩ := c.def_ 13 (d := dG "is_between" 40) rfl
  exact ⟨_, fd, F, He.glo_ok X G (c.fact 56 (f := .glo "is_between") rfl)⟩
theorem fn_divisor_of (X : K.In h) (G : h.Ns mainGlobals mg) (c0 : obsK K = valK) : Fn K mg "divisor_of" (top 41) [] := by
  have c := says_of c0
  obtain ⟨fd, F⟩ := c.def_ 14 (d := dG "divisor_of" 41) rfl
  exact ⟨_, fd, F, He.glo_ok X G (c.fact 57 (f := .glo "divisor_of") rfl)⟩
theorem fn__law_box (X : K.In h) (G : h.Ns mainGlobals mg) (c0 : obsK K = valK) : Fn K mg "_law_box" (top 45) [] := by
  have c := says_of c0
  obtain ⟨fd, F⟩ := c.def_ 18 (d := dG "_law_box" 45) rfl
  exact ⟨_, fd, F, He.glo_ok X G (c.fact 58 (f := .glo "_law_box") rfl)⟩
theorem fn__law_take (X : K.In h) (G : h.Ns mainGlobals mg) (c0 : obsK K = valK) : Fn K mg "_law_take" (top 46) [] := by
  have c := says_of c0
  obtain ⟨fd, F⟩ := c.def_ 19 (d := dG "_law_take" 46) rfl
  exact ⟨_, fd, F, He.glo_ok X G (c.fact 59 (f := .glo "_law_take") rfl)⟩
theorem fn__law_pick (X : K.In h) (G : h.Ns mainGlobals mg) (c0 : obsK K = valK) : Fn K mg "_law_pick" (top 47) [] := by
  have c := says_of c0
  obtain ⟨fd, F⟩ := c.def_ 20 (d := dG "_law_pick" 47) rfl
  exact ⟨_, fd, F, He.glo_ok X G (c.fact 60 (f := .glo "_law_pick") rfl)⟩
theorem fn__law_names (X : K.In h) (G : h.Ns mainGlobals mg) (c0 : obsK K = valK) : Fn K mg "_law_names" (top 48) [] := by
  have c := says_of c0
  obtain ⟨fd, F⟩ := c.def_ 21 (d := dG "_law_names" 48) rfl
  exact ⟨_, fd, F, He.glo_ok X G (c.fact 61 (f := .glo "_law_names") rfl)⟩
theorem fn__law_same (X : K.In h) (G : h.Ns mainGlobals mg) (c0 : obsK K = valK) : Fn K mg "_law_same" (top 49) [] := by
  have c := says_of c0
  obtain ⟨fd, F⟩ := c.def_ 22 (d := dG "_law_same" 49) rfl
  exact ⟨_, fd, F, He.glo_ok X G (c.fact 62 (f := .glo "_law_same") rfl)⟩
theorem fn__law_name_number (X : K.In h) (G : h.Ns mainGlobals mg) (c0 : obsK K = valK) : Fn K mg "_law_name_number" (top 50) [] := by
  have c := says_of c0
  obtain ⟨fd, F⟩ := c.def_ 23 (d := dG "_law_name_number" 50) rfl
  exact ⟨_, fd, F, He.glo_ok X G (c.fact 63 (f := .glo "_law_name_number") rfl)⟩
theorem fn__law_row_number (X : K.In h) (G : h.Ns mainGlobals mg) (c0 : obsK K = valK) : Fn K mg "_law_row_number" (top 51) [] := by
  have c := says_of c0
  obtain ⟨fd, F⟩ := c.def_ 24 (d := dG "_law_row_number" 51) rfl
  exact ⟨_, fd, F, He.glo_ok X G (c.fact 64 (f := .glo "_law_row_number") rfl)⟩
theorem fn__law_shares (X : K.In h) (G : h.Ns mainGlobals mg) (c0 : obsK K = valK) : Fn K mg "_law_shares" (top 52) [] := by
  have c := says_of c0
  obtain ⟨fd, F⟩ := c.def_ 25 (d := dG "_law_shares" 52) rfl
  exact ⟨_, fd, F, He.glo_ok X G (c.fact 65 (f := .glo "_law_shares") rfl)⟩
theorem fn__law_how (X : K.In h) (G : h.Ns mainGlobals mg) (c0 : obsK K = valK) : Fn K mg "_law_how" (top 53) [] := by
  have c := says_of c0
  obtain ⟨fd, F⟩ := c.def_ 26 (d := dG "_law_how" 53) rfl
  exact ⟨_, fd, F, He.glo_ok X G (c.fact 66 (f := .glo "_law_how") rfl)⟩
theorem fn__law_mixed (X : K.In h) (G : h.Ns mainGlobals mg) (c0 : obsK K = valK) : Fn K mg "_law_mixed" (top 54) [] := by
  have c := says_of c0
  obtain ⟨fd, F⟩ := c.def_ 27 (d := dG "_law_mixed" 54) rfl
  exact ⟨_, fd, F, He.glo_ok X G (c.fact 67 (f := .glo "_law_mixed") rfl)⟩
theorem fn__law_note (X : K.In h) (G : h.Ns mainGlobals mg) (c0 : obsK K = valK) : Fn K mg "_law_note" (top 55) [] := by
  have c := says_of c0
  obtain ⟨fd, F⟩ := c.def_ 28 (d := dG "_law_note" 55) rfl
  exact ⟨_, fd, F, He.glo_ok X G (c.fact 68 (f := .glo "_law_note") rfl)⟩
theorem fn__law_row (X : K.In h) (G : h.Ns mainGlobals mg) (c0 : obsK K = valK) : Fn K mg "_law_row" (top 56) [] := by
  have c := says_of c0
  obtain ⟨fd, F⟩ := c.def_ 29 (d := dG "_law_row" 56) rfl
  exact ⟨_, fd, F, He.glo_ok X G (c.fact 69 (f := .glo "_law_row") rfl)⟩
theorem fn__law_log (X : K.In h) (G : h.Ns mainGlobals mg) (c0 : obsK K = valK) : Fn K mg "_law_log" (top 57) [] := by
  have c := says_of c0
  obtain ⟨fd, F⟩ := c.def_ 30 (d := dG "_law_log" 57) rfl
  exact ⟨_, fd, F, He.glo_ok X G (c.fact 70 (f := .glo "_law_log") rfl)⟩
theorem fn__law_fault (X : K.In h) (G : h.Ns mainGlobals mg) (c0 : obsK K = valK) : Fn K mg "_law_fault" (top 58) [] := by
  have c := says_of c0
  obtain ⟨fd, F⟩ := c.def_ 31 (d := dG "_law_fault" 58) rfl
  exact ⟨_, fd, F, He.glo_ok X G (c.fact 71 (f := .glo "_law_fault") rfl)⟩
theorem fn__law_sizes (X : K.In h) (G : h.Ns mainGlobals mg) (c0 : obsK K = valK) : Fn K mg "_law_sizes" (top 59) [] := by
  have c := says_of c0
  obtain ⟨fd, F⟩ := c.def_ 32 (d := dG "_law_sizes" 59) rfl
  exact ⟨_, fd, F, He.glo_ok X G (c.fact 72 (f := .glo "_law_sizes") rfl)⟩
theorem fn__law_bent_log (X : K.In h) (G : h.Ns mainGlobals mg) (c0 : obsK K = valK) : Fn K mg "_law_bent_log" (top 60) [] := by
  have c := says_of c0
  obtain ⟨fd, F⟩ := c.def_ 33 (d := dG "_law_bent_log" 60) rfl
  exact ⟨_, fd, F, He.glo_ok X G (c.fact 73 (f := .glo "_law_bent_log") rfl)⟩
theorem fn__law_refused (X : K.In h) (G : h.Ns mainGlobals mg) (c0 : obsK K = valK) : Fn K mg "_law_refused" (top 61) [] := by
  have c := says_of c0
  obtain ⟨fd, F⟩ := c.def_ 34 (d := dG "_law_refused" 61) rfl
  exact ⟨_, fd, F, He.glo_ok X G (c.fact 74 (f := .glo "_law_refused") rfl)⟩
theorem fn__law_right (X : K.In h) (G : h.Ns mainGlobals mg) (c0 : obsK K = valK) : Fn K mg "_law_right" (top 62) [] := by
  have c := says_of c0
  obtain ⟨fd, F⟩ := c.def_ 35 (d := dG "_law_right" 62) rfl
  exact ⟨_, fd, F, He.glo_ok X G (c.fact 75 (f := .glo "_law_right") rfl)⟩
theorem fn_law (X : K.In h) (G : h.Ns mainGlobals mg) (c0 : obsK K = valK) : Fn K mg "law" (top 63) [] := by
  have c := says_of c0
  obtain ⟨fd, F⟩ := c.def_ 36 (d := dG "law" 63) rfl
  exact ⟨_, fd, F, He.glo_ok X G (c.fact 76 (f := .glo "law") rfl)⟩
theorem fn_bad (c0 : obsK K = valK) : ∃ fd, FunD K "__init__" "StartError.__init__" (defArgs (inClass (top 2) 0)) (defBody (inClass (top 2) 0)) (defScope (inClass (top 2) 0)) [] [] (He.ma K (CB K) "__init__") fd :=
  (says_of c0).def_ 0 (d := dM "BadLog" "__init__" "StartError.__init__" (inClass (top 2) 0)) rfl
theorem fn_mix (c0 : obsK K = valK) : ∃ fd, FunD K "__init__" "Mixing.__init__" (defArgs (inClass (top 43) 0)) (defBody (inClass (top 43) 0)) (defScope (inClass (top 43) 0)) [.non] [("factor", .int 7919)] (He.ma K (CM K) "__init__") fd :=
  (says_of c0).def_ 15 (d := dM "Mixing" "__init__" "Mixing.__init__" (inClass (top 43) 0) [.non] [("factor", .int 7919)]) rfl
theorem fn_begin (c0 : obsK K = valK) : ∃ fd, FunD K "begin" "Mixing.begin" (defArgs (inClass (top 43) 1)) (defBody (inClass (top 43) 1)) (defScope (inClass (top 43) 1)) [] [("reset", .bl false)] (He.ma K (CM K) "begin") fd :=
  (says_of c0).def_ 16 (d := dM "Mixing" "begin" "Mixing.begin" (inClass (top 43) 1) [] [("reset", .bl false)]) rfl
theorem fn_mixed (c0 : obsK K = valK) : ∃ fd, FunD K "mixed" "Mixing.mixed" (defArgs (inClass (top 43) 2)) (defBody (inClass (top 43) 2)) (defScope (inClass (top 43) 2)) [] [] (He.ma K (CM K) "mixed") fd :=
  (says_of c0).def_ 17 (d := dM "Mixing" "mixed" "Mixing.mixed" (inClass (top 43) 2)) rfl
end
end K18

set_option maxHeartbeats 4000000
namespace K18
open PySem PySem.Spec PyProof.Rows L2
/-! ### rows -/
/-- a text by its code points -/
abbrev S (l : List Nat) : Str := ⟨l.toArray⟩
theorem S_tl (x : Str) : S x.cps.toList = x := rfl
theorem tl_S (l : List Nat) : (S l).cps.toList = l := rfl
theorem S_len (l : List Nat) : (S l).length = l.length := by simp [S, Str.length]
theorem S_cat (a b : List Nat) : S a ++ S b = S (a ++ b) := by
  show (⟨a.toArray ++ b.toArray⟩ : Str) = ⟨(a ++ b).toArray⟩
  simp
structure NameOk (l : List Nat) : Prop where
  lo : 1 ≤ l.length
  hi : l.length ≤ 4
  ok : ∀ c ∈ l, 97 ≤ c ∧ c ≤ 122
structure Row where
  b : Nat
  w : Nat
  n : List Nat
  k : Nat
def wordL : List Str := ["load", "set", "end", "late", "reset"]
def wordS (w : Nat) : Str := wordL.getD w "load"
structure RowOk (r : Row) : Prop where
  hb : r.b < 8
  hw : r.w < 5
  hn : NameOk r.n
  hk : r.k < 9973
  bare : r.w = 2 ∨ r.w = 4 → r.k = 0
/-- the items of a row's tuple -/
def tv (r : Row) : List V := [.int (r.b : Int), .str (wordS r.w), .str (S r.n), .int (r.k : Int)]
abbrev RowAt (H : Hp) (p : Addr) (r : Row) : Prop := H p = some (.tup (tv r))
theorem word5 {w : Nat} (h : w < 5) : w = 0 ∨ w = 1 ∨ w = 2 ∨ w = 3 ∨ w = 4 := by omega
theorem wordS_inj : ∀ a < 5, ∀ b < 5, (wordS a = wordS b) = (a = b) := by decide +kernel
def letters : Str := "abcdefghijklmnopqrstuvwxyz"
theorem letters_at : ∀ i < 26, Builtin.Str.occurrences letters ⟨#[i + 97]⟩ 0 letters.length 1 = [i] := by decide +kernel
theorem letters_in : ∀ i < 26, (i + 97) ∈ letters.cps.toList := by decide +kernel
theorem letter_of {c : Nat} (h : 97 ≤ c ∧ c ≤ 122) : ∃ i, i < 26 ∧ c = i + 97 := ⟨c - 97, by omega, by omega⟩
/-- the number of a name -/
def nameNum (l : List Nat) : Int := l.foldl (fun a c => a * 27 + ((c - 97 : Nat) : Int) + 1) 0
def rowNum (r : Row) : Int := (nameNum r.n * 5 + (r.w : Int)) * 9973 + (r.k : Int)
theorem nameNum_snoc (l : List Nat) (c : Nat) : nameNum (l ++ [c]) = nameNum l * 27 + ((c - 97 : Nat) : Int) + 1 := by
  unfold nameNum
  rw [List.foldl_append]
  rfl
theorem take_snoc {α : Type} {l : List α} {i : Nat} {x : α} (h : l[i]? = some x) : l.take (i + 1) = l.take i ++ [x] := by
  rw [List.take_add_one, h]
  rfl
/-! ### heaps -/
theorem same_upd {H H' : Hp} {p : Addr} {o : HO} (s : Same H H') (h : H' p = none) : Same H (upd H' p o) := fun b u e => by
  rw [upd_ne (ne_of_none (s b u e) h)]
  exact s b u e
theorem same_mut {H H' : Hp} {p : Addr} {o : HO} (s : Same H H') (h : H p = none) : Same H (upd H' p o) := fun b u e => by
  rw [upd_ne (ne_of_none e h)]
  exact s b u e
theorem same_new {H : Hp} {p : Addr} {o : HO} (h : H p = none) : Same H (upd H p o) := same_upd (Same.refl H) h
end K18

set_option maxHeartbeats 4000000
namespace K18
open PySem PySem.Spec PyProof.Rows L2
abbrev st_StartError___init__ : Stmt := (inClass (top 2) 0)
abbrev N_StartError___init__ : List Str := ["self", "what"]
abbrev ps_StartError___init__ : List Str := ["self", "what"]
theorem sc_StartError___init__ : FnScope N_StartError___init__ ps_StartError___init__ (defScope st_StartError___init__) := ⟨rfl, rfl, rfl, by decide +kernel, rfl, by decide +kernel, by decide +kernel⟩
abbrev st_is_name : Stmt := (top 9)
abbrev N_is_name : List Str := ["thing", "letter"]
abbrev ps_is_name : List Str := ["thing"]
theorem sc_is_name : FnScope N_is_name ps_is_name (defScope st_is_name) := ⟨rfl, rfl, rfl, by decide +kernel, rfl, by decide +kernel, by decide +kernel⟩
abbrev st_name_number : Stmt := (top 10)
abbrev N_name_number : List Str := ["name", "found", "letter"]
abbrev ps_name_number : List Str := ["name"]
theorem sc_name_number : FnScope N_name_number ps_name_number (defScope st_name_number) := ⟨rfl, rfl, rfl, by decide +kernel, rfl, by decide +kernel, by decide +kernel⟩
abbrev st_is_from : Stmt := (top 20)
abbrev N_is_from : List Str := ["thing", "least", "top"]
abbrev ps_is_from : List Str := ["thing", "least", "top"]
theorem sc_is_from : FnScope N_is_from ps_is_from (defScope st_is_from) := ⟨rfl, rfl, rfl, by decide +kernel, rfl, by decide +kernel, by decide +kernel⟩
abbrev st_is_noted : Stmt := (top 21)
abbrev N_is_noted : List Str := ["word", "note"]
abbrev ps_is_noted : List Str := ["word", "note"]
theorem sc_is_noted : FnScope N_is_noted ps_is_noted (defScope st_is_noted) := ⟨rfl, rfl, rfl, by decide +kernel, rfl, by decide +kernel, by decide +kernel⟩
abbrev st_is_row : Stmt := (top 22)
abbrev N_is_row : List Str := ["thing", "board", "word", "rest"]
abbrev ps_is_row : List Str := ["thing"]
theorem sc_is_row : FnScope N_is_row ps_is_row (defScope st_is_row) := ⟨rfl, rfl, rfl, by decide +kernel, rfl, by decide +kernel, by decide +kernel⟩
abbrev st_row_number : Stmt := (top 23)
abbrev N_row_number : List Str := ["row", "board", "word", "name", "note"]
abbrev ps_row_number : List Str := ["row"]
theorem sc_row_number : FnScope N_row_number ps_row_number (defScope st_row_number) := ⟨rfl, rfl, rfl, by decide +kernel, rfl, by decide +kernel, by decide +kernel⟩
abbrev st_can_stand : Stmt := (top 28)
abbrev N_can_stand : List Str := ["row", "ended", "many", "fixed"]
abbrev ps_can_stand : List Str := ["row", "ended", "many", "fixed"]
theorem sc_can_stand : FnScope N_can_stand ps_can_stand (defScope st_can_stand) := ⟨rfl, rfl, rfl, by decide +kernel, rfl, by decide +kernel, by decide +kernel⟩
abbrev st_fault : Stmt := (top 29)
abbrev N_fault : List Str := ["log", "many", "fixed", "ended", "place", "row"]
abbrev ps_fault : List Str := ["log", "many", "fixed"]
theorem sc_fault : FnScope N_fault ps_fault (defScope st_fault) := ⟨rfl, rfl, rfl, by decide +kernel, rfl, by decide +kernel, by decide +kernel⟩
abbrev st_look_log : Stmt := (top 31)
abbrev N_look_log : List Str := ["log", "many", "fixed", "place"]
abbrev ps_look_log : List Str := ["log", "many", "fixed"]
theorem sc_look_log : FnScope N_look_log ps_look_log (defScope st_look_log) := ⟨rfl, rfl, rfl, by decide +kernel, rfl, by decide +kernel, by decide +kernel⟩
abbrev st_row_behind : Stmt := (top 32)
abbrev N_row_behind : List Str := ["mixing", "boards", "row", "board", "found"]
abbrev ps_row_behind : List Str := ["mixing", "boards", "row"]
theorem sc_row_behind : FnScope N_row_behind ps_row_behind (defScope st_row_behind) := ⟨rfl, rfl, rfl, by decide +kernel, rfl, by decide +kernel, by decide +kernel⟩
abbrev st_replays : Stmt := (top 33)
abbrev N_replays : List Str := ["mixing", "log", "many", "fixed", "found", "row", "board"]
abbrev ps_replays : List Str := ["mixing", "log", "many", "fixed"]
theorem sc_replays : FnScope N_replays ps_replays (defScope st_replays) := ⟨rfl, rfl, rfl, by decide +kernel, rfl, by decide +kernel, by decide +kernel⟩
abbrev st_replay : Stmt := (top 34)
abbrev N_replay : List Str := ["mixing", "log", "many", "fixed"]
abbrev ps_replay : List Str := ["mixing", "log", "many", "fixed"]
theorem sc_replay : FnScope N_replay ps_replay (defScope st_replay) := ⟨rfl, rfl, rfl, by decide +kernel, rfl, by decide +kernel, by decide +kernel⟩
abbrev st_is_between : Stmt := (top 40)
abbrev N_is_between : List Str := ["thing", "least", "most"]
abbrev ps_is_between : List Str := ["thing", "least", "most"]
theorem sc_is_between : FnScope N_is_between ps_is_between (defScope st_is_between) := ⟨rfl, rfl, rfl, by decide +kernel, rfl, by decide +kernel, by decide +kernel⟩
abbrev st_divisor_of : Stmt := (top 41)
abbrev N_divisor_of : List Str := ["one", "other"]
abbrev ps_divisor_of : List Str := ["one", "other"]
theorem sc_divisor_of : FnScope N_divisor_of ps_divisor_of (defScope st_divisor_of) := ⟨rfl, rfl, rfl, by decide +kernel, rfl, by decide +kernel, by decide +kernel⟩
abbrev st_Mixing___init__ : Stmt := (inClass (top 43) 0)
abbrev N_Mixing___init__ : List Str := ["self", "width", "factor"]
abbrev ps_Mixing___init__ : List Str := ["self", "width", "factor"]
theorem sc_Mixing___init__ : FnScope N_Mixing___init__ ps_Mixing___init__ (defScope st_Mixing___init__) := ⟨rfl, rfl, rfl, by decide +kernel, rfl, by decide +kernel, by decide +kernel⟩
abbrev st_Mixing_begin : Stmt := (inClass (top 43) 1)
abbrev N_Mixing_begin : List Str := ["self", "reset"]
abbrev ps_Mixing_begin : List Str := ["self", "reset"]
theorem sc_Mixing_begin : FnScope N_Mixing_begin ps_Mixing_begin (defScope st_Mixing_begin) := ⟨rfl, rfl, rfl, by decide +kernel, rfl, by decide +kernel, by decide +kernel⟩
abbrev st_Mixing_mixed : Stmt := (inClass (top 43) 2)
abbrev N_Mixing_mixed : List Str := ["self", "value", "row"]
abbrev ps_Mixing_mixed : List Str := ["self", "value", "row"]
theorem sc_Mixing_mixed : FnScope N_Mixing_mixed ps_Mixing_mixed (defScope st_Mixing_mixed) := ⟨rfl, rfl, rfl, by decide +kernel, rfl, by decide +kernel, by decide +kernel⟩
abbrev st__law_box : Stmt := (top 45)
abbrev N__law_box : List Str := ["_law_script", "_law_k", "_law_cell"]
abbrev ps__law_box : List Str := ["_law_script", "_law_k"]
theorem sc__law_box : FnScope N__law_box ps__law_box (defScope st__law_box) := ⟨rfl, rfl, rfl, by decide +kernel, rfl, by decide +kernel, by decide +kernel⟩
abbrev st__law_take : Stmt := (top 46)
abbrev N__law_take : List Str := ["_law_box_here", "_law_size", "_law_found", "_law_once"]
abbrev ps__law_take : List Str := ["_law_box_here", "_law_size"]
theorem sc__law_take : FnScope N__law_take ps__law_take (defScope st__law_take) := ⟨rfl, rfl, rfl, by decide +kernel, rfl, by decide +kernel, by decide +kernel⟩
abbrev st__law_pick : Stmt := (top 47)
abbrev N__law_pick : List Str := ["_law_box_here", "_law_things"]
abbrev ps__law_pick : List Str := ["_law_box_here", "_law_things"]
theorem sc__law_pick : FnScope N__law_pick ps__law_pick (defScope st__law_pick) := ⟨rfl, rfl, rfl, by decide +kernel, rfl, by decide +kernel, by decide +kernel⟩
abbrev st__law_names : Stmt := (top 48)
abbrev N__law_names : List Str := ["_law_box_here", "_law_size", "_law_letters", "_law_begun", "_law_by", "_law_tail", "_law_at", "_law_k"]
abbrev ps__law_names : List Str := ["_law_box_here", "_law_size"]
theorem sc__law_names : FnScope N__law_names ps__law_names (defScope st__law_names) := ⟨rfl, rfl, rfl, by decide +kernel, rfl, by decide +kernel, by decide +kernel⟩
abbrev st__law_same : Stmt := (top 49)
abbrev N__law_same : List Str := ["_law_found", "_law_due", "_law_one", "_law_two"]
abbrev ps__law_same : List Str := ["_law_found", "_law_due"]
theorem sc__law_same : FnScope N__law_same ps__law_same (defScope st__law_same) := ⟨rfl, rfl, rfl, by decide +kernel, rfl, by decide +kernel, by decide +kernel⟩
abbrev st__law_name_number : Stmt := (top 50)
abbrev N__law_name_number : List Str := ["_law_name", "_law_found", "_law_sign"]
abbrev ps__law_name_number : List Str := ["_law_name"]
theorem sc__law_name_number : FnScope N__law_name_number ps__law_name_number (defScope st__law_name_number) := ⟨rfl, rfl, rfl, by decide +kernel, rfl, by decide +kernel, by decide +kernel⟩
abbrev st__law_row_number : Stmt := (top 51)
abbrev N__law_row_number : List Str := ["_law_row_here", "_law_place"]
abbrev ps__law_row_number : List Str := ["_law_row_here"]
theorem sc__law_row_number : FnScope N__law_row_number ps__law_row_number (defScope st__law_row_number) := ⟨rfl, rfl, rfl, by decide +kernel, rfl, by decide +kernel, by decide +kernel⟩
abbrev st__law_shares : Stmt := (top 52)
abbrev N__law_shares : List Str := ["_law_one", "_law_two", "_law_turn"]
abbrev ps__law_shares : List Str := ["_law_one", "_law_two"]
theorem sc__law_shares : FnScope N__law_shares ps__law_shares (defScope st__law_shares) := ⟨rfl, rfl, rfl, by decide +kernel, rfl, by decide +kernel, by decide +kernel⟩
abbrev st__law_how : Stmt := (top 53)
abbrev N__law_how : List Str := ["_law_box_here", "_law_way", "_law_width", "_law_by"]
abbrev ps__law_how : List Str := ["_law_box_here"]
theorem sc__law_how : FnScope N__law_how ps__law_how (defScope st__law_how) := ⟨rfl, rfl, rfl, by decide +kernel, rfl, by decide +kernel, by decide +kernel⟩
abbrev st__law_mixed : Stmt := (top 54)
abbrev N__law_mixed : List Str := ["_law_how_here", "_law_value", "_law_row_here", "_law_number"]
abbrev ps__law_mixed : List Str := ["_law_how_here", "_law_value", "_law_row_here"]
theorem sc__law_mixed : FnScope N__law_mixed ps__law_mixed (defScope st__law_mixed) := ⟨rfl, rfl, rfl, by decide +kernel, rfl, by decide +kernel, by decide +kernel⟩
abbrev st__law_note : Stmt := (top 55)
abbrev N__law_note : List Str := ["_law_box_here"]
abbrev ps__law_note : List Str := ["_law_box_here"]
theorem sc__law_note : FnScope N__law_note ps__law_note (defScope st__law_note) := ⟨rfl, rfl, rfl, by decide +kernel, rfl, by decide +kernel, by decide +kernel⟩
abbrev st__law_row : Stmt := (top 56)
abbrev N__law_row : List Str := ["_law_box_here", "_law_names_here", "_law_word", "_law_size", "_law_note_here"]
abbrev ps__law_row : List Str := ["_law_box_here", "_law_names_here", "_law_word", "_law_size"]
theorem sc__law_row : FnScope N__law_row ps__law_row (defScope st__law_row) := ⟨rfl, rfl, rfl, by decide +kernel, rfl, by decide +kernel, by decide +kernel⟩
abbrev st__law_log : Stmt := (top 57)
abbrev N__law_log : List Str := ["_law_box_here", "_law_names_here", "_law_size", "_law_kept", "_law_count", "_law_k", "_law_rows", "_law_word", "_law_row_here"]
abbrev ps__law_log : List Str := ["_law_box_here", "_law_names_here", "_law_size", "_law_kept", "_law_count"]
theorem sc__law_log : FnScope N__law_log ps__law_log (defScope st__law_log) := ⟨rfl, rfl, rfl, by decide +kernel, rfl, by decide +kernel, by decide +kernel⟩
abbrev st__law_fault : Stmt := (top 58)
abbrev N__law_fault : List Str := ["_law_rows", "_law_size", "_law_kept", "_law_up", "_law_place", "_law_row_here"]
abbrev ps__law_fault : List Str := ["_law_rows", "_law_size", "_law_kept"]
theorem sc__law_fault : FnScope N__law_fault ps__law_fault (defScope st__law_fault) := ⟨rfl, rfl, rfl, by decide +kernel, rfl, by decide +kernel, by decide +kernel⟩
abbrev st__law_sizes : Stmt := (top 59)
abbrev N__law_sizes : List Str := ["_law_box_here", "_law_size"]
abbrev ps__law_sizes : List Str := ["_law_box_here"]
theorem sc__law_sizes : FnScope N__law_sizes ps__law_sizes (defScope st__law_sizes) := ⟨rfl, rfl, rfl, by decide +kernel, rfl, by decide +kernel, by decide +kernel⟩
abbrev st__law_bent_log : Stmt := (top 60)
abbrev N__law_bent_log : List Str := ["_law_box_here", "_law_rows", "_law_names_here", "_law_size", "_law_kept", "_law_way", "_law_at", "_law_to", "_law_word", "_law_more", "_law_row_here", "_law_rest", "_law_k", "_law_one"]
abbrev ps__law_bent_log : List Str := ["_law_box_here", "_law_rows", "_law_names_here", "_law_size", "_law_kept"]
theorem sc__law_bent_log : FnScope N__law_bent_log ps__law_bent_log (defScope st__law_bent_log) := ⟨rfl, rfl, rfl, by decide +kernel, rfl, by decide +kernel, by decide +kernel⟩
abbrev st__law_refused : Stmt := (top 61)
abbrev N__law_refused : List Str := ["_law_own", "_law_rows", "_law_size", "_law_kept", "_law_each", "_law_caught", "error"]
abbrev ps__law_refused : List Str := ["_law_own", "_law_rows", "_law_size", "_law_kept", "_law_each"]
theorem sc__law_refused : FnScope N__law_refused ps__law_refused (defScope st__law_refused) := ⟨rfl, rfl, rfl, by decide +kernel, rfl, by decide +kernel, by decide +kernel⟩
abbrev st__law_right : Stmt := (top 62)
abbrev N__law_right : List Str := ["_law_how_here", "_law_rows", "_law_size", "_law_kept", "_law_own", "_law_found", "_law_place", "_law_row_here", "_law_ahead", "_law_due", "_law_one", "_law_again", "_law_lengths", "_law_length"]
abbrev ps__law_right : List Str := ["_law_how_here", "_law_rows", "_law_size", "_law_kept"]
theorem sc__law_right : FnScope N__law_right ps__law_right (defScope st__law_right) := ⟨rfl, rfl, rfl, by decide +kernel, rfl, by decide +kernel, by decide +kernel⟩
abbrev st_law : Stmt := (top 63)
abbrev N_law : List Str := ["_law_script", "_law_k", "_law_box_here", "_law_turn", "_law_names_here", "_law_size", "_law_kept", "_law_how_here", "_law_rows", "_law_bent", "_law_own", "_law_due", "_law_each"]
abbrev ps_law : List Str := ["_law_script"]
theorem sc_law : FnScope N_law ps_law (defScope st_law) := ⟨rfl, rfl, rfl, by decide +kernel, rfl, by decide +kernel, by decide +kernel⟩
end K18

set_option maxHeartbeats 4000000
namespace K18
open PySem PySem.Spec PyProof.Rows L2
section
variable {K : PySem.W.Frag}
theorem k_int_int : PySem.W.kitOne K (.type "int") (.type "int") = some true := kit_ty (by decide +kernel)
theorem k_int_bool : PySem.W.kitOne K (.type "int") (.type "bool") = some false := kit_ty (by decide +kernel)
theorem k_str_str : PySem.W.kitOne K (.type "str") (.type "str") = some true := kit_ty (by decide +kernel)
theorem k_tup_tup : PySem.W.kitOne K (.type "tuple") (.type "tuple") = some true := kit_ty (by decide +kernel)
end
section
variable {P : Program} {w : World} {K : PySem.W.Frag} {mg : Str → Option Value} {base : Heap}
/-! ### is_from -/
def spFrom : Sp := fun vs H Q _ => ∃ t a b : Int, vs = [.int t, .int a, .int b] ∧ Q (.bl (decide (a ≤ t) && decide (t < b))) H
theorem ok_from (T : Txt K mg) (F : Fn K mg "is_from" st_is_from []) : Cal P w K mg base CX0 1 "is_from" spFrom [] := by
  refine F.cal sc_is_from ?_ (fun _ _ _ _ _ _ us hl => match us, hl with | [_, _, _], _ => rfl) ?_
  · rintro vs H Q E ⟨t, a, b, rfl, _⟩
    rfl
  rintro f cdv A outer s H vs Q E hr ⟨t, a, b, rfl, q⟩
  refine ⟨_, (pss_one (ps_ret (pe_and (pe_callB call_isi (by rfl) T.z_isinstance b_isinstance (pa_cons (pv 0) (pa_cons (gty_int T.z_int) (pa_nil)))) (pe_and (pe_not (pe_callB call_isi (by rfl) T.z_isinstance b_isinstance (pa_cons (pv 0) (pa_cons (gty_bool T.z_bool) (pa_nil))))) (pe_one (pe_chain op_le op_lt (pv 1) (pv 0) (pv 2))))))), ?_⟩
  refine ⟨_, rfl, _, _, _, _, true, rfl, .ty _, .base (.int _), k_int_int, true, rfl, iteT ?_⟩
  refine ⟨_, rfl, _, _, _, _, false, rfl, .ty _, .base (.int _), k_int_bool, false, rfl, true, rfl, iteT ?_⟩
  refine ⟨_, rfl, _, rfl, _, _, rfl, rfl, _, rfl, ?_⟩
  cases e : decide (a ≤ t) with
  | false =>
    rw [e] at q
    exact iteF q
  | true =>
    rw [e] at q
    exact iteT ⟨_, rfl, _, _, rfl, rfl, q⟩
/-! ### is_noted -/
def spNoted : Sp := fun vs H Q _ => ∃ (x : Nat) (k : Int), x < 5 ∧ vs = [.str (wordS x), .int k] ∧ Q (.bl (decide (0 ≤ k) && decide (k < if x = 2 ∨ x = 4 then 1 else 9973))) H
theorem bare_in : ∀ x < 5, inV (.str (wordS x)) [.str "end", .str "reset"] = decide (x = 2 ∨ x = 4) := by decide +kernel
theorem ok_noted (T : Txt K mg) (F : Fn K mg "is_noted" st_is_noted []) (G_is_from : Cal P w K mg base CX0 1 "is_from" spFrom []) : Cal P w K mg base CX0 2 "is_noted" spNoted [] := by
  refine F.cal sc_is_noted ?_ (fun _ _ _ _ _ _ us hl => match us, hl with | [_, _], _ => rfl) ?_
  · rintro vs H Q E ⟨x, k, _, rfl, _⟩
    rfl
  rintro f cdv A outer s H vs Q E hr ⟨x, k, hx, rfl, q⟩
  refine ⟨_, (pss_one (ps_ret (cl G_is_from hr (by decide) (pa_cons (pv 1) (pa_cons pe_int (pa_cons (pe_ifExp (pt_cmpR op_in_seq (pv 0) (gr T.g_BARE_WORDS) (by rfl)) pe_int (gi T.i_NOTES)) (pa_nil))))))), ?_⟩
  refine ⟨_, rfl, _, rfl, _, _, rfl, .inr (T.t_BARE_WORDS _), rfl, rfl, _, rfl, ?_⟩
  have e := bare_in x hx
  show (if inV (.str (wordS x)) [.str "end", .str "reset"] = true then _ else _)
  rw [e]
  by_cases c : x = 2 ∨ x = 4
  · rw [if_pos (decide_eq_true c)]
    rw [if_pos c] at q
    exact ⟨k, 0, 1, rfl, q⟩
  · rw [if_neg (by simpa using c)]
    rw [if_neg c] at q
    exact ⟨k, 0, 9973, rfl, q⟩
end
end K18

set_option maxHeartbeats 4000000
namespace K18
open PySem PySem.Spec PyProof.Rows L2
theorem map_rep {α β : Type} (f : α → β) (n : Nat) (a : α) : (List.replicate n a).map f = List.replicate n (f a) := by simp
theorem all_rep : ∀ n : Nat, (List.replicate n true).all id = true
  | 0 => rfl
  | n + 1 => by
    rw [List.replicate_succ, List.all_cons, all_rep n]
    rfl
section
variable {P : Program} {w : World} {K : PySem.W.Frag} {mg : Str → Option Value} {base : Heap}
/-! ### is_name -/
def spName : Sp := fun vs H Q _ => ∃ l : List Nat, vs = [.str (S l)] ∧ NameOk l ∧ ∀ H', Same H H' → Q (.bl true) H'
theorem ok_name (T : Txt K mg) (F : Fn K mg "is_name" st_is_name []) : Cal P w K mg base CX0 1 "is_name" spName [] := by
  refine F.cal sc_is_name ?_ (fun _ _ _ _ _ _ us hl => match us, hl with | [_], _ => rfl) ?_
  · rintro vs H Q E ⟨l, rfl, _⟩
    rfl
  rintro f cdv A outer s H vs Q E hr ⟨l, rfl, ok, q⟩
  refine ⟨_, (pss_cons (ps_if (PW.pt (pw_or (pt_not (pt_val (pe_callB call_isi (by rfl) T.z_isinstance b_isinstance (pa_cons (pv 0) (pa_cons (gty_str T.z_str) (pa_nil)))))) (pw_or1 (pt_not (pt_chain op_le op_le pe_int (pe_callB call_len_str (by rfl) T.z_len b_len (pa_cons (pv 0) (pa_nil))) (gi T.i_LONGEST)))))) (pss_one (ps_ret pe_bl)) pss_nil)
    (pss_one (ps_ret (pe_callB (cr_all rfl) (by rfl) T.z_all b_all (pa_cons (pe_lc (own := [("letter", 1)]) (g := gName 1) (tt := tYes) rfl sc_is_name.nd (pi_str (pv 0)) (blkOk_by (N := N_is_name) (sc := defScope st_is_name) (by decide +kernel)) (fun _ _ _ _ _ => (pg_name (i := 1) sc_is_name.nd rfl (Or.inl rfl))) (fun _ _ _ _ _ => pts_nil) (fun _ _ _ _ _ => (pe_cmpR op_in_sign (pv 1) (gs T.s_LETTERS) rfl))) (pa_nil)))))), ?_⟩
  have lsz : (S l).length ≤ sizeLine := by
    rw [S_len, sizeLine_eq]
    have := ok.hi
    omega
  refine ⟨_, rfl, _, _, _, _, true, rfl, .ty _, .base (.str _), k_str_str, true, rfl, iteF ?_⟩
  refine ⟨_, rfl, _, rfl, lsz, _, _, rfl, rfl, _, rfl, ?_⟩
  rw [S_len]
  have e1 : decide ((1 : Int) ≤ (l.length : Int)) = true := decide_eq_true (by have := ok.lo; omega)
  have e2 : decide ((l.length : Int) ≤ 4) = true := decide_eq_true (by have := ok.hi; omega)
  rw [e1]
  refine iteT ⟨_, _, rfl, rfl, _, rfl, ?_⟩
  rw [e2]
  refine iteF ?_
  refine ⟨_, rfl, _, rfl, fun D hD => lc_any l.length (fun i H' => Same H H' ∧ H' D = some (.lst (List.replicate i (.bl true)))) ⟨same_new hD, upd_same⟩ ?_ ?_ ?_ ?_⟩
  · intro i H' hi _
    show i < (S l).cps.size
    simpa using hi
  · intro H' _
    show (S l).cps.size ≤ l.length
    simp
  · rintro i x H1 H' hi ⟨s1, hl⟩ ⟨rfl, c, hc, rfl⟩
    have hc' : l[i]? = some c := by simpa using hc
    obtain ⟨j, hj, rfl⟩ := letter_of (ok.ok c (List.mem_of_getElem? hc'))
    have e : decide ((j + 97) ∈ letters.cps.toList) = true := decide_eq_true (letters_in j hj)
    refine ⟨rfl, _, rfl, _, letters, rfl, rfl, ?_⟩
    rw [e]
    refine ⟨_, hl, ?_, same_mut s1 hD, ?_⟩
    · rw [List.length_replicate]
      have := ok.hi
      exact small1000 (by omega)
    · rw [upd_same, List.replicate_succ']
  · rintro H' ⟨s1, hl⟩
    refine ⟨D, List.replicate l.length true, rfl, SqL.of (by rw [hl, map_rep]), ?_⟩
    rw [all_rep]
    exact q _ s1
/-! ### name_number -/
def spNameNum : Sp := fun vs H Q _ => ∃ l : List Nat, vs = [.str (S l)] ∧ NameOk l ∧ Q (.int (nameNum l)) H
theorem nameNum_lt : ∀ l : List Nat, 0 ≤ nameNum l := by
  intro l
  have gen : ∀ (l : List Nat) (a : Int), 0 ≤ a → 0 ≤ l.foldl (fun a c => a * 27 + ((c - 97 : Nat) : Int) + 1) a := by
    intro l
    induction l with
    | nil => intro a h; exact h
    | cons c r ih => intro a h; exact ih _ (by show (0 : Int) ≤ a * 27 + ((c - 97 : Nat) : Int) + 1; omega)
  exact gen l 0 (Int.le_refl _)
theorem ok_nameNum (T : Txt K mg) (F : Fn K mg "name_number" st_name_number []) : Cal P w K mg base CX0 1 "name_number" spNameNum [] := by
  refine F.cal sc_name_number ?_ (fun _ _ _ _ _ _ us hl => match us, hl with | [_], _ => rfl) ?_
  · rintro vs H Q E ⟨l, rfl, _⟩
    rfl
  rintro f cdv A outer s H vs Q E hr ⟨l, rfl, ok, q⟩
  refine ⟨_, (pss_cons (ps_set (i := 1) sc_name_number.nd rfl (Or.inl rfl) pe_int)
    (pss_cons (ps_for PassesOwn.never rfl (pi_str (pv 0)) (pg_name (i := 2) sc_name_number.nd rfl (Or.inl rfl)) (pss_one (ps_set (i := 1) sc_name_number.nd rfl (Or.inl rfl) (pe_op op_add (pe_op op_add (pe_op op_mul (pv 1) (gi T.i_BASE)) (pe_bm PySem.F.plainAttrs_str PySem.F.slot_str_index PySem.F.type_str_index mt_sindex (gs T.s_LETTERS) (pa_cons (pv 2) (pa_nil)))) pe_int))))
    (pss_one (ps_ret (pv 1))))), ?_⟩
  refine ⟨_, rfl, _, rfl, for_any l.length (fun i σ H' => H' = H ∧ ∃ v : Option V, σ = [some (.str (S l)), some (.int (nameNum (l.take i))), v]) ⟨rfl, none, rfl⟩ ?_ ?_ ?_ ?_⟩
  · intro i σ H' hi _
    show i < (S l).cps.size
    simpa using hi
  · intro σ H' _
    show (S l).cps.size ≤ l.length
    simp
  · rintro i x σ H1 H' hi ⟨rfl, v, rfl⟩ ⟨rfl, c, hc, rfl⟩
    have hc' : l[i]? = some c := by simpa using hc
    obtain ⟨j, hj, rfl⟩ := letter_of (ok.ok c (List.mem_of_getElem? hc'))
    refine ⟨_, rfl, _, _, rfl, rfl, .inr ⟨by decide, by decide⟩, ?_⟩
    refine ⟨rfl, _, rfl, letters, _, j, [], rfl, rfl, letters_at j hj, ?_⟩
    refine ⟨_, _, rfl, rfl, _, _, rfl, rfl, rfl, some (.str ⟨#[j + 97]⟩), ?_⟩
    rw [take_snoc hc', nameNum_snoc]
    rfl
  · rintro σ H' ⟨rfl, v, rfl⟩
    refine ⟨_, rfl, ?_⟩
    rw [List.take_length]
    exact q
/-! ### is_row -/
def spIsRow : Sp := fun vs H Q _ => ∃ (p : Addr) (r : Row), vs = [.ref p] ∧ RowAt H p r ∧ RowOk r ∧ ∀ H', Same H H' → Q (.bl true) H'
theorem word_in : ∀ x < 5, inV (.str (wordS x)) (([(("load" : Str)), "set", "end", "late", "reset"] : List Str).map V.str) = true := by decide +kernel
theorem ok_isRow (T : Txt K mg) (F : Fn K mg "is_row" st_is_row []) (G_is_from : Cal P w K mg base CX0 1 "is_from" spFrom []) (G_is_name : Cal P w K mg base CX0 1 "is_name" spName []) (G_is_noted : Cal P w K mg base CX0 2 "is_noted" spNoted []) :
    Cal P w K mg base CX0 3 "is_row" spIsRow [] := by
  refine F.cal sc_is_row ?_ (fun _ _ _ _ _ _ us hl => match us, hl with | [_], _ => rfl) ?_
  · rintro vs H Q E ⟨p, r, rfl, _⟩
    rfl
  rintro f cdv A outer s H vs Q E hr ⟨p, r, rfl, hp, ok, q⟩
  refine ⟨_, (pss_cons (ps_if (PW.pt (pw_or (pt_not (pt_val (pe_callB call_isi (by rfl) T.z_isinstance b_isinstance (pa_cons (pv 0) (pa_cons (gty_tuple T.z_tuple) (pa_nil)))))) (pw_or (pt_cmpR op_ne (pe_callB call_len_seq (by rfl) T.z_len b_len (pa_cons (pv 0) (pa_nil))) pe_int (nomark _)) (pw_or1 (pt_not (pt_val (cl G_is_from hr (by decide) (pa_cons (pe_ix ix_tup (pv 0) pe_int (fun _ _ => rfl)) (pa_cons pe_int (pa_cons (gi T.i_MOST_BOARDS) (pa_nil))))))))))) (pss_one (ps_ret pe_bl)) pss_nil)
    (pss_cons (ps_asg (pv 0) (pg_star (n := 3) (i := 2) rfl (pgs_cons (pg_name (i := 1) sc_is_row.nd rfl (Or.inl rfl)) (pgs_cons (pg_name (i := 2) sc_is_row.nd rfl (Or.inl rfl)) ((pgs_star (pg_name (i := 3) sc_is_row.nd rfl (Or.inl rfl))))))))
    (pss_one (ps_ret (pe_and (pe_callB call_isi (by rfl) T.z_isinstance b_isinstance (pa_cons (pv 2) (pa_cons (gty_str T.z_str) (pa_nil)))) (pe_and (pe_cmpR op_in_seq (pv 2) (gr T.g_WORDS) (by rfl)) (pe_and (cl G_is_name hr (by decide) (pa_cons (pe_ix ix_list (pv 3) pe_int (fun _ _ => rfl)) (pa_nil))) (pe_one (cl G_is_noted hr (by decide) (pa_cons (pv 2) (pa_cons (pe_ix ix_list (pv 3) pe_int (fun _ _ => rfl)) (pa_nil)))))))))))), ?_⟩
  -- the first test
  refine ⟨_, rfl, _, _, _, _, true, rfl, .ty _, .base (.tup hp), k_tup_tup, true, rfl, iteF ?_⟩
  refine ⟨_, rfl, p, tv r, rfl, .inr (SqT.of hp), rfl, _, rfl, iteF ?_⟩
  refine ⟨_, rfl, p, tv r, _, _, rfl, rfl, SqT.of hp, atI_nat (j := 0) rfl, _, 0, 8, rfl, ?_⟩
  have e1 : (decide ((0 : Int) ≤ (r.b : Int)) && decide ((r.b : Int) < 8)) = true := by
    have := ok.hb
    rw [decide_eq_true (by omega), decide_eq_true (by omega)]
    rfl
  rw [e1]
  refine ⟨_, rfl, iteF ?_⟩
  -- the star
  refine ⟨_, rfl, p, tv r, rfl, SqT.of hp, (by show 3 ≤ 4 + 1; decide), (by show 4 ≤ 16384; decide), fun d hd => ?_⟩
  refine ⟨_, _, rfl, _, _, rfl, _, _, rfl, rfl, ?_⟩
  refine ⟨_, rfl, _, _, _, _, true, rfl, .ty _, .base (.str _), k_str_str, true, rfl, iteT ?_⟩
  refine ⟨_, rfl, _, _, rfl, .inr (T.t_WORDS _), rfl, rfl, true, ?_, iteT ?_⟩
  · exact congrArg V.bl (word_in r.w ok.hw)
  refine ⟨_, rfl, d, _, _, _, rfl, rfl, SqL.of upd_same, atI_nat (j := 0) rfl, r.n, rfl, ok.hn, fun H1 s1 => ⟨true, rfl, iteT ?_⟩⟩
  refine ⟨_, rfl, _, rfl, d, _, _, _, rfl, rfl, SqL.of (s1 _ _ upd_same), atI_nat (j := 1) rfl, r.w, (r.k : Int), ok.hw, rfl, ?_⟩
  have e2 : (decide ((0 : Int) ≤ (r.k : Int)) && decide ((r.k : Int) < if r.w = 2 ∨ r.w = 4 then 1 else 9973)) = true := by
    have h1 := ok.hk
    have h2 := ok.bare
    rw [decide_eq_true (by omega), decide_eq_true (by split <;> omega)]
    rfl
  rw [e2]
  exact q _ ((same_new hd).trans s1)
/-! ### row_number -/
def spRowNum : Sp := fun vs H Q _ => ∃ (p : Addr) (r : Row), vs = [.ref p] ∧ RowAt H p r ∧ RowOk r ∧ Q (.int (rowNum r)) H
theorem word_at : ∀ x < 5, wordL[x]? = some (wordS x) := by decide +kernel
theorem word_no : ∀ x < 5, ∀ m < x, wordL[m]? ≠ some (wordS x) := by decide +kernel
theorem ok_rowNum (T : Txt K mg) (F : Fn K mg "row_number" st_row_number []) (G_name_number : Cal P w K mg base CX0 1 "name_number" spNameNum []) : Cal P w K mg base CX0 2 "row_number" spRowNum [] := by
  refine F.cal sc_row_number ?_ (fun _ _ _ _ _ _ us hl => match us, hl with | [_], _ => rfl) ?_
  · rintro vs H Q E ⟨p, r, rfl, _⟩
    rfl
  rintro f cdv A outer s H vs Q E hr ⟨p, r, rfl, hp, ok, q⟩
  refine ⟨_, (pss_cons (ps_asg (pv 0) (pg_tup rfl (pgs_cons (pg_name (i := 1) sc_row_number.nd rfl (Or.inl rfl)) (pgs_cons (pg_name (i := 2) sc_row_number.nd rfl (Or.inl rfl)) (pgs_cons (pg_name (i := 3) sc_row_number.nd rfl (Or.inl rfl)) (pgs_cons (pg_name (i := 4) sc_row_number.nd rfl (Or.inl rfl)) (pgs_nil)))))))
    (pss_one (ps_ret (pe_op op_add (pe_op op_mul (pe_op op_add (pe_op op_mul (cl G_name_number hr (by decide) (pa_cons (pv 3) (pa_nil))) (pe_callB call_len_seq (by rfl) T.z_len b_len (pa_cons (gr T.g_WORDS) (pa_nil)))) (pe_bm PySem.F.plainAttrs_tuple PySem.F.slot_tuple_index PySem.F.type_tuple_index mt_tup_index (gr T.g_WORDS) (pa_cons (pv 2) (pa_nil)))) (gi T.i_NOTES)) (pv 4))))), ?_⟩
  refine ⟨_, rfl, p, tv r, rfl, SqT.of hp, rfl, _, _, rfl, _, _, rfl, _, _, rfl, _, _, rfl, rfl, ?_⟩
  refine ⟨_, rfl, r.n, rfl, ok.hn, _, _, rfl, .inr (T.t_WORDS _), _, _, rfl, rfl, .inr ⟨by decide, by decide⟩, ?_⟩
  refine ⟨.inr (.inl ⟨rfl, T.y_WORDS⟩), _, rfl, _, wordL, wordS r.w, r.w, rfl, rfl, T.t_WORDS _, word_at _ ok.hw, word_no _ ok.hw, ?_⟩
  exact ⟨_, _, rfl, rfl, _, _, rfl, rfl, .inr ⟨by decide, by decide⟩, _, rfl, _, _, rfl, rfl, q⟩
end
end K18

set_option maxHeartbeats 4000000
namespace K18
open PySem PySem.Spec PyProof.Rows L2
/-! ### which logs can stand -/
def canStand (many fixed : Nat) (up : Bool) (r : Row) : Bool := decide (r.b < many) && ((decide (r.w = 3 ∨ r.w = 4) == up) && (decide (r.w ≠ 4) || decide (fixed ≤ r.b)))
def faultFrom (many fixed : Nat) : Nat → Bool → List Row → Option Nat
  | _, _, [] => none
  | i, up, r :: rs => if canStand many fixed up r = true then faultFrom many fixed (i + 1) (up || decide (r.w = 2)) rs else some i
def fault (many fixed : Nat) (rs : List Row) : Option Nat := faultFrom many fixed 0 false rs
def oV : Option Nat → V
  | none => .non
  | some i => .int (i : Int)
/-- rows stand at these addresses -/
structure Rows (H : Hp) (ps : List Addr) (rs : List Row) : Prop where
  len : ps.length = rs.length
  rows : ∀ (i : Nat) (p : Addr) (r : Row), ps[i]? = some p → rs[i]? = some r → RowAt H p r
def RowsOk (rs : List Row) : Prop := ∀ r ∈ rs, RowOk r
theorem Rows.same {H H' : Hp} {ps : List Addr} {rs : List Row} (R : Rows H ps rs) (s : Same H H') : Rows H' ps rs := ⟨R.len, fun i p r h1 h2 => s _ _ (R.rows i p r h1 h2)⟩
theorem Rows.get {H : Hp} {ps : List Addr} {rs : List Row} (R : Rows H ps rs) {i : Nat} {x : V} (h : (ps.map V.ref)[i]? = some x) : ∃ p r, x = .ref p ∧ ps[i]? = some p ∧ rs[i]? = some r ∧ RowAt H p r := by
  rw [List.getElem?_map] at h
  cases e : ps[i]? with
  | none =>
    rw [e] at h
    cases h
  | some p =>
    rw [e] at h
    have hi : i < rs.length := by
      rw [← R.len]
      exact (List.getElem?_eq_some_iff.mp e).1
    refine ⟨p, rs[i], (Option.some.inj h).symm, rfl, by simp [hi], R.rows i p _ e (by simp [hi])⟩
theorem same_seqT {K : PySem.W.Frag} {H H' : Hp} {a : Addr} {xs : List V} (e : Same H H') (h : SqT K H a xs) : SqT K H' a xs := by
  rcases h with (h | ⟨o, h⟩) | h
  · exact .inl (.inl (e _ _ h))
  · exact .inl (.inr ⟨o, e _ _ h⟩)
  · exact .inr h
section
variable {P : Program} {w : World} {K : PySem.W.Frag} {mg : Str → Option Value} {base : Heap}
/-! ### can_stand -/
def spCan : Sp := fun vs H Q _ => ∃ (p : Addr) (r : Row) (up : Bool) (many fixed : Nat), vs = [.ref p, .bl up, .int (many : Int), .int (fixed : Int)] ∧ RowAt H p r ∧ RowOk r ∧ ∀ H', Same H H' → Q (.bl (canStand many fixed up r)) H'
theorem behind_in : ∀ x < 5, inV (.str (wordS x)) (([("late" : Str), "reset"] : List Str).map V.str) = decide (x = 3 ∨ x = 4) := by decide +kernel
theorem reset_is : ∀ x < 5, decide (V.str (wordS x) = V.str "reset") = decide (x = 4) := by decide +kernel
theorem end_is : ∀ x < 5, decide (V.str (wordS x) = V.str "end") = decide (x = 2) := by decide +kernel
theorem ok_can (T : Txt K mg) (F : Fn K mg "can_stand" st_can_stand []) (G_is_row : Cal P w K mg base CX0 3 "is_row" spIsRow []) : Cal P w K mg base CX0 4 "can_stand" spCan [] := by
  refine F.cal sc_can_stand ?_ (fun _ _ _ _ _ _ us hl => match us, hl with | [_, _, _, _], _ => rfl) ?_
  · rintro vs H Q E ⟨p, r, up, many, fixed, rfl, _⟩
    rfl
  rintro f cdv A outer s H vs Q E hr ⟨p, r, up, many, fixed, rfl, hp, ok, q⟩
  refine ⟨_, (pss_cons (ps_if (PW.pt (pw_or (pt_not (pt_val (cl G_is_row hr (by decide) (pa_cons (pv 0) (pa_nil))))) (pw_or1 (pt_cmpR op_ge (pe_ix ix_tup (pv 0) pe_int (fun _ _ => rfl)) (pv 2) (nomark _))))) (pss_one (ps_ret pe_bl)) pss_nil)
    (pss_cons (ps_if (pt_cmpR op_ne (pe_cmpR op_in_seq (pe_ix ix_tup (pv 0) pe_int (fun _ _ => rfl)) (gr T.g_BEHIND_END) (by rfl)) (pv 1) (nomark _)) (pss_one (ps_ret pe_bl)) pss_nil)
    (pss_one (ps_ret (pe_or (pe_cmpR op_ne (pe_ix ix_tup (pv 0) pe_int (fun _ _ => rfl)) (gs T.s_RESET) (nomark _)) (pe_one (pe_cmpR op_ge (pe_ix ix_tup (pv 0) pe_int (fun _ _ => rfl)) (pv 3) (nomark _)))))))), ?_⟩
  refine ⟨_, rfl, p, r, rfl, hp, ok, fun H1 s1 => ⟨true, rfl, iteF ?_⟩⟩
  have hp1 := s1 _ _ hp
  refine ⟨_, rfl, p, tv r, _, _, rfl, rfl, SqT.of hp1, atI_nat (j := 0) rfl, _, rfl, _, _, rfl, rfl, _, rfl, ?_⟩
  have eb : decide ((many : Int) ≤ (r.b : Int)) = !decide (r.b < many) := by
    by_cases h : r.b < many
    · rw [decide_eq_true h, decide_eq_false (by omega)]
      rfl
    · rw [decide_eq_false h, decide_eq_true (by omega)]
      rfl
  rw [eb]
  have q1 := q _ s1
  unfold canStand at q1
  cases c1 : decide (r.b < many) with
  | false =>
    rw [c1] at q1
    exact iteT q1
  | true =>
    rw [c1] at q1
    refine iteF ?_
    refine ⟨_, rfl, p, tv r, _, _, rfl, rfl, SqT.of hp1, atI_nat (j := 1) rfl, _, _, rfl, .inr (T.t_BEHIND_END _), rfl, rfl, ?_⟩
    refine ⟨_, rfl, rfl, _, rfl, ?_⟩
    have e2 : (!decide (V.bl (if false = true then !inV (.str (wordS r.w)) (([("late" : Str), "reset"] : List Str).map V.str) else inV (.str (wordS r.w)) (([("late" : Str), "reset"] : List Str).map V.str)) = V.bl up)) = !(decide (r.w = 3 ∨ r.w = 4) == up) := by
      rw [if_neg Bool.false_ne_true, behind_in _ ok.hw, dec_bl]
    rw [e2]
    cases c2 : (decide (r.w = 3 ∨ r.w = 4) == up) with
    | false =>
      rw [c2] at q1
      exact iteT q1
    | true =>
      rw [c2] at q1
      refine iteF ?_
      refine ⟨_, rfl, p, tv r, _, _, rfl, rfl, SqT.of hp1, atI_nat (j := 1) rfl, rfl, _, rfl, ?_⟩
      have e3 : (!decide (V.str (wordS r.w) = V.str "reset")) = decide (r.w ≠ 4) := by
        rw [reset_is _ ok.hw]
        simp
      rw [e3]
      cases c3 : decide (r.w ≠ 4) with
      | true =>
        rw [c3] at q1
        exact iteT q1
      | false =>
        rw [c3] at q1
        refine iteF ?_
        refine ⟨_, rfl, p, tv r, _, _, rfl, rfl, SqT.of hp1, atI_nat (j := 0) rfl, _, rfl, _, _, rfl, rfl, ?_⟩
        have e4 : decide ((fixed : Int) ≤ (r.b : Int)) = decide (fixed ≤ r.b) := by
          by_cases h : fixed ≤ r.b
          · rw [decide_eq_true h, decide_eq_true (by omega)]
          · rw [decide_eq_false h, decide_eq_false (by omega)]
        show Q (.bl (decide ((fixed : Int) ≤ (r.b : Int)))) H1
        rw [e4]
        exact q1
/-! ### fault -/
def spFault (K : PySem.W.Frag) : Sp := fun vs H Q _ => ∃ (a : Addr) (ps : List Addr) (rs : List Row) (many fixed : Nat), vs = [.ref a, .int (many : Int), .int (fixed : Int)] ∧ (SqL K H a (ps.map V.ref) ∨ SqT K H a (ps.map V.ref)) ∧ Rows H ps rs ∧ RowsOk rs ∧
  ∀ H', Same H H' → Q (oV (fault many fixed rs)) H'
theorem same_new_refl (H : Hp) : Same H H := Same.refl H
theorem ok_fault (T : Txt K mg) (F : Fn K mg "fault" st_fault [("many", V.int 4), ("fixed", V.int 2)]) (G_can_stand : Cal P w K mg base CX0 4 "can_stand" spCan []) : Body P w K mg base N_fault "fault" st_fault 4 (spFault K) := by
  rintro f cdv A outer s H vs Q E hr ⟨a, ps, rs, many, fixed, rfl, hs, R, ok, q⟩
  rcases hs with hs | hs
  · refine ⟨_, (pss_cons (ps_set (i := 3) sc_fault.nd rfl (Or.inl rfl) pe_bl)
    (pss_cons (ps_for PassesOwn.never rfl (pi_enum (by rfl) T.z_enumerate (pa_cons (pv 0) (pa_nil))) (pg_tup rfl (pgs_cons (pg_name (i := 4) sc_fault.nd rfl (Or.inl rfl)) (pgs_cons (pg_name (i := 5) sc_fault.nd rfl (Or.inl rfl)) (pgs_nil)))) (pss_cons (ps_if (pt_not (pt_val (cl G_can_stand hr (by decide) (pa_cons (pv 5) (pa_cons (pv 3) (pa_cons (pv 1) (pa_cons (pv 2) (pa_nil)))))))) (pss_one (ps_ret (pv 4))) pss_nil)
    (pss_one (ps_set (i := 3) sc_fault.nd rfl (Or.inl rfl) (pe_or (pv 3) (pe_one (pe_cmpR op_eq (pe_ix ix_tup (pv 5) pe_int (fun _ _ => rfl)) (gs T.s_END) (nomark _))))))))
    (pss_one (ps_ret pe_non)))), ?_⟩
    refine ⟨_, rfl, a, _, rfl, hs, for_enumL (K := K) (xs := ps.map V.ref) (fun i σ H1 => Same H H1 ∧ ∃ (up : Bool) (v1 v2 : Option V), σ = [some (.ref a), some (.int (many : Int)), some (.int (fixed : Int)), some (.bl up), v1, v2] ∧ faultFrom many fixed i up (rs.drop i) = fault many fixed rs) ?_ ?_ ?_ ?_⟩
    · refine ⟨same_new_refl _, false, none, none, rfl, ?_⟩
      rw [List.drop_zero]
      rfl
    · rintro i σ H1 _ ⟨s1, _⟩
      first | exact s1.seq hs | exact same_seqT s1 hs
    · rintro i x t σ H1 hx ⟨s1, up, v1, v2, rfl, hf⟩ ht
      obtain ⟨p, r, rfl, hpa, hr1, hp⟩ := (R.same s1).get hx
      have okr : RowOk r := ok r (List.mem_of_getElem? hr1)
      have s2 : Same H (upd H1 t (.tup [.int (i : Nat), .ref p])) := same_upd s1 ht
      refine ⟨t, _, rfl, SqT.of upd_same, rfl, _, _, rfl, _, _, rfl, rfl, ?_⟩
      have dr : rs.drop i = r :: rs.drop (i + 1) := by
        obtain ⟨hi, e⟩ := List.getElem?_eq_some_iff.mp hr1
        rw [← e]
        exact List.drop_eq_getElem_cons hi
      rw [dr] at hf
      refine ⟨_, rfl, _, rfl, _, rfl, _, rfl, p, r, up, many, fixed, rfl, s2 _ _ (R.rows i p r hpa hr1), okr, fun H2 s3 => ⟨_, rfl, ?_⟩⟩
      cases c : canStand many fixed up r with
      | false =>
        refine iteT ⟨_, rfl, ?_⟩
        have e : fault many fixed rs = some i := by
          rw [← hf]
          unfold faultFrom
          rw [c]
          rfl
        have q1 := q _ (s2.trans s3)
        rw [e] at q1
        exact q1
      | true =>
        refine iteF ?_
        have hf2 : faultFrom many fixed (i + 1) (up || decide (r.w = 2)) (rs.drop (i + 1)) = fault many fixed rs := by
          rw [← hf]
          show _ = if canStand many fixed up r = true then _ else _
          rw [c]
          rfl
        cases up with
        | true => exact ⟨_, rfl, true, rfl, iteT ⟨s2.trans s3, true, some (.int (i : Int)), some (.ref p), rfl, hf2⟩⟩
        | false =>
          refine ⟨_, rfl, false, rfl, iteF ?_⟩
          refine ⟨_, rfl, p, tv r, _, _, rfl, rfl, SqT.of (s3 _ _ (s2 _ _ (R.rows i p r hpa hr1))), atI_nat (j := 1) rfl, rfl, ?_⟩
          refine ⟨s2.trans s3, decide (r.w = 2), some (.int (i : Int)), some (.ref p), ?_, hf2⟩
          rw [end_is _ okr.hw]
          rfl
    · rintro σ H1 ⟨s1, up, v1, v2, rfl, hf⟩
      have e : rs.drop (ps.map V.ref).length = [] := by
        rw [List.length_map, R.len]
        exact List.drop_length
      rw [e] at hf
      have q1 := q _ s1
      rw [← hf] at q1
      exact q1
  · refine ⟨_, (pss_cons (ps_set (i := 3) sc_fault.nd rfl (Or.inl rfl) pe_bl)
    (pss_cons (ps_for PassesOwn.never rfl (pi_enumT (by rfl) T.z_enumerate (pa_cons (pv 0) (pa_nil))) (pg_tup rfl (pgs_cons (pg_name (i := 4) sc_fault.nd rfl (Or.inl rfl)) (pgs_cons (pg_name (i := 5) sc_fault.nd rfl (Or.inl rfl)) (pgs_nil)))) (pss_cons (ps_if (pt_not (pt_val (cl G_can_stand hr (by decide) (pa_cons (pv 5) (pa_cons (pv 3) (pa_cons (pv 1) (pa_cons (pv 2) (pa_nil)))))))) (pss_one (ps_ret (pv 4))) pss_nil)
    (pss_one (ps_set (i := 3) sc_fault.nd rfl (Or.inl rfl) (pe_or (pv 3) (pe_one (pe_cmpR op_eq (pe_ix ix_tup (pv 5) pe_int (fun _ _ => rfl)) (gs T.s_END) (nomark _))))))))
    (pss_one (ps_ret pe_non)))), ?_⟩
    refine ⟨_, rfl, a, _, rfl, hs, for_enumT (K := K) (xs := ps.map V.ref) (fun i σ H1 => Same H H1 ∧ ∃ (up : Bool) (v1 v2 : Option V), σ = [some (.ref a), some (.int (many : Int)), some (.int (fixed : Int)), some (.bl up), v1, v2] ∧ faultFrom many fixed i up (rs.drop i) = fault many fixed rs) ?_ ?_ ?_ ?_⟩
    · refine ⟨same_new_refl _, false, none, none, rfl, ?_⟩
      rw [List.drop_zero]
      rfl
    · rintro i σ H1 _ ⟨s1, _⟩
      first | exact s1.seq hs | exact same_seqT s1 hs
    · rintro i x t σ H1 hx ⟨s1, up, v1, v2, rfl, hf⟩ ht
      obtain ⟨p, r, rfl, hpa, hr1, hp⟩ := (R.same s1).get hx
      have okr : RowOk r := ok r (List.mem_of_getElem? hr1)
      have s2 : Same H (upd H1 t (.tup [.int (i : Nat), .ref p])) := same_upd s1 ht
      refine ⟨t, _, rfl, SqT.of upd_same, rfl, _, _, rfl, _, _, rfl, rfl, ?_⟩
      have dr : rs.drop i = r :: rs.drop (i + 1) := by
        obtain ⟨hi, e⟩ := List.getElem?_eq_some_iff.mp hr1
        rw [← e]
        exact List.drop_eq_getElem_cons hi
      rw [dr] at hf
      refine ⟨_, rfl, _, rfl, _, rfl, _, rfl, p, r, up, many, fixed, rfl, s2 _ _ (R.rows i p r hpa hr1), okr, fun H2 s3 => ⟨_, rfl, ?_⟩⟩
      cases c : canStand many fixed up r with
      | false =>
        refine iteT ⟨_, rfl, ?_⟩
        have e : fault many fixed rs = some i := by
          rw [← hf]
          unfold faultFrom
          rw [c]
          rfl
        have q1 := q _ (s2.trans s3)
        rw [e] at q1
        exact q1
      | true =>
        refine iteF ?_
        have hf2 : faultFrom many fixed (i + 1) (up || decide (r.w = 2)) (rs.drop (i + 1)) = fault many fixed rs := by
          rw [← hf]
          show _ = if canStand many fixed up r = true then _ else _
          rw [c]
          rfl
        cases up with
        | true => exact ⟨_, rfl, true, rfl, iteT ⟨s2.trans s3, true, some (.int (i : Int)), some (.ref p), rfl, hf2⟩⟩
        | false =>
          refine ⟨_, rfl, false, rfl, iteF ?_⟩
          refine ⟨_, rfl, p, tv r, _, _, rfl, rfl, SqT.of (s3 _ _ (s2 _ _ (R.rows i p r hpa hr1))), atI_nat (j := 1) rfl, rfl, ?_⟩
          refine ⟨s2.trans s3, decide (r.w = 2), some (.int (i : Int)), some (.ref p), ?_, hf2⟩
          rw [end_is _ okr.hw]
          rfl
    · rintro σ H1 ⟨s1, up, v1, v2, rfl, hf⟩
      have e : rs.drop (ps.map V.ref).length = [] := by
        rw [List.length_map, R.len]
        exact List.drop_length
      rw [e] at hf
      have q1 := q _ s1
      rw [← hf] at q1
      exact q1
end
end K18

set_option maxHeartbeats 4000000
namespace K18
open PySem PySem.Spec PyProof.Rows L2
theorem at_none {H : Hp} {a d : Addr} {o : HO} (h : upd H a o d = none) : d ≠ a ∧ H d = none := by
  by_cases e : d = a
  · rw [e, upd_same] at h
    cases h
  · rw [upd_ne e] at h
    exact ⟨e, h⟩
section
variable {P : Program} {w : World} {K : PySem.W.Frag} {mg : Str → Option Value} {base : Heap}
theorem kg_fault (T : Txt K mg) (F : Fn K mg "fault" st_fault [("many", V.int 4), ("fixed", V.int 2)]) (G_can_stand : Cal P w K mg base CX0 4 "can_stand" spCan []) :
    KCal P w K mg base CX0 5 "fault" (spFault K) 1 ["many", "fixed"] (fun vs zs => vs ++ zs) := by
  have B := ok_fault (P := P) (w := w) (base := base) T F G_can_stand
  obtain ⟨f, fd, D, hm⟩ := F.ex
  refine ⟨f, fd, ps_fault, fun us ws => us ++ ws, B.fn D sc_fault ?_, hm, D.kp, Fn.kbn 1 ["many", "fixed"] (fun us ws => us ++ ws) D (fun r1 r2 => r1.append r2) ?_⟩
  · rintro vs H Q E ⟨a, ps, rs, many, fixed, rfl, _⟩
    rfl
  · intro kV doc pm an cdv ct us ws l1 l2
    match us, ws, l1, l2 with
    | [_], [_, _], _, _ => rfl
/-! ### StartError.__init__ -/
def spBad (C : Addr) : Sp := fun vs H Q _ => ∃ (a : Addr) (v : V), vs = [.ref a, v] ∧ H a = some (exo a C none) ∧ ∀ d, H d = none → d ≠ a → Q .non (upd (upd H d (exd d [("what", v)])) a (exo a C (some d)))
theorem ok_bad {f : Addr} {fd : FuncData} (T : Txt K mg) (D : FunD K "__init__" "StartError.__init__" (defArgs (inClass (top 2) 0)) (defBody (inClass (top 2) 0)) (defScope (inClass (top 2) 0)) [] [] f fd) :
    FnOk P w K mg base CX0 1 f fd ps_StartError___init__ (spBad (CB K)) := by
  have B : Body P w K mg base N_StartError___init__ "StartError.__init__" st_StartError___init__ 0 (spBad (CB K)) := by
    rintro f cdv A outer s H vs Q E hr ⟨a, v, rfl, ha, q⟩
    refine ⟨_, (pss_cons (ps_expr (pe_veinit (by rfl) T.z_ValueError T.vi (pa_cons (pv 0) (pa_cons pe_str (pa_nil)))))
    (pss_one (ps_ost (pv 0) (pv 1)))), ?_⟩
    refine ⟨_, rfl, a, CB K, _, rfl, by decide, T.oex, ha, ?_⟩
    exact ⟨_, rfl, _, rfl, a, CB K, rfl, T.oex, T.nWhat, .inl ⟨ha, q⟩⟩
  refine B.fn D sc_StartError___init__ ?_
  rintro vs H Q E ⟨a, v, rfl, _⟩
  rfl
theorem bad_binds {f : Addr} {fd : FuncData} (D : FunD K "__init__" "StartError.__init__" (defArgs (inClass (top 2) 0)) (defBody (inClass (top 2) 0)) (defScope (inClass (top 2) 0)) [] [] f fd) : Binds K fd ps_StartError___init__ [] :=
  D.bindsN fun _ _ _ _ _ _ us hl => match us, hl with | [_, _], _ => rfl
/-! ### look_log -/
def spLook (K : PySem.W.Frag) : Sp := fun vs H Q E => ∃ (a : Addr) (ps : List Addr) (rs : List Row) (many fixed : Nat), vs = [.ref a, .int (many : Int), .int (fixed : Int)] ∧ (SqL K H a (ps.map V.ref) ∨ SqT K H a (ps.map V.ref)) ∧ Rows H ps rs ∧ RowsOk rs ∧
  (∀ H', Same H H' → fault many fixed rs = none → Q .non H') ∧
  ∀ i d H', Same H H' → fault many fixed rs = some i → H' d = some (.xd [("what", .int (i : Int))]) → E (.ref (CB K)) (some d) H'
theorem ok_look (T : Txt K mg) (F : Fn K mg "look_log" st_look_log []) (KG_fault_mf : KCal P w K mg base CX0 5 "fault" (spFault K) 1 ["many", "fixed"] (fun vs zs => vs ++ zs))
    {fB : FuncData} (G_bad : FnOk P w K mg base CX0 1 (He.ma K (CB K) "__init__") fB ps_StartError___init__ (spBad (CB K))) (b_bad : Binds K fB ps_StartError___init__ []) : Cal P w K mg base (L2.CX P w) 6 "look_log" (spLook K) [] := by
  refine F.calX sc_look_log ?_ (fun _ _ _ _ _ _ us hl => match us, hl with | [_, _, _], _ => rfl) ?_
  · rintro vs H Q E ⟨a, ps, rs, many, fixed, rfl, _⟩
    rfl
  rintro f cdv A outer s H vs Q E hr ⟨a, ps, rs, many, fixed, rfl, hs, R, ok, qn, qr⟩
  refine ⟨_, (pss_cons (ps_set (i := 3) sc_look_log.nd rfl (Or.inl rfl) (kc (E := fun _ => E0) KG_fault_mf hr (by decide) (fun _ => none_at0) (pa_cons (pv 0) (pa_nil)) (pk_cons (pv 1) (pk_cons (pv 2) pk_nil))))
    (pss_one (ps_if (pt_cmpR op_notN (pv 3) pe_non (nomark _)) (pss_one (ps_raise rfl (takes_of rfl rfl rfl rfl) (pmk_oex T.oex T.iC T.tI G_bad (hr.mono (by decide)) b_bad .nil pass0 (by rfl) T.g_BadLog (pa_cons (pv 3) (pa_nil))))) pss_nil))), ?_⟩
  refine ⟨_, rfl, _, rfl, _, rfl, rfl, rfl, a, ps, rs, many, fixed, rfl, hs, R, ok, fun H1 s1 => ?_⟩
  refine ⟨_, rfl, rfl, _, rfl, ?_⟩
  cases e : fault many fixed rs with
  | none => exact iteF (qn H1 s1 e)
  | some i =>
    refine iteT ⟨_, rfl, (by show 1 ≤ 1000; decide), fun x hx => ?_⟩
    refine ⟨x, _, rfl, upd_same, fun d hd hdx => ⟨rfl, d, [(("what" : Str), oV (some i))], upd_same, ?_, (at_none hd).2, ?_⟩⟩
    · rw [upd_ne hdx, upd_same]
    · refine qr i d _ (fun b o hb => ?_) e upd_same
      have nx : b ≠ x := ne_of_none (s1 _ _ hb) hx
      have nd : b ≠ d := ne_of_none (s1 _ _ hb) (at_none hd).2
      rw [upd_ne nd, del_ne nx, upd_ne nx, upd_ne nd, upd_ne nx]
      exact s1 _ _ hb
end
end K18

set_option maxHeartbeats 4000000
namespace K18
open PySem PySem.Spec PyProof.Rows L2
/-! ### mixings -/
structure Mx where
  w : Option Nat
  f : Nat
def wV : Option Nat → V
  | none => .non
  | some n => .int (n : Int)
structure MxOk (m : Mx) : Prop where
  f1 : 1 ≤ m.f
  f2 : m.f ≤ 1000000
  ww : ∀ n, m.w = some n → 3 ≤ n ∧ n ≤ 1000000 ∧ Nat.gcd n m.f ≤ 1
def mix (m : Mx) (v : Int) (r : Row) : Int := match m.w with
  | none => v * 26500305465 + rowNum r + 1
  | some n => (v * (m.f : Int) + rowNum r + 1) % (n : Int)
def mflds (m : Mx) : List (Str × V) := putF "factor" (.int (m.f : Int)) (putF "width" (wV m.w) [])
theorem wf_ne : ¬ ("width" : Str) = "factor" := by decide +kernel
theorem mf_width (m : Mx) : (mflds m).lookup ("width" : Str) = some (wV m.w) := by
  unfold mflds
  rw [lookup_putF, if_neg wf_ne, lookup_putF, if_pos rfl]
theorem mf_factor (m : Mx) : (mflds m).lookup ("factor" : Str) = some (.int (m.f : Int)) := by
  unfold mflds
  rw [lookup_putF, if_pos rfl]
theorem mf_no (m : Mx) {x : Str} (h1 : ¬ x = "factor") (h2 : ¬ x = "width") : (mflds m).lookup x = none := by
  unfold mflds
  rw [lookup_putF, if_neg h1, lookup_putF, if_neg h2]
  rfl
theorem mf_begin (m : Mx) : (mflds m).lookup ("begin" : Str) = none := mf_no m (by decide +kernel) (by decide +kernel)
theorem mf_mixed (m : Mx) : (mflds m).lookup ("mixed" : Str) = none := mf_no m (by decide +kernel) (by decide +kernel)
/-- a Mixing stands at p -/
def MxAt (K : PySem.W.Frag) (H : Hp) (p : Addr) (m : Mx) : Prop := ∃ dx, H p = some (.ins (CM K) dx (mflds m))
theorem MxAt.same {K : PySem.W.Frag} {H H' : Hp} {p : Addr} {m : Mx} (h : MxAt K H p m) (s : Same H H') : MxAt K H' p m := by
  obtain ⟨dx, h⟩ := h
  exact ⟨dx, s _ _ h⟩
section
variable {P : Program} {w : World} {K : PySem.W.Frag} {mg : Str → Option Value} {base : Heap}
/-! ### is_between -/
def spBetween : Sp := fun vs H Q _ => ∃ t a b : Int, vs = [.int t, .int a, .int b] ∧ Q (.bl (decide (a ≤ t) && decide (t ≤ b))) H
theorem ok_between (T : Txt K mg) (F : Fn K mg "is_between" st_is_between []) : Cal P w K mg base CX0 1 "is_between" spBetween [] := by
  refine F.cal sc_is_between ?_ (fun _ _ _ _ _ _ us hl => match us, hl with | [_, _, _], _ => rfl) ?_
  · rintro vs H Q E ⟨t, a, b, rfl, _⟩
    rfl
  rintro f cdv A outer s H vs Q E hr ⟨t, a, b, rfl, q⟩
  refine ⟨_, (pss_one (ps_ret (pe_and (pe_callB call_isi (by rfl) T.z_isinstance b_isinstance (pa_cons (pv 0) (pa_cons (gty_int T.z_int) (pa_nil)))) (pe_and (pe_not (pe_callB call_isi (by rfl) T.z_isinstance b_isinstance (pa_cons (pv 0) (pa_cons (gty_bool T.z_bool) (pa_nil))))) (pe_one (pe_chain op_le op_le (pv 1) (pv 0) (pv 2))))))), ?_⟩
  refine ⟨_, rfl, _, _, _, _, true, rfl, .ty _, .base (.int _), k_int_int, true, rfl, iteT ?_⟩
  refine ⟨_, rfl, _, _, _, _, false, rfl, .ty _, .base (.int _), k_int_bool, false, rfl, true, rfl, iteT ?_⟩
  refine ⟨_, rfl, _, rfl, _, _, rfl, rfl, _, rfl, ?_⟩
  cases e : decide (a ≤ t) with
  | false =>
    rw [e] at q
    exact iteF q
  | true =>
    rw [e] at q
    exact iteT ⟨_, rfl, _, _, rfl, rfl, q⟩
/-! ### divisor_of -/
def spDiv : Sp := fun vs H Q _ => ∃ a b : Nat, vs = [.int (a : Int), .int (b : Int)] ∧ Q (.int (Nat.gcd a b : Nat)) H
theorem ok_div (T : Txt K mg) (F : Fn K mg "divisor_of" st_divisor_of []) : Cal P w K mg base CX0 1 "divisor_of" spDiv [] := by
  refine F.cal sc_divisor_of ?_ (fun _ _ _ _ _ _ us hl => match us, hl with | [_, _], _ => rfl) ?_
  · rintro vs H Q E ⟨a, b, rfl, _⟩
    rfl
  rintro f cdv A outer s H vs Q E hr ⟨a, b, rfl, q⟩
  refine ⟨_, (pss_cons (ps_while PassesOwn.never (pt_cmpR op_gt (pv 1) pe_int (nomark _)) (pss_one (ps_par (i := 0) (j := 1) rfl sc_divisor_of.nd rfl rfl (by decide) rfl rfl (pa_cons (pv 1) (pa_cons (pe_op op_mod (pv 0) (pv 1)) (pa_nil))) (by rfl))))
    (pss_one (ps_ret (pv 0)))), ?_⟩
  refine ⟨fun m σ H' => H' = H ∧ ∃ c : Nat, σ = [some (.int (c : Int)), some (.int (m : Int))] ∧ Nat.gcd c m = Nat.gcd a b, ⟨b, rfl, a, rfl, rfl⟩, ?_⟩
  rintro m σ H' ⟨rfl, c, rfl, hg⟩
  refine ⟨_, rfl, _, _, rfl, rfl, _, rfl, ?_⟩
  by_cases hm : m = 0
  · subst hm
    refine iteF ⟨_, rfl, ?_⟩
    rw [Nat.gcd_zero_right] at hg
    rw [hg]
    exact q
  · have e : decide ((0 : Int) < (m : Int)) = true := decide_eq_true (by omega)
    show (if decide ((0 : Int) < (m : Int)) = true then _ else _)
    rw [e]
    refine iteT ⟨_, fun σ' H1 h => ⟨c % m, Nat.mod_lt _ (by omega), h⟩, ?_⟩
    refine ⟨_, rfl, _, rfl, _, rfl, _, _, rfl, rfl, (by show (0 : Int) < (m : Int); omega), _, _, rfl, ?_⟩
    refine ⟨rfl, m, ?_, ?_⟩
    · show [some (V.int (m : Int)), some (V.int ((c : Int) % (m : Int)))] = _
      rw [show ((c : Int) % (m : Int)) = ((c % m : Nat) : Int) from (Int.natCast_emod c m).symm]
    · rw [← hg, Nat.gcd_comm c m, Nat.gcd_rec m c, Nat.gcd_comm]
/-! ### Mixing.__init__, begin, mixed -/
def spInit (K : PySem.W.Frag) : Sp := fun vs H Q _ => ∃ (p dx : Addr) (m : Mx), vs = [.ref p, wV m.w, .int (m.f : Int)] ∧ MxOk m ∧ H p = some (.ins (CM K) dx []) ∧ ∀ H', (∀ b o, H b = some o → b ≠ p → H' b = some o) → MxAt K H' p m → Q .non H'
theorem ok_init {f : Addr} {fd : FuncData} {dvs : List V} {kws : List (Str × V)} (T : Txt K mg) (D : FunD K "__init__" "Mixing.__init__" (defArgs (inClass (top 43) 0)) (defBody (inClass (top 43) 0)) (defScope (inClass (top 43) 0)) dvs kws f fd)
    (G_is_between : Cal P w K mg base CX0 1 "is_between" spBetween []) (G_divisor_of : Cal P w K mg base CX0 1 "divisor_of" spDiv []) : FnOk P w K mg base CX0 2 f fd ps_Mixing___init__ (spInit K) := by
  have B : Body P w K mg base N_Mixing___init__ "Mixing.__init__" st_Mixing___init__ 1 (spInit K) := by
    rintro f cdv A outer s H vs Q E hr ⟨p, dx, m, rfl, ok, hp, q⟩
    refine ⟨_, (pss_cons (ps_if (PW.pt (pw_and (pt_cmpR op_notN (pv 1) pe_non (nomark _)) (pw_and1 (pt_not (pt_val (cl G_is_between hr (by decide) (pa_cons (pv 1) (pa_cons (gi T.i_LEAST_WIDTH) (pa_cons (gi T.i_MOST) (pa_nil)))))))))) (pss_one ps_never) pss_nil)
    (pss_cons (ps_if (PW.pt (pw_or (pt_not (pt_val (cl G_is_between hr (by decide) (pa_cons (pv 2) (pa_cons pe_int (pa_cons (gi T.i_MOST) (pa_nil))))))) (pw_or1 (PW.pt (pw_and (pt_cmpR op_notN (pv 1) pe_non (nomark _)) (pw_and1 (pt_cmpR op_gt (cl G_divisor_of hr (by decide) (pa_cons (pv 1) (pa_cons (pv 2) (pa_nil)))) pe_int (nomark _)))))))) (pss_one ps_never) pss_nil)
    (pss_cons (ps_fld (pv 0) (pv 1) rfl)
    (pss_one (ps_fld (pv 0) (pv 2) rfl))))), ?_⟩
    have fin : sFld K (tVar 0) (tVar 1) "width" { nx := sFld K (tVar 0) (tVar 2) "factor" { nx := fun _ H' => Q .non H', rt := Q }, rt := Q } [some (.ref p), some (wV m.w), some (.int (m.f : Int))] H := by
      refine ⟨_, rfl, _, rfl, p, CM K, dx, [], rfl, hp, T.cl, T.nW, (by show 0 < 1000; decide), ?_⟩
      refine ⟨_, rfl, _, rfl, p, CM K, dx, _, rfl, upd_same, T.cl, T.nF, (by show 1 < 1000; decide), ?_⟩
      rw [upd_upd]
      refine q _ (fun b o e hb => ?_) ⟨dx, upd_same⟩
      rw [upd_ne hb]
      exact e
    have e1 : (decide ((1 : Int) ≤ (m.f : Int)) && decide ((m.f : Int) ≤ 1000000)) = true := by
      have h1 := ok.f1
      have h2 := ok.f2
      rw [decide_eq_true (by omega), decide_eq_true (by omega)]
      rfl
    obtain ⟨mw, mf⟩ := m
    cases mw with
    | none =>
      refine ⟨_, rfl, rfl, _, rfl, iteF (iteF ?_)⟩
      refine ⟨_, rfl, _, 1, 1000000, rfl, ?_⟩
      rw [e1]
      refine ⟨_, rfl, iteF ⟨_, rfl, rfl, _, rfl, iteF (iteF fin)⟩⟩
    | some n =>
      obtain ⟨h3, h4, h5⟩ := ok.ww n rfl
      have e2 : (decide ((3 : Int) ≤ (n : Int)) && decide ((n : Int) ≤ 1000000)) = true := by
        rw [decide_eq_true (by omega), decide_eq_true (by omega)]
        rfl
      refine ⟨_, rfl, rfl, _, rfl, iteT ?_⟩
      refine ⟨_, rfl, (n : Int), 3, 1000000, rfl, ?_⟩
      rw [e2]
      refine ⟨_, rfl, iteF ?_⟩
      refine ⟨_, rfl, _, 1, 1000000, rfl, ?_⟩
      rw [e1]
      refine ⟨_, rfl, iteF ⟨_, rfl, rfl, _, rfl, iteT ?_⟩⟩
      refine ⟨_, rfl, _, rfl, n, mf, rfl, _, _, rfl, rfl, _, rfl, ?_⟩
      have e3 : decide ((1 : Int) < ((Nat.gcd n mf : Nat) : Int)) = false := decide_eq_false (by
        have h5' : Nat.gcd n mf ≤ 1 := h5
        omega)
      show (if decide ((1 : Int) < ((Nat.gcd n mf : Nat) : Int)) = true then _ else _)
      rw [e3]
      exact iteF fin
  refine B.fn D sc_Mixing___init__ ?_
  rintro vs H Q E ⟨p, dx, m, rfl, _⟩
  rfl
def spBegin : Sp := fun vs H Q _ => ∃ (p : Addr) (b : Bool), vs = [.ref p, .bl b] ∧ Q (.int (if b = true then 2 else 1)) H
theorem ok_begin {f : Addr} {fd : FuncData} {dvs : List V} {kws : List (Str × V)} (T : Txt K mg) (D : FunD K "begin" "Mixing.begin" (defArgs (inClass (top 43) 1)) (defBody (inClass (top 43) 1)) (defScope (inClass (top 43) 1)) dvs kws f fd) :
    FnOk P w K mg base CX0 1 f fd ps_Mixing_begin spBegin := by
  have B : Body P w K mg base N_Mixing_begin "Mixing.begin" st_Mixing_begin 0 spBegin := by
    rintro f cdv A outer s H vs Q E hr ⟨p, b, rfl, q⟩
    refine ⟨_, (pss_one (ps_ret (pe_ifExp (pt_val (pv 1)) (gi T.i_RESET_BEGIN) (gi T.i_PLAIN_BEGIN)))), ?_⟩
    refine ⟨_, rfl, _, rfl, ?_⟩
    cases b with
    | true => exact iteT q
    | false => exact iteF q
  refine B.fn D sc_Mixing_begin ?_
  rintro vs H Q E ⟨p, b, rfl, _⟩
  rfl
def spMixed (K : PySem.W.Frag) : Sp := fun vs H Q _ => ∃ (p rp : Addr) (m : Mx) (v : Int) (r : Row), vs = [.ref p, .int v, .ref rp] ∧ MxAt K H p m ∧ MxOk m ∧ RowAt H rp r ∧ RowOk r ∧ Q (.int (mix m v r)) H
theorem ok_mixed {f : Addr} {fd : FuncData} {dvs : List V} {kws : List (Str × V)} (T : Txt K mg) (D : FunD K "mixed" "Mixing.mixed" (defArgs (inClass (top 43) 2)) (defBody (inClass (top 43) 2)) (defScope (inClass (top 43) 2)) dvs kws f fd)
    (G_row_number : Cal P w K mg base CX0 2 "row_number" spRowNum []) : FnOk P w K mg base CX0 3 f fd ps_Mixing_mixed (spMixed K) := by
  have B : Body P w K mg base N_Mixing_mixed "Mixing.mixed" st_Mixing_mixed 2 (spMixed K) := by
    rintro f cdv A outer s H vs Q E hr ⟨p, rp, m, v, r, rfl, ⟨dx, hm⟩, okm, hr1, okr, q⟩
    refine ⟨_, (pss_cons (ps_if (pt_cmpR op_isN (pe_fld (pv 0) rfl) pe_non (nomark _)) (pss_one (ps_ret (pe_op op_add (pe_op op_add (pe_op op_mul (pv 1) (gi T.i_SPAN)) (cl G_row_number hr (by decide) (pa_cons (pv 2) (pa_nil)))) pe_int))) pss_nil)
    (pss_one (ps_ret (pe_op op_mod (pe_op op_add (pe_op op_add (pe_op op_mul (pv 1) (pe_fld (pv 0) rfl)) (cl G_row_number hr (by decide) (pa_cons (pv 2) (pa_nil)))) pe_int) (pe_fld (pv 0) rfl))))), ?_⟩
    refine ⟨_, rfl, p, CM K, dx, _, _, rfl, hm, T.cl, T.nW, mf_width m, rfl, _, rfl, ?_⟩
    unfold mix at q
    cases e : m.w with
    | none =>
      rw [e] at q
      refine iteT ?_
      exact ⟨_, rfl, _, _, rfl, rfl, .inr ⟨by decide, by decide⟩, _, rfl, rp, r, rfl, hr1, okr, _, _, rfl, rfl, _, _, rfl, rfl, q⟩
    | some n =>
      rw [e] at q
      obtain ⟨h3, h4, h5⟩ := okm.ww n e
      have h6 := okm.f2
      refine iteF ?_
      refine ⟨_, rfl, _, rfl, p, CM K, dx, _, _, rfl, hm, T.cl, T.nF, mf_factor m, _, _, rfl, rfl, .inr ⟨by omega, by omega⟩, _, rfl, rp, r, rfl, hr1, okr, _, _, rfl, rfl, _, _, rfl, rfl, ?_⟩
      exact ⟨_, rfl, p, CM K, dx, _, _, rfl, hm, T.cl, T.nW, mf_width m, _, (n : Int), rfl, by rw [e]; rfl, (by show (0 : Int) < (n : Int); omega), q⟩
  refine B.fn D sc_Mixing_mixed ?_
  rintro vs H Q E ⟨p, rp, m, v, r, rfl, _⟩
  rfl
end
end K18

set_option maxHeartbeats 4000000
namespace K18
open PySem PySem.Spec PyProof.Rows L2
/-! ### states -/
def beh (m : Mx) (bs : List Int) (r : Row) : List Int := bs.set r.b (if r.w = 4 then 2 else mix m (bs.getD r.b 0) r)
def stAt (m : Mx) (many : Nat) (rs : List Row) (i : Nat) : List Int := (rs.take i).foldl (beh m) (List.replicate many 1)
theorem beh_len (m : Mx) (bs : List Int) (r : Row) : (beh m bs r).length = bs.length := by
  unfold beh
  rw [List.length_set]
theorem stAt_zero (m : Mx) (many : Nat) (rs : List Row) : stAt m many rs 0 = List.replicate many 1 := rfl
theorem stAt_succ {m : Mx} {many : Nat} {rs : List Row} {i : Nat} {r : Row} (h : rs[i]? = some r) : stAt m many rs (i + 1) = beh m (stAt m many rs i) r := by
  unfold stAt
  rw [take_snoc h, List.foldl_append]
  rfl
theorem fold_len (m : Mx) : ∀ (rs : List Row) (bs : List Int), (rs.foldl (beh m) bs).length = bs.length
  | [], _ => rfl
  | r :: rs, bs => by
    rw [List.foldl_cons, fold_len m rs, beh_len]
theorem stAt_len (m : Mx) (many : Nat) (rs : List Row) (i : Nat) : (stAt m many rs i).length = many := by
  unfold stAt
  rw [fold_len, List.length_replicate]
theorem ff_none (many fixed : Nat) : ∀ (rs : List Row) (i : Nat) (up : Bool), faultFrom many fixed i up rs = none → ∀ r ∈ rs, r.b < many
  | [], _, _, _, r, hr => nomatch hr
  | a :: rs, i, up, h, r, hr => by
    unfold faultFrom at h
    by_cases c : canStand many fixed up a = true
    · rw [if_pos c] at h
      rcases List.mem_cons.mp hr with rfl | hr
      · unfold canStand at c
        rw [Bool.and_eq_true] at c
        exact of_decide_eq_true c.1
      · exact ff_none many fixed rs _ _ h r hr
    · rw [if_neg c] at h
      cases h
theorem fault_none {many fixed : Nat} {rs : List Row} (h : fault many fixed rs = none) : ∀ r ∈ rs, r.b < many := ff_none many fixed rs 0 false h
theorem ixN_nat {n j : Nat} (h : j < n) : ixN n (j : Int) = some j := by
  unfold ixN
  rw [if_pos (by omega), if_pos (by omega)]
  simp
/-- lists of ints at new places, held by a list at a new place -/
structure Reps (H H' : Hp) (l : Addr) (ps : List Addr) (f : Nat → List Int) : Prop where
  same : Same H H'
  fl : H l = none
  lst : H' l = some (.lst (ps.map V.ref))
  fp : ∀ p ∈ ps, H p = none
  nd : (l :: ps).Nodup
  rows : ∀ i p, ps[i]? = some p → H' p = some (.lst ((f i).map V.int))
theorem Reps.snoc {H H' : Hp} {l q : Addr} {ps : List Addr} {f : Nat → List Int} (R : Reps H H' l ps f) (hq : H' q = none) :
    Reps H (upd (upd H' q (.lst ((f ps.length).map V.int))) l (.lst ((ps ++ [q]).map V.ref))) l (ps ++ [q]) f := by
  have ql : l ≠ q := ne_of_none R.lst hq
  have qp : ∀ p ∈ ps, p ≠ q := fun p hp => by
    obtain ⟨i, hi, e⟩ := List.mem_iff_getElem.mp hp
    exact ne_of_none (R.rows i p (by rw [List.getElem?_eq_getElem hi, e])) hq
  have nl : l ∉ ps := (List.nodup_cons.mp R.nd).1
  refine ⟨fun b o e => ?_, R.fl, upd_same, fun p hp => ?_, ?_, fun i p h => ?_⟩
  · rw [upd_ne (ne_of_none e R.fl), upd_ne (ne_of_none (R.same _ _ e) hq)]
    exact R.same _ _ e
  · rcases List.mem_append.mp hp with h | h
    · exact R.fp p h
    · rw [List.mem_singleton.mp h]
      exact R.same.free hq
  · rw [List.nodup_cons]
    refine ⟨fun h => ?_, ?_⟩
    · rcases List.mem_append.mp h with h | h
      · exact nl h
      · exact ql (List.mem_singleton.mp h)
    · rw [List.nodup_append]
      refine ⟨(List.nodup_cons.mp R.nd).2, by simp, fun a ha b hb => ?_⟩
      rw [List.mem_singleton.mp hb]
      exact qp a ha
  · rcases Nat.lt_or_ge i ps.length with hi | hi
    · rw [List.getElem?_append_left hi] at h
      have hp : p ∈ ps := List.mem_of_getElem? h
      have pl : p ≠ l := fun z => nl (by rw [← z]; exact hp)
      rw [upd_ne pl, upd_ne (qp p hp)]
      exact R.rows i p h
    · rw [List.getElem?_append_right hi] at h
      obtain ⟨h1, h2⟩ := List.getElem?_eq_some_iff.mp h
      have e0 : i - ps.length = 0 := by simpa using h1
      have e1 : i = ps.length := by omega
      subst e1
      have e2 : p = q := by simpa using h2.symm
      subst e2
      rw [upd_ne (Ne.symm ql), upd_same]
section
variable {P : Program} {w : World} {K : PySem.W.Frag} {mg : Str → Option Value} {base : Heap}
/-! ### the class's methods as they are called -/
theorem met_mixed (T : Txt K mg) (D : ∃ fd, FunD K "mixed" "Mixing.mixed" (defArgs (inClass (top 43) 2)) (defBody (inClass (top 43) 2)) (defScope (inClass (top 43) 2)) [] [] (He.ma K (CM K) "mixed") fd)
    (G_row_number : Cal P w K mg base CX0 2 "row_number" spRowNum []) : Met P w K mg base 3 (CM K) "mixed" (spMixed K) [] := by
  obtain ⟨fd, D⟩ := D
  exact ⟨_, fd, _, [], T.cl, T.mM, ok_mixed T D G_row_number, D.bindsN fun _ _ _ _ _ _ us hl => match us, hl with | [_, _, _], _ => rfl, .nil⟩
theorem met_begin (T : Txt K mg) (D : ∃ fd, FunD K "begin" "Mixing.begin" (defArgs (inClass (top 43) 1)) (defBody (inClass (top 43) 1)) (defScope (inClass (top 43) 1)) [] [("reset", .bl false)] (He.ma K (CM K) "begin") fd) :
    Met P w K mg base 1 (CM K) "begin" spBegin [.bl false] := by
  obtain ⟨fd, D⟩ := D
  obtain ⟨ds, r, b⟩ := D.binds0 (ps := ps_Mixing_begin) 1 (by decide) rfl (fun Dd doc pm an cdv ct us ks l1 l2 => match us, ks, l1, l2 with
    | [_], [_], _, _ => ⟨_, _, _, _, _, _, rfl, rfl, rfl⟩)
  exact ⟨_, fd, _, ds, T.cl, T.mB, ok_begin T D, b, r⟩
theorem kmet_begin (T : Txt K mg) (D : ∃ fd, FunD K "begin" "Mixing.begin" (defArgs (inClass (top 43) 1)) (defBody (inClass (top 43) 1)) (defScope (inClass (top 43) 1)) [] [("reset", .bl false)] (He.ma K (CM K) "begin") fd) :
    KMet P w K mg base 1 (CM K) "begin" spBegin 1 ["reset"] (fun vs zs => vs ++ zs) := by
  obtain ⟨fd, D⟩ := D
  obtain ⟨mv, b⟩ := D.kbinds0 (ps := ps_Mixing_begin) 1 ["reset"] [] (fun vs _ zs => vs ++ zs) (by decide) (fun q h => nomatch h) (fun r1 _ r2 => r1.append r2) (fun Dd doc pm an cdv ct us mv ws l1 l2 l3 => match us, mv, ws, l1, l2, l3 with
    | [_], [], [_], _, _, _ => rfl)
  exact ⟨_, fd, _, _, T.cl, T.mB, ok_begin T D, b⟩
theorem kmak_mixing (T : Txt K mg) (D : ∃ fd, FunD K "__init__" "Mixing.__init__" (defArgs (inClass (top 43) 0)) (defBody (inClass (top 43) 0)) (defScope (inClass (top 43) 0)) [.non] [("factor", .int 7919)] (He.ma K (CM K) "__init__") fd)
    (G_is_between : Cal P w K mg base CX0 1 "is_between" spBetween []) (G_divisor_of : Cal P w K mg base CX0 1 "divisor_of" spDiv []) : KMak P w K mg base 2 "Mixing" (CM K) (spInit K) 1 ["factor"] (fun vs zs => vs ++ zs) := by
  obtain ⟨fd, D⟩ := D
  obtain ⟨its, b⟩ := D.kbindsD (ps := ps_Mixing___init__) 2 ["factor"] (fun vs _ zs => vs ++ zs) (by decide) (fun r1 _ r2 => r1.append r2) (fun Tt kV doc pm an cdv ct us its ws l1 l2 l3 => match us, its, ws, l1, l2, l3 with
    | [_, _], [_], [_], _, _, _ => ⟨_, rfl, rfl⟩)
  exact ⟨_, fd, _, _, T.mkM, T.g_Mixing, ok_init T D G_is_between G_divisor_of, b⟩
/-! ### row_behind -/
def spBehind (K : PySem.W.Frag) : Sp := fun vs H Q _ => ∃ (mp bp rp : Addr) (m : Mx) (bs : List Int) (r : Row), vs = [.ref mp, .ref bp, .ref rp] ∧ MxAt K H mp m ∧ MxOk m ∧ H bp = some (.lst (bs.map V.int)) ∧ RowAt H rp r ∧ RowOk r ∧ r.b < bs.length ∧
  ∀ l, H l = none → Q (.ref l) (upd H l (.lst ((beh m bs r).map V.int)))
theorem ok_behind (T : Txt K mg) (F : Fn K mg "row_behind" st_row_behind []) (KG_begin : KMet P w K mg base 1 (CM K) "begin" spBegin 1 ["reset"] (fun vs zs => vs ++ zs))
    (G_mixed : Met P w K mg base 3 (CM K) "mixed" (spMixed K) []) : Cal P w K mg base CX0 4 "row_behind" (spBehind K) [] := by
  refine F.cal sc_row_behind ?_ (fun _ _ _ _ _ _ us hl => match us, hl with | [_, _, _], _ => rfl) ?_
  · rintro vs H Q E ⟨mp, bp, rp, m, bs, r, rfl, _⟩
    rfl
  rintro f cdv A outer s H vs Q E hr ⟨mp, bp, rp, m, bs, r, rfl, hm, okm, hb, hr1, okr, hlt, q⟩
  refine ⟨_, (pss_cons (ps_set (i := 3) sc_row_behind.nd rfl (Or.inl rfl) (pe_ix ix_tup (pv 2) pe_int (fun _ _ => rfl)))
    (pss_cons (ps_set (i := 4) sc_row_behind.nd rfl (Or.inl rfl) (pe_callTy call_list_of (by rfl) T.z_list b_list (pa_cons (pv 1) (pa_nil))))
    (pss_cons (ps_asg (pe_ifExp (pt_cmpR op_eq (pe_ix ix_tup (pv 2) pe_int (fun _ _ => rfl)) (gs T.s_RESET) (nomark _)) (mk0 KG_begin hr (by decide) (pv 0) (pk_cons pe_bl pk_nil)) (ml G_mixed hr (by decide) (pv 0) (pa_cons (pe_ix ix_list (pv 1) (pv 3) (fun _ _ => rfl)) (pa_cons (pv 2) (pa_nil))))) (pg_sub (pv 4) (pv 3) set_list))
    (pss_one (ps_ret (pv 4)))))), ?_⟩
  refine ⟨_, rfl, rp, tv r, _, _, rfl, rfl, SqT.of hr1, atI_nat (j := 0) rfl, ?_⟩
  refine ⟨_, rfl, bp, bs.map V.int, rfl, .inl (SqL.of hb), fun l hl => ?_⟩
  have s1 : Same H (upd H l (.lst (bs.map V.int))) := same_new hl
  have hr2 := s1 _ _ hr1
  have hb2 := s1 _ _ hb
  obtain ⟨dx, hm2⟩ := hm.same s1
  have q1 := q l hl
  unfold beh at q1
  rw [List.map_set] at q1
  refine ⟨_, rfl, rp, tv r, _, _, rfl, rfl, SqT.of hr2, atI_nat (j := 1) rfl, rfl, _, rfl, ?_⟩
  show (if decide (V.str (wordS r.w) = V.str "reset") = true then _ else _)
  rw [reset_is _ okr.hw]
  have hix : ixN (bs.map V.int).length (r.b : Int) = some r.b := ixN_nat (by rw [List.length_map]; exact hlt)
  by_cases c : r.w = 4
  · rw [if_pos (decide_eq_true c)]
    rw [if_pos c] at q1
    refine ⟨_, rfl, mp, dx, _, rfl, hm2, mf_begin m, rfl, rfl, mp, true, rfl, ?_⟩
    refine ⟨_, rfl, _, rfl, l, _, _, r.b, rfl, rfl, upd_same, hix, _, rfl, ?_⟩
    rw [upd_upd]
    exact q1
  · rw [if_neg (by simpa using c)]
    rw [if_neg c] at q1
    have hg : (bs.map V.int)[r.b]? = some (.int (bs.getD r.b 0)) := by
      rw [List.getElem?_map, List.getD_eq_getElem?_getD, List.getElem?_eq_getElem hlt]
      rfl
    refine ⟨_, rfl, mp, dx, _, rfl, hm2, mf_mixed m, _, rfl, _, rfl, bp, _, _, _, rfl, rfl, SqL.of hb2, atI_nat (j := r.b) hg, _, rfl, ?_⟩
    refine ⟨mp, rp, m, _, r, rfl, ⟨dx, hm2⟩, okm, hr2, okr, ?_⟩
    refine ⟨_, rfl, _, rfl, l, _, _, r.b, rfl, rfl, upd_same, hix, _, rfl, ?_⟩
    rw [upd_upd]
    exact q1
/-! ### replays -/
def spReplays (K : PySem.W.Frag) : Sp := fun vs H Q E => ∃ (mp a : Addr) (m : Mx) (ps : List Addr) (rs : List Row) (many fixed : Nat), vs = [.ref mp, .ref a, .int (many : Int), .int (fixed : Int)] ∧ MxAt K H mp m ∧ MxOk m ∧
  (SqL K H a (ps.map V.ref) ∨ SqT K H a (ps.map V.ref)) ∧ Rows H ps rs ∧ RowsOk rs ∧ rs.length ≤ 100 ∧ many ≤ 8 ∧
  (fault many fixed rs = none → ∀ H' l qs, Reps H H' l qs (stAt m many rs) → qs.length = rs.length + 1 → Q (.ref l) H') ∧
  ∀ i d H', Same H H' → fault many fixed rs = some i → H' d = some (.xd [("what", .int (i : Int))]) → E (.ref (CB K)) (some d) H'
theorem ok_replays (T : Txt K mg) (F : Fn K mg "replays" st_replays [("many", V.int 4), ("fixed", V.int 2)]) (G_look_log : Cal P w K mg base (L2.CX P w) 6 "look_log" (spLook K) []) (G_begin : Met P w K mg base 1 (CM K) "begin" spBegin [.bl false])
    (G_row_behind : Cal P w K mg base CX0 4 "row_behind" (spBehind K) []) : BodyX P w K mg base N_replays "replays" st_replays 6 (spReplays K) := by
  rintro f cdv A outer s H vs Q E hr ⟨mp, a, m, ps, rs, many, fixed, rfl, hm, okm, hs, R, ok, hlen, hmany, qn, qx⟩
  rcases id hs with hs' | hs'
  · refine ⟨_, (pss_cons (ps_expr (clS G_look_log hr (by decide) (fun σ => passAt (takes_of rfl rfl rfl rfl) σ) (pa_cons (pv 1) (pa_cons (pv 2) (pa_cons (pv 3) (pa_nil))))))
    (pss_cons (ps_set (i := 4) sc_replays.nd rfl (Or.inl rfl) (pe_lst (pa_cons (pe_lc (own := [("board", 6)]) (g := gName 6) (tt := tYes) rfl sc_replays.nd (pi_range1 rfl T.z_range (pa_cons (pv 2) (pa_nil))) (blkOk_by (N := N_replays) (sc := defScope st_replays) (by decide +kernel)) (fun _ _ _ _ _ => (pg_name (i := 6) sc_replays.nd rfl (Or.inl rfl))) (fun _ _ _ _ _ => pts_nil) (fun _ _ _ _ _ => (ml0 G_begin hr (by decide) (pv 0)))) (pa_nil))))
    (pss_cons (ps_for (passes_of rfl) rfl (pi_list (pv 1)) (pg_name (i := 5) sc_replays.nd rfl (Or.inl rfl)) (pss_one (ps_expr (pe_bm PySem.F.plainAttrs_list PySem.F.slot_list_append PySem.F.type_list_append mt_append (pv 4) (pa_cons (cl G_row_behind hr (by decide) (pa_cons (pv 0) (pa_cons (pe_ix ix_list (pv 4) (pe_un un_neg pe_int) (fun _ _ => rfl)) (pa_cons (pv 5) (pa_nil))))) (pa_nil))))))
    (pss_one (ps_ret (pv 4)))))), ?_⟩
    refine ⟨_, rfl, _, rfl, _, rfl, a, ps, rs, many, fixed, rfl, hs, R, ok, fun H1 s1 e => ?_, fun i d H1 s1 e hd => qx i d H1 s1 e hd⟩
    obtain ⟨dx, hm1⟩ := hm.same s1
    refine ⟨_, rfl, (many : Int), rfl, by omega, by omega, fun D hD => lc_any many (fun i H' => Same H1 H' ∧ H' D = some (.lst (List.replicate i (.int 1)))) ⟨same_new hD, upd_same⟩ (fun i H' hi _ => hi) (fun H' _ => Nat.le_refl _) ?_ ?_⟩
    · rintro i x H3 H4 hi ⟨s3, h3⟩ ⟨rfl, rfl⟩
      refine ⟨rfl, _, rfl, mp, dx, _, rfl, s3 _ _ hm1, mf_begin m, mp, false, rfl, _, h3, ?_, same_mut s3 hD, ?_⟩
      · rw [List.length_replicate]
        exact small1000 (by omega)
      · rw [upd_same, List.replicate_succ']
        rfl
    rintro H2 ⟨s2', hD2⟩
    have s2 : Same H H2 := s1.trans s2'
    refine ⟨by show 1 ≤ sizeLine; decide, fun l hl => ?_⟩
    have hs := hs'
    refine ⟨_, rfl, a, rfl, ⟨_, (s2.trans (same_new hl)).seq hs⟩, for_list (K := K) (xs := ps.map V.ref) (fun i σ H3 => ∃ qs, Reps H H3 l qs (stAt m many rs) ∧ qs.length = i + 1 ∧ ∃ v2 v3 : Option V, σ = [some (.ref mp), some (.ref a), some (.int (many : Int)), some (.int (fixed : Int)), some (.ref l), v2, v3]) ?_ ?_ ?_ ?_⟩
    · have nl : l ≠ D := Ne.symm (ne_of_none hD2 hl)
      refine ⟨[D], ⟨s2.trans (same_new hl), s2.free hl, by rw [upd_same]; rfl, fun p hp => by rw [List.mem_singleton.mp hp]; exact s1.free hD, by simp [nl], fun i p h => ?_⟩, rfl, none, none, rfl⟩
      obtain ⟨h1, h2⟩ := List.getElem?_eq_some_iff.mp h
      have e0 : i = 0 := by simpa using h1
      subst e0
      have e2 : p = D := by simpa using h2.symm
      subst e2
      rw [upd_ne (Ne.symm nl), hD2, stAt_zero, map_rep]
    · rintro i σ H3 _ ⟨qs, R3, _⟩
      first | exact R3.same.seq hs | exact same_seqT R3.same hs
    · rintro i x σ H3 hx ⟨qs, R3, hl3, v2, v3, rfl⟩
      obtain ⟨p, r, rfl, hpa, hr1, hp⟩ := (R.same R3.same).get hx
      have okr : RowOk r := ok r (List.mem_of_getElem? hr1)
      have hb : r.b < many := fault_none e r (List.mem_of_getElem? hr1)
      obtain ⟨qs0, qz, rfl⟩ : ∃ qs0 qz, qs = qs0 ++ [qz] := ⟨_, _, (List.dropLast_concat_getLast (l := qs) (fun z => by rw [z] at hl3; cases hl3)).symm⟩
      have l0 : qs0.length = i := by simpa using hl3
      have hz := R3.rows i qz (by rw [List.getElem?_append_right (by omega)]; simp [l0])
      refine ⟨_, rfl, .inl ⟨rfl, _, SqL.of R3.lst⟩, _, rfl, _, rfl, _, rfl, l, _, _, V.ref qz, rfl, rfl, SqL.of R3.lst, ?_, _, rfl, ?_⟩
      · rw [List.map_append]
        exact atI_last _ _
      refine ⟨mp, qz, p, m, _, r, rfl, hm.same R3.same, okm, hz, hp, okr, by rw [stAt_len]; exact hb, fun q hq => ?_⟩
      have ne : l ≠ q := ne_of_none R3.lst hq
      refine ⟨l, _, _, rfl, rfl, by rw [upd_ne ne]; exact R3.lst, ?_, ?_⟩
      · rw [List.length_map, hl3]
        have : i < rs.length := (List.getElem?_eq_some_iff.mp hr1).1
        exact small1000 (by omega)
      · have R4 := R3.snoc hq
        rw [hl3, stAt_succ hr1] at R4
        refine ⟨(qs0 ++ [qz]) ++ [q], ?_, by simp [l0], some (.ref p), v3, rfl⟩
        rw [List.map_append (l₁ := qs0 ++ [qz])] at R4
        exact R4
    · rintro σ H3 ⟨qs, R3, hl3, v2, v3, rfl⟩
      refine ⟨_, rfl, qn e H3 l qs R3 ?_⟩
      rw [hl3, List.length_map, R.len]
  · refine ⟨_, (pss_cons (ps_expr (clS G_look_log hr (by decide) (fun σ => passAt (takes_of rfl rfl rfl rfl) σ) (pa_cons (pv 1) (pa_cons (pv 2) (pa_cons (pv 3) (pa_nil))))))
    (pss_cons (ps_set (i := 4) sc_replays.nd rfl (Or.inl rfl) (pe_lst (pa_cons (pe_lc (own := [("board", 6)]) (g := gName 6) (tt := tYes) rfl sc_replays.nd (pi_range1 rfl T.z_range (pa_cons (pv 2) (pa_nil))) (blkOk_by (N := N_replays) (sc := defScope st_replays) (by decide +kernel)) (fun _ _ _ _ _ => (pg_name (i := 6) sc_replays.nd rfl (Or.inl rfl))) (fun _ _ _ _ _ => pts_nil) (fun _ _ _ _ _ => (ml0 G_begin hr (by decide) (pv 0)))) (pa_nil))))
    (pss_cons (ps_for (passes_of rfl) rfl (pi_tup (pv 1)) (pg_name (i := 5) sc_replays.nd rfl (Or.inl rfl)) (pss_one (ps_expr (pe_bm PySem.F.plainAttrs_list PySem.F.slot_list_append PySem.F.type_list_append mt_append (pv 4) (pa_cons (cl G_row_behind hr (by decide) (pa_cons (pv 0) (pa_cons (pe_ix ix_list (pv 4) (pe_un un_neg pe_int) (fun _ _ => rfl)) (pa_cons (pv 5) (pa_nil))))) (pa_nil))))))
    (pss_one (ps_ret (pv 4)))))), ?_⟩
    refine ⟨_, rfl, _, rfl, _, rfl, a, ps, rs, many, fixed, rfl, hs, R, ok, fun H1 s1 e => ?_, fun i d H1 s1 e hd => qx i d H1 s1 e hd⟩
    obtain ⟨dx, hm1⟩ := hm.same s1
    refine ⟨_, rfl, (many : Int), rfl, by omega, by omega, fun D hD => lc_any many (fun i H' => Same H1 H' ∧ H' D = some (.lst (List.replicate i (.int 1)))) ⟨same_new hD, upd_same⟩ (fun i H' hi _ => hi) (fun H' _ => Nat.le_refl _) ?_ ?_⟩
    · rintro i x H3 H4 hi ⟨s3, h3⟩ ⟨rfl, rfl⟩
      refine ⟨rfl, _, rfl, mp, dx, _, rfl, s3 _ _ hm1, mf_begin m, mp, false, rfl, _, h3, ?_, same_mut s3 hD, ?_⟩
      · rw [List.length_replicate]
        exact small1000 (by omega)
      · rw [upd_same, List.replicate_succ']
        rfl
    rintro H2 ⟨s2', hD2⟩
    have s2 : Same H H2 := s1.trans s2'
    refine ⟨by show 1 ≤ sizeLine; decide, fun l hl => ?_⟩
    have hs := hs'
    refine ⟨_, rfl, a, rfl, ⟨_, same_seqT (s2.trans (same_new hl)) hs⟩, for_tup (K := K) (xs := ps.map V.ref) (fun i σ H3 => ∃ qs, Reps H H3 l qs (stAt m many rs) ∧ qs.length = i + 1 ∧ ∃ v2 v3 : Option V, σ = [some (.ref mp), some (.ref a), some (.int (many : Int)), some (.int (fixed : Int)), some (.ref l), v2, v3]) ?_ ?_ ?_ ?_⟩
    · have nl : l ≠ D := Ne.symm (ne_of_none hD2 hl)
      refine ⟨[D], ⟨s2.trans (same_new hl), s2.free hl, by rw [upd_same]; rfl, fun p hp => by rw [List.mem_singleton.mp hp]; exact s1.free hD, by simp [nl], fun i p h => ?_⟩, rfl, none, none, rfl⟩
      obtain ⟨h1, h2⟩ := List.getElem?_eq_some_iff.mp h
      have e0 : i = 0 := by simpa using h1
      subst e0
      have e2 : p = D := by simpa using h2.symm
      subst e2
      rw [upd_ne (Ne.symm nl), hD2, stAt_zero, map_rep]
    · rintro i σ H3 _ ⟨qs, R3, _⟩
      first | exact R3.same.seq hs | exact same_seqT R3.same hs
    · rintro i x σ H3 hx ⟨qs, R3, hl3, v2, v3, rfl⟩
      obtain ⟨p, r, rfl, hpa, hr1, hp⟩ := (R.same R3.same).get hx
      have okr : RowOk r := ok r (List.mem_of_getElem? hr1)
      have hb : r.b < many := fault_none e r (List.mem_of_getElem? hr1)
      obtain ⟨qs0, qz, rfl⟩ : ∃ qs0 qz, qs = qs0 ++ [qz] := ⟨_, _, (List.dropLast_concat_getLast (l := qs) (fun z => by rw [z] at hl3; cases hl3)).symm⟩
      have l0 : qs0.length = i := by simpa using hl3
      have hz := R3.rows i qz (by rw [List.getElem?_append_right (by omega)]; simp [l0])
      refine ⟨_, rfl, .inl ⟨rfl, _, SqL.of R3.lst⟩, _, rfl, _, rfl, _, rfl, l, _, _, V.ref qz, rfl, rfl, SqL.of R3.lst, ?_, _, rfl, ?_⟩
      · rw [List.map_append]
        exact atI_last _ _
      refine ⟨mp, qz, p, m, _, r, rfl, hm.same R3.same, okm, hz, hp, okr, by rw [stAt_len]; exact hb, fun q hq => ?_⟩
      have ne : l ≠ q := ne_of_none R3.lst hq
      refine ⟨l, _, _, rfl, rfl, by rw [upd_ne ne]; exact R3.lst, ?_, ?_⟩
      · rw [List.length_map, hl3]
        have : i < rs.length := (List.getElem?_eq_some_iff.mp hr1).1
        exact small1000 (by omega)
      · have R4 := R3.snoc hq
        rw [hl3, stAt_succ hr1] at R4
        refine ⟨(qs0 ++ [qz]) ++ [q], ?_, by simp [l0], some (.ref p), v3, rfl⟩
        rw [List.map_append (l₁ := qs0 ++ [qz])] at R4
        exact R4
    · rintro σ H3 ⟨qs, R3, hl3, v2, v3, rfl⟩
      refine ⟨_, rfl, qn e H3 l qs R3 ?_⟩
      rw [hl3, List.length_map, R.len]
end
end K18

set_option maxHeartbeats 4000000
namespace K18
open PySem PySem.Spec PyProof.Rows L2
section
variable {P : Program} {w : World} {K : PySem.W.Frag} {mg : Str → Option Value} {base : Heap}
theorem kg_replays (T : Txt K mg) (F : Fn K mg "replays" st_replays [("many", V.int 4), ("fixed", V.int 2)]) (G_look_log : Cal P w K mg base (L2.CX P w) 6 "look_log" (spLook K) []) (G_begin : Met P w K mg base 1 (CM K) "begin" spBegin [.bl false])
    (G_row_behind : Cal P w K mg base CX0 4 "row_behind" (spBehind K) []) (n : Nat) (ks : List Str) (g : {α : Type} → List α → List α → List α)
    (hrel : ∀ {vs zs : List V} {us ws : List Value}, Vals vs us → Vals zs ws → Vals (g vs zs) (g us ws))
    (h : ∀ (kV doc pm : Value) (an : Option Addr) (cdv ct : Value) (us ws : List Value), us.length = n → ws.length = ks.length →
      bindArgs (PySem.W.fnOf "replays" "replays" (defArgs st_replays) (defBody st_replays) (defScope st_replays) .none kV doc pm an cdv ct) ⟨us, ks.zip ws⟩ = pure (ps_replays.zip (g us ws))) :
    KCal P w K mg base (L2.CX P w) 7 "replays" (spReplays K) n ks (fun vs zs => g vs zs) := by
  have B := ok_replays (P := P) (w := w) (base := base) T F G_look_log G_begin G_row_behind
  obtain ⟨f, fd, D, hm⟩ := F.ex
  refine ⟨f, fd, ps_replays, fun us ws => g us ws, B.fn D sc_replays ?_, hm, D.kp, Fn.kbn n ks g D hrel h⟩
  rintro vs H Q E ⟨mp, a, m, ps, rs, many, fixed, rfl, _⟩
  rfl
def gFm {α : Type} (us ws : List α) : List α := us ++ (ws.drop 1 ++ ws.take 1)
def gFl {α : Type} (_ ws : List α) : List α := ws.drop 3 ++ ((ws.drop 1).take 2 ++ ws.take 1)
theorem kg_replays_mf (T : Txt K mg) (F : Fn K mg "replays" st_replays [("many", V.int 4), ("fixed", V.int 2)]) (G_look_log : Cal P w K mg base (L2.CX P w) 6 "look_log" (spLook K) []) (G_begin : Met P w K mg base 1 (CM K) "begin" spBegin [.bl false])
    (G_row_behind : Cal P w K mg base CX0 4 "row_behind" (spBehind K) []) : KCal P w K mg base (L2.CX P w) 7 "replays" (spReplays K) 2 ["many", "fixed"] (fun vs zs => vs ++ zs) :=
  kg_replays T F G_look_log G_begin G_row_behind 2 ["many", "fixed"] (fun us ws => us ++ ws) (fun r1 r2 => r1.append r2) fun kV doc pm an cdv ct us ws l1 l2 => match us, ws, l1, l2 with
    | [_, _], [_, _], _, _ => rfl
theorem kg_replays_fm (T : Txt K mg) (F : Fn K mg "replays" st_replays [("many", V.int 4), ("fixed", V.int 2)]) (G_look_log : Cal P w K mg base (L2.CX P w) 6 "look_log" (spLook K) []) (G_begin : Met P w K mg base 1 (CM K) "begin" spBegin [.bl false])
    (G_row_behind : Cal P w K mg base CX0 4 "row_behind" (spBehind K) []) : KCal P w K mg base (L2.CX P w) 7 "replays" (spReplays K) 2 ["fixed", "many"] (fun vs zs => gFm vs zs) :=
  kg_replays T F G_look_log G_begin G_row_behind 2 ["fixed", "many"] gFm (fun r1 r2 => r1.append ((r2.drop 1).append (r2.take 1))) fun kV doc pm an cdv ct us ws l1 l2 => match us, ws, l1, l2 with
    | [_, _], [_, _], _, _ => rfl
theorem kg_replays_flmm (T : Txt K mg) (F : Fn K mg "replays" st_replays [("many", V.int 4), ("fixed", V.int 2)]) (G_look_log : Cal P w K mg base (L2.CX P w) 6 "look_log" (spLook K) []) (G_begin : Met P w K mg base 1 (CM K) "begin" spBegin [.bl false])
    (G_row_behind : Cal P w K mg base CX0 4 "row_behind" (spBehind K) []) : KCal P w K mg base (L2.CX P w) 7 "replays" (spReplays K) 0 ["fixed", "log", "many", "mixing"] (fun vs zs => gFl vs zs) :=
  kg_replays T F G_look_log G_begin G_row_behind 0 ["fixed", "log", "many", "mixing"] gFl (fun r1 r2 => (r2.drop 3).append (((r2.drop 1).take 2).append (r2.take 1))) fun kV doc pm an cdv ct us ws l1 l2 => match us, ws, l1, l2 with
    | [], [_, _, _, _], _, _ => rfl
/-! ### replay -/
def spReplay (K : PySem.W.Frag) : Sp := fun vs H Q E => ∃ (mp a : Addr) (m : Mx) (ps : List Addr) (rs : List Row) (many fixed : Nat), vs = [.ref mp, .ref a, .int (many : Int), .int (fixed : Int)] ∧ MxAt K H mp m ∧ MxOk m ∧
  (SqL K H a (ps.map V.ref) ∨ SqT K H a (ps.map V.ref)) ∧ Rows H ps rs ∧ RowsOk rs ∧ rs.length ≤ 100 ∧ many ≤ 8 ∧
  (fault many fixed rs = none → ∀ H' p, Same H H' → H p = none → H' p = some (.lst ((stAt m many rs rs.length).map V.int)) → Q (.ref p) H') ∧
  ∀ i d H', Same H H' → fault many fixed rs = some i → H' d = some (.xd [("what", .int (i : Int))]) → E (.ref (CB K)) (some d) H'
theorem kg_replay_mf (T : Txt K mg) (F : Fn K mg "replay" st_replay [("many", V.int 4), ("fixed", V.int 2)]) (KG_replays_mf : KCal P w K mg base (L2.CX P w) 7 "replays" (spReplays K) 2 ["many", "fixed"] (fun vs zs => vs ++ zs)) :
    KCal P w K mg base (L2.CX P w) 8 "replay" (spReplay K) 2 ["many", "fixed"] (fun vs zs => vs ++ zs) := by
  have B : BodyX P w K mg base N_replay "replay" st_replay 7 (spReplay K) := by
    rintro f cdv A outer s H vs Q E hr ⟨mp, a, m, ps, rs, many, fixed, rfl, hm, okm, hs, R, ok, hlen, hmany, qn, qx⟩
    refine ⟨_, (pss_one (ps_ret (pe_ix ix_list (kc KG_replays_mf hr (by decide) (fun σ => passAt (takes_of rfl rfl rfl rfl) σ) (pa_cons (pv 0) (pa_cons (pv 1) (pa_nil))) (pk_cons (pv 2) (pk_cons (pv 3) pk_nil))) (pe_un un_neg pe_int) (fun _ _ => rfl)))), ?_⟩
    refine ⟨_, rfl, _, rfl, _, rfl, _, rfl, rfl, rfl, mp, a, m, ps, rs, many, fixed, rfl, hm, okm, hs, R, ok, hlen, hmany, fun e H1 l qs R1 hl => ?_, fun i d H1 s1 e hd => qx i d H1 s1 e hd⟩
    obtain ⟨qs0, qz, rfl⟩ : ∃ qs0 qz, qs = qs0 ++ [qz] := ⟨_, _, (List.dropLast_concat_getLast (l := qs) (fun z => by rw [z] at hl; cases hl)).symm⟩
    have l0 : qs0.length = rs.length := by simpa using hl
    have hz := R1.rows rs.length qz (by rw [List.getElem?_append_right (by omega)]; simp [l0])
    refine ⟨_, rfl, l, _, _, V.ref qz, rfl, rfl, SqL.of R1.lst, ?_, qn e H1 qz R1.same (R1.fp qz (by simp)) hz⟩
    rw [List.map_append]
    exact atI_last _ _
  obtain ⟨f, fd, D, hm⟩ := F.ex
  refine ⟨f, fd, ps_replay, fun us ws => us ++ ws, B.fn D sc_replay ?_, hm, D.kp, Fn.kbn 2 ["many", "fixed"] (fun us ws => us ++ ws) D (fun r1 r2 => r1.append r2) ?_⟩
  · rintro vs H Q E ⟨mp, a, m, ps, rs, many, fixed, rfl, _⟩
    rfl
  · intro kV doc pm an cdv ct us ws l1 l2
    match us, ws, l1, l2 with
    | [_, _], [_, _], _, _ => rfl
end
end K18

set_option maxHeartbeats 4000000
namespace K18
open PySem PySem.Spec PyProof.Rows L2
theorem ix_listK {X : Cx} {K : PySem.W.Frag} (h : X.K = K) : IxR X (rIxL K) := h ▸ ix_list
theorem ix_tupK {X : Cx} {K : PySem.W.Frag} (h : X.K = K) : IxR X (rIxT K) := h ▸ ix_tup
theorem call_len_seqK {X : Cx} {K : PySem.W.Frag} (h : X.K = K) : CallR X (.builtin "len") (fun xs H Q => ∃ p ys, xs = [.ref p] ∧ (SqL K H p ys ∨ SqT K H p ys) ∧ Q (.int ys.length) H) := h ▸ call_len_seq
/-! ### the law's box: at least n draws are left -/
def Bx (b : Addr) (n : Nat) (H : Hp) : Prop := ∃ h s c : Nat, H b = some (.lst [.int (h : Int), .int (s : Int), .int (c : Int)]) ∧ s < 1099511627776 ∧ c + n ≤ 100000
theorem Bx.le {b : Addr} {n m : Nat} {H : Hp} (h : Bx b n H) (l : m ≤ n) : Bx b m H := by
  obtain ⟨x, s, c, e, h1, h2⟩ := h
  exact ⟨x, s, c, e, h1, by omega⟩
theorem Bx.same {b : Addr} {n : Nat} {H H' : Hp} (h : Bx b n H) (s : Same H H') : Bx b n H' := by
  obtain ⟨x, y, c, e, h1, h2⟩ := h
  exact ⟨x, y, c, s _ _ e, h1, h2⟩
/-- all but the box is kept, n draws are left -/
structure Dr (b : Addr) (n : Nat) (H H' : Hp) : Prop where
  kp : ∀ a o, a ≠ b → H a = some o → H' a = some o
  bx : Bx b n H'
theorem Dr.here {b : Addr} {n : Nat} {H : Hp} (h : Bx b n H) : Dr b n H H := ⟨fun _ _ _ e => e, h⟩
theorem Dr.trans {b : Addr} {n m : Nat} {H H1 H2 : Hp} (d : Dr b m H H1) (e : Dr b n H1 H2) : Dr b n H H2 := ⟨fun a o h x => e.kp a o h (d.kp a o h x), e.bx⟩
theorem Dr.same {b : Addr} {n : Nat} {H H1 H2 : Hp} (d : Dr b n H H1) (s : Same H1 H2) : Dr b n H H2 := ⟨fun a o h x => s _ _ (d.kp a o h x), d.bx.same s⟩
theorem Dr.pre {b : Addr} {n : Nat} {H H1 H2 : Hp} (s : Same H H1) (d : Dr b n H1 H2) : Dr b n H H2 := ⟨fun a o h x => d.kp a o h (s _ _ x), d.bx⟩
theorem Dr.le {b : Addr} {n m : Nat} {H H1 : Hp} (d : Dr b n H H1) (l : m ≤ n) : Dr b m H H1 := ⟨d.kp, d.bx.le l⟩
theorem Bx.ne {b p : Addr} {n : Nat} {H : Hp} (h : Bx b n H) (e : H p = none) : p ≠ b := by
  obtain ⟨x, s, c, eb, h1, h2⟩ := h
  exact Ne.symm (ne_of_none eb e)
theorem Dr.free {b p : Addr} {n : Nat} {H H' : Hp} (d : Dr b n H H') (e : H' p = none) : H p = none := by
  cases q : H p with
  | none => rfl
  | some o =>
    rw [d.kp p o (d.bx.ne e) q] at e
    cases e
/-- what is laid at a new place after draws -/
theorem Dr.new {b p : Addr} {n : Nat} {H H' : Hp} {o : HO} (d : Dr b n H H') (e : H' p = none) : Dr b n H (upd H' p o) := d.same (same_new e)
theorem Dr.upd {b p : Addr} {n : Nat} {H H' : Hp} {o : HO} (d : Dr b n H H') (e : H p = none) (h : p ≠ b) : Dr b n H (upd H' p o) :=
  ⟨fun a u ha x => by
    rw [upd_ne (ne_of_none x e)]
    exact d.kp a u ha x, by
    obtain ⟨x, s, c, eb, h1, h2⟩ := d.bx
    exact ⟨x, s, c, by rw [upd_ne (Ne.symm h)]; exact eb, h1, h2⟩⟩
section
variable {P : Program} {w : World} {K : PySem.W.Frag} {mg : Str → Option Value} {base : Heap}
/-! ### _law_box -/
theorem bit_small (c : Bool) : -(2 ^ 64) < (if c = true then (1 : Int) else 0) ∧ (if c = true then (1 : Int) else 0) < 2 ^ 64 := by
  cases c <;> decide
theorem bx_of {H : Hp} {p : Addr} {i : Int} {k : Nat} {c : Bool} (hk : k < 64) (e : H p = some (.lst [.int ((if i < 0 then -i else i) * (if c = true then 1 else 0)), .int (i % 2147483629 + 7919 * (k : Int) + 11), .int 0])) : Bx p 100000 H := by
  obtain ⟨h, hh⟩ : ∃ h : Nat, (if i < 0 then -i else i) * (if c = true then (1 : Int) else 0) = (h : Int) := Int.eq_ofNat_of_zero_le (by
    have h1 : 0 ≤ (if i < 0 then -i else i) := by split <;> omega
    cases c
    · rw [if_neg Bool.false_ne_true, Int.mul_zero]
      exact Int.le_refl _
    · rw [if_pos rfl, Int.mul_one]
      exact h1)
  have l1 := Int.emod_nonneg i (by decide : (2147483629 : Int) ≠ 0)
  have l2 := Int.emod_lt_of_pos i (by decide : (0 : Int) < 2147483629)
  obtain ⟨s, hs⟩ : ∃ s : Nat, i % 2147483629 + 7919 * (k : Int) + 11 = (s : Int) := Int.eq_ofNat_of_zero_le (by omega)
  rw [hh, hs] at e
  exact ⟨h, s, 0, e, by omega, by omega⟩
def spBox (K : PySem.W.Frag) : Sp := fun vs H Q _ => ∃ (a : Addr) (ns : List Int) (k : Nat), vs = [.ref a, .int (k : Int)] ∧ SqL K H a (ns.map V.int) ∧ k < 64 ∧ ∀ b H', H b = none → Same H H' → Bx b 100000 H' → Q (.ref b) H'
theorem ok_box (T : Txt K mg) (F : Fn K mg "_law_box" st__law_box []) : Cal P w K mg base CX0 1 "_law_box" (spBox K) [] := by
  refine F.cal sc__law_box ?_ (fun _ _ _ _ _ _ us hl => match us, hl with | [_, _], _ => rfl) ?_
  · rintro vs H Q E ⟨a, ns, k, rfl, _⟩
    rfl
  rintro f cdv A outer s H vs Q E hr ⟨a, ns, k, rfl, ha, hk, q⟩
  refine ⟨_, (pss_cons (ps_set (i := 2) sc__law_box.nd rfl (Or.inl rfl) pe_int)
    (pss_cons (ps_if (pt_cmpR op_lt (pv 1) (pe_callB call_len_seq (by rfl) T.z_len b_len (pa_cons (pv 0) (pa_nil))) (nomark _)) (pss_one (ps_set (i := 2) sc__law_box.nd rfl (Or.inl rfl) (pe_ix ix_list (pv 0) (pv 1) (fun _ _ => rfl)))) pss_nil)
    (pss_one (ps_ret (pe_lst (pa_cons (pe_op op_mul (pe_callB call_abs (by rfl) T.z_abs b_abs (pa_cons (pv 2) (pa_nil))) (pe_callTy call_int1 (by rfl) T.z_int b_int (pa_cons (pe_cmpR op_ge (pe_callB call_abs (by rfl) T.z_abs b_abs (pa_cons (pv 2) (pa_nil))) (pe_op op_pow pe_int pe_int) (nomark _)) (pa_nil)))) (pa_cons (pe_op op_add (pe_op op_add (pe_op op_mod (pv 2) pe_int) (pe_op op_mul pe_int (pv 1))) pe_int) (pa_cons pe_int (pa_nil))))))))), ?_⟩
  refine ⟨_, rfl, _, rfl, a, _, rfl, .inl (ha), _, _, rfl, rfl, _, rfl, ?_⟩
  by_cases c : k < ns.length
  · rw [decide_eq_true (by rw [List.length_map]; omega)]
    have hg : (ns.map V.int)[k]? = some (.int ns[k]) := by
      rw [List.getElem?_map, List.getElem?_eq_getElem c]
      rfl
    refine iteT ⟨_, rfl, _, rfl, a, _, _, _, rfl, rfl, ha, atI_nat (j := k) hg, ?_⟩
    refine ⟨_, rfl, _, rfl, _, rfl, _, rfl, _, _, rfl, rfl, ⟨by decide, by decide, by decide⟩, _, _, rfl, rfl, .inr ⟨_, rfl, _, _, rfl, rfl, .inr (bit_small _), ?_⟩⟩
    refine ⟨_, rfl, _, _, rfl, rfl, (by decide : (0 : Int) < 2147483629), _, rfl, _, _, rfl, rfl, .inl ⟨by decide, by decide⟩, _, _, rfl, rfl, _, _, rfl, rfl, ?_⟩
    refine ⟨(by show 3 ≤ sizeLine; decide), fun p hp => q p _ hp (same_new hp) (bx_of hk upd_same)⟩
  · rw [decide_eq_false (by rw [List.length_map]; omega)]
    refine iteF ?_
    refine ⟨_, rfl, _, rfl, _, rfl, _, rfl, _, _, rfl, rfl, ⟨by decide, by decide, by decide⟩, _, _, rfl, rfl, .inr ⟨_, rfl, _, _, rfl, rfl, .inr (bit_small _), ?_⟩⟩
    refine ⟨_, rfl, _, _, rfl, rfl, (by decide : (0 : Int) < 2147483629), _, rfl, _, _, rfl, rfl, .inl ⟨by decide, by decide⟩, _, _, rfl, rfl, _, _, rfl, rfl, ?_⟩
    refine ⟨(by show 3 ≤ sizeLine; decide), fun p hp => q p _ hp (same_new hp) (bx_of hk upd_same)⟩
/-! ### _law_take -/
def spTake : Sp := fun vs H Q _ => ∃ (b : Addr) (m n : Nat), vs = [.ref b, .int (m : Int)] ∧ 0 < m ∧ m ≤ 1000000 ∧ Bx b (n + 1) H ∧ ∀ (v : Nat) H', v < m → Dr b n H H' → Q (.int (v : Int)) H'
theorem nat_mod {x : Int} {m : Nat} (hm : 0 < m) : ∃ v : Nat, x % (m : Int) = (v : Int) ∧ v < m := by
  obtain ⟨v, hv⟩ : ∃ v : Nat, x % (m : Int) = (v : Int) := Int.eq_ofNat_of_zero_le (Int.emod_nonneg x (by omega))
  have l := Int.emod_lt_of_pos x (by omega : (0 : Int) < (m : Int))
  exact ⟨v, hv, by omega⟩
theorem dr_set {b : Addr} {n : Nat} {H : Hp} {h s c : Nat} (h1 : s < 1099511627776) (h2 : c + n ≤ 100000) : Dr b n H (upd H b (.lst [.int (h : Int), .int (s : Int), .int (c : Int)])) :=
  ⟨fun a o ha e => by rw [upd_ne ha]; exact e, h, s, c, upd_same, h1, h2⟩
theorem ok_take (T : Txt K mg) (F : Fn K mg "_law_take" st__law_take []) : Cal P w K mg base CX0 1 "_law_take" spTake [] := by
  refine F.cal sc__law_take ?_ (fun _ _ _ _ _ _ us hl => match us, hl with | [_, _], _ => rfl) ?_
  · rintro vs H Q E ⟨b, m, n, rfl, _⟩
    rfl
  rintro f cdv A outer s H vs Q E hr ⟨b, m, n, rfl, hm, hm2, ⟨h, s, c, hb, hs, hc⟩, q⟩
  refine ⟨_, (pss_cons (ps_if (pt_cmpR op_gt (pe_ix ix_list (pv 0) pe_int (fun _ _ => rfl)) pe_int (nomark _)) (pss_cons (ps_set (i := 2) sc__law_take.nd rfl (Or.inl rfl) (pe_op op_mod (pe_ix ix_list (pv 0) pe_int (fun _ _ => rfl)) (pv 1)))
    (pss_cons (ps_asg (pe_op op_fdiv (pe_ix ix_list (pv 0) pe_int (fun _ _ => rfl)) (pv 1)) (pg_sub (pv 0) pe_int set_list))
    (pss_one (ps_ret (pv 2))))) pss_nil)
    (pss_cons (ps_asg (pe_op op_add (pe_ix ix_list (pv 0) pe_int (fun _ _ => rfl)) pe_int) (pg_sub (pv 0) pe_int set_list))
    (pss_cons (ps_set (i := 3) sc__law_take.nd rfl (Or.inl rfl) (pe_op op_mod (pe_op op_pow (pe_op op_add (pe_ix ix_list (pv 0) pe_int (fun _ _ => rfl)) (pe_op op_mul pe_int (pe_ix ix_list (pv 0) pe_int (fun _ _ => rfl)))) pe_int) pe_int))
    (pss_one (ps_ret (pe_op op_mod (pe_op op_fdiv (pe_op op_mod (pe_op op_add (pe_op op_mul (pv 3) (pe_op op_add (pe_op op_mod (pv 3) pe_int) pe_int)) (pe_op op_mul (pe_ix ix_list (pv 0) pe_int (fun _ _ => rfl)) pe_int)) pe_int) pe_int) (pv 1))))))), ?_⟩
  have ix0 : ixN [V.int (h : Int), .int (s : Int), .int (c : Int)].length (0 : Int) = some 0 := rfl
  have ix2 : ixN [V.int (h : Int), .int (s : Int), .int (c : Int)].length (2 : Int) = some 2 := rfl
  refine ⟨_, rfl, b, _, _, _, rfl, rfl, SqL.of hb, atI_nat (j := 0) rfl, _, _, rfl, rfl, _, rfl, ?_⟩
  by_cases e : 0 < h
  · rw [decide_eq_true (by omega)]
    refine iteT ⟨_, rfl, b, _, _, _, rfl, rfl, SqL.of hb, atI_nat (j := 0) rfl, _, rfl, _, _, rfl, rfl, (by omega : (0 : Int) < (m : Int)), ?_⟩
    refine ⟨_, rfl, b, _, _, _, rfl, rfl, SqL.of hb, atI_nat (j := 0) rfl, _, rfl, _, _, rfl, rfl, ⟨by omega, by omega⟩, ?_⟩
    refine ⟨_, rfl, b, _, _, 0, rfl, rfl, hb, ix0, _, rfl, ?_⟩
    obtain ⟨v, hv, lv⟩ := nat_mod (x := (h : Int)) hm
    have q1 := q v _ lv (dr_set (H := H) (b := b) (n := n) (h := h / m) hs (by omega : c + n ≤ 100000))
    rw [Int.natCast_ediv, ← hv] at q1
    exact q1
  · rw [decide_eq_false (by omega)]
    refine iteF ?_
    have hb2 : upd H b (.lst [.int (h : Int), .int (s : Int), .int ((c : Int) + 1)]) b = some (.lst [.int (h : Int), .int (s : Int), .int ((c : Int) + 1)]) := upd_same
    refine ⟨_, rfl, b, _, _, _, rfl, rfl, SqL.of hb, atI_nat (j := 2) rfl, _, _, rfl, rfl, ?_⟩
    refine ⟨_, rfl, b, _, _, 2, rfl, rfl, hb, ix2, ?_⟩
    refine ⟨_, rfl, b, _, _, _, rfl, rfl, SqL.of hb2, atI_nat (j := 1) rfl, _, rfl, b, _, _, _, rfl, rfl, SqL.of hb2, atI_nat (j := 2) rfl, _, _, rfl, rfl, .inl ⟨by decide, by decide⟩, _, _, rfl, rfl, ?_⟩
    refine ⟨_, _, rfl, rfl, ⟨by decide, by decide, by omega⟩, _, _, rfl, rfl, (by decide : (0 : Int) < 2147483647), ?_⟩
    have lo : ∀ o : Int, -(2 ^ 64) < o % 40009 + 7 ∧ o % 40009 + 7 < 2 ^ 64 := fun o => by
      have l1 := Int.emod_nonneg o (by decide : (40009 : Int) ≠ 0)
      have l2 := Int.emod_lt_of_pos o (by decide : (0 : Int) < 40009)
      omega
    have q2 : ∀ y : Int, Q (.int (y % (m : Int))) (upd H b (.lst [.int (h : Int), .int (s : Int), .int ((c : Int) + 1)])) := fun y => by
      obtain ⟨v, hv, lv⟩ := nat_mod (x := y) hm
      rw [hv]
      exact q v _ lv (dr_set (c := c + 1) hs (by omega))
    refine ⟨_, rfl, _, rfl, _, _, rfl, rfl, (by decide : (0 : Int) < 40009), _, _, rfl, rfl, _, _, rfl, rfl, .inr (lo _), ?_⟩
    refine ⟨_, rfl, b, _, _, _, rfl, rfl, SqL.of hb2, atI_nat (j := 2) rfl, _, _, rfl, rfl, .inr ⟨by decide, by decide⟩, _, _, rfl, rfl, _, _, rfl, rfl, (by decide : (0 : Int) < 2147483629), _, _, rfl, rfl, ⟨by decide, by decide⟩, ?_⟩
    refine ⟨_, rfl, _, _, rfl, rfl, (by omega : (0 : Int) < (m : Int)), ?_⟩
    exact q2 _
/-! ### _law_pick -/
def spPick : Sp := fun vs H Q _ => ∃ (b a : Addr) (xs : List V) (n : Nat), vs = [.ref b, .ref a] ∧ a ≠ b ∧ H a = some (.lst xs) ∧ 0 < xs.length ∧ xs.length ≤ 1000 ∧ Bx b (n + 1) H ∧ ∀ x H', x ∈ xs → Dr b n H H' → Q x H'
theorem ok_pick (T : Txt K mg) (F : Fn K mg "_law_pick" st__law_pick []) (G_l_take : Cal P w K mg base CX0 1 "_law_take" spTake []) : Cal P w K mg base CX0 2 "_law_pick" spPick [] := by
  refine F.cal sc__law_pick ?_ (fun _ _ _ _ _ _ us hl => match us, hl with | [_, _], _ => rfl) ?_
  · rintro vs H Q E ⟨b, a, xs, n, rfl, _⟩
    rfl
  rintro f cdv A outer s H vs Q E hr ⟨b, a, xs, n, rfl, hab, ha, h0, h1, hb, q⟩
  refine ⟨_, (pss_one (ps_ret (pe_ix ix_list (pv 1) (cl G_l_take hr (by decide) (pa_cons (pv 0) (pa_cons (pe_callB call_len_seq (by rfl) T.z_len b_len (pa_cons (pv 1) (pa_nil))) (pa_nil)))) (fun _ _ => rfl)))), ?_⟩
  refine ⟨_, rfl, _, rfl, _, rfl, a, xs, rfl, .inl (SqL.of ha), b, xs.length, n, rfl, h0, by omega, hb, fun v H1 hv d => ?_⟩
  obtain ⟨x, hx⟩ : ∃ x, xs[v]? = some x := ⟨_, List.getElem?_eq_getElem hv⟩
  exact ⟨a, _, _, x, rfl, rfl, SqL.of (d.kp a _ hab ha), atI_nat (j := v) hx, q x H1 (List.mem_of_getElem? hx) d⟩
end
end K18

set_option maxHeartbeats 4000000
namespace K18
open PySem PySem.Spec PyProof.Rows L2
theorem joinL_ones : ∀ cs : List Nat, TL.joinL [] (cs.map fun c => [c]) = cs
  | [] => rfl
  | [c] => rfl
  | c :: d :: r => by
    have ih := joinL_ones (d :: r)
    show [c] ++ ([] ++ TL.joinL [] ((d :: r).map fun c => [c])) = c :: d :: r
    rw [ih]
    rfl
theorem join_letters (cs : List Nat) : Txt.join "" (cs.map fun c => S [c]) = S cs := by
  have e := SX.join_S [] (cs.map fun c => [c])
  rw [joinL_ones, List.map_map] at e
  exact e
theorem cut_to (cs : List Nat) (k : Nat) : cutS (S cs) none (some (k : Int)) = S (cs.take k) := by
  unfold cutS
  rw [HT.sIx_nat, S_len]
  show (⟨((cs.drop 0).take (min k cs.length - 0)).toArray⟩ : Str) = _
  rw [List.drop_zero, Nat.sub_zero]
  congr 2
  rw [← List.take_take, List.take_length]
theorem cut_from (cs : List Nat) (k : Nat) (h : k ≤ cs.length) : cutS (S cs) (some (k : Int)) none = S (cs.drop k) := by
  unfold cutS
  rw [HT.sIx_nat, S_len]
  show (⟨((cs.drop (min k cs.length)).take (cs.length - min k cs.length)).toArray⟩ : Str) = _
  rw [Nat.min_eq_left h]
  congr 2
  rw [List.take_of_length_le]
  rw [List.length_drop]
  exact Nat.le_refl _
theorem letter_atI {j : Nat} (h : j < 26) : letters.cps.toList[j]? = some (j + 97) := by
  have : ∀ j < 26, letters.cps.toList[j]? = some (j + 97) := by decide +kernel
  exact this j h
theorem letters_len : letters.length = 26 := by decide +kernel
/-- names in a list -/
def NmsOk (ns : List (List Nat)) : Prop := ∀ l ∈ ns, NameOk l
def nmsV (ns : List (List Nat)) : List V := ns.map fun l => .str (S l)
theorem getI {ns : List Int} {v : Nat} (h : v < ns.length) : ∃ i, i ∈ ns ∧ (ns.map V.int)[v]? = some (.int i) :=
  ⟨ns[v], List.getElem_mem h, by rw [List.getElem?_map, List.getElem?_eq_getElem h]; rfl⟩
section
variable {P : Program} {w : World} {K : PySem.W.Frag} {mg : Str → Option Value} {base : Heap}
/-! ### _law_names -/
def spNames : Sp := fun vs H Q _ => ∃ (b : Addr) (m n : Nat), vs = [.ref b, .int (m : Int)] ∧ m ≤ 100 ∧ Bx b (n + 8) H ∧ ∀ a ns H', H' a = some (.lst (nmsV ns)) → NmsOk ns → ns.length = m → Dr b n H H' → H a = none → Q (.ref a) H'
theorem name_ok {cs : List Nat} {k c : Nat} (h : ∀ x ∈ cs, 97 ≤ x ∧ x ≤ 122) (hl : cs.length ≤ 3) (hk : k ≤ cs.length) (hc : 97 ≤ c ∧ c ≤ 122) : NameOk (cs.take k ++ [c] ++ cs.drop k) := by
  have hlen : (cs.take k ++ [c] ++ cs.drop k).length = cs.length + 1 := by
    rw [List.length_append, List.length_append, List.length_take, List.length_drop, List.length_singleton]
    omega
  refine ⟨by rw [hlen]; omega, by rw [hlen]; omega, fun x hx => ?_⟩
  rcases List.mem_append.mp hx with hx | hx
  · rcases List.mem_append.mp hx with hx | hx
    · exact h x (List.mem_of_mem_take hx)
    · rw [List.mem_singleton.mp hx]
      exact hc
  · exact h x (List.mem_of_mem_drop hx)
theorem ok_names (T : Txt K mg) (F : Fn K mg "_law_names" st__law_names []) (G_l_take : Cal P w K mg base CX0 1 "_law_take" spTake []) : Cal P w K mg base CX0 2 "_law_names" spNames [] := by
  refine F.cal sc__law_names ?_ (fun _ _ _ _ _ _ us hl => match us, hl with | [_, _], _ => rfl) ?_
  · rintro vs H Q E ⟨b, m, n, rfl, _⟩
    rfl
  rintro f cdv A outer s H vs Q E hr ⟨b, m, n, rfl, hm, hb, q⟩
  refine ⟨_, (pss_cons (ps_asg (pe_tup (pa_cons pe_str (pa_cons (cl G_l_take hr (by decide) (pa_cons (pv 0) (pa_cons pe_int (pa_nil)))) (pa_cons (pe_ix ix_list (pe_lst (pa_cons pe_int (pa_cons pe_int (pa_cons pe_int (pa_cons pe_int (pa_nil)))))) (cl G_l_take hr (by decide) (pa_cons (pv 0) (pa_cons pe_int (pa_nil)))) (fun _ _ => rfl)) (pa_nil))))) (pg_tup rfl (pgs_cons (pg_name (i := 2) sc__law_names.nd rfl (Or.inr rfl)) (pgs_cons (pg_name (i := 3) sc__law_names.nd rfl (Or.inr rfl)) (pgs_cons (pg_name (i := 4) sc__law_names.nd rfl (Or.inr rfl)) (pgs_nil))))))
    (pss_cons (ps_set (i := 5) sc__law_names.nd rfl (Or.inr rfl) (pe_join pe_str (pe_lc (own := [("_law_k", 7)]) (g := gName 7) (tt := tYes) rfl sc__law_names.nd (pi_range1 rfl T.z_range (pa_cons (cl G_l_take hr (by decide) (pa_cons (pv 0) (pa_cons pe_int (pa_nil)))) (pa_nil))) (blkOk_by (N := N__law_names) (sc := defScope st__law_names) (by decide +kernel)) (fun _ _ _ _ _ => (pg_name (i := 7) sc__law_names.nd rfl (Or.inl rfl))) (fun _ _ _ _ _ => pts_nil) (fun _ _ _ _ _ => (pe_ix ix_str (pv 2) (cl G_l_take hr (by decide) (pa_cons (pv 0) (pa_cons pe_int (pa_nil)))) (fun _ _ => rfl))))))
    (pss_cons (ps_set (i := 6) sc__law_names.nd rfl (Or.inr rfl) (cl G_l_take hr (by decide) (pa_cons (pv 0) (pa_cons (pe_op op_add (pe_callB call_len_str (by rfl) T.z_len b_len (pa_cons (pv 5) (pa_nil))) pe_int) (pa_nil)))))
    (pss_one (ps_ret (pe_lc (own := [("_law_k", 7)]) (g := gName 7) (tt := tYes) rfl sc__law_names.nd (pi_range1 rfl T.z_range (pa_cons (pv 1) (pa_nil))) (blkOk_by (N := N__law_names) (sc := defScope st__law_names) (by decide +kernel)) (fun _ _ _ _ _ => (pg_name (i := 7) sc__law_names.nd rfl (Or.inl rfl))) (fun _ _ _ _ _ => pts_nil) (fun _ _ _ _ _ => (pe_op op_add_str (pe_op op_add_str (pe_slice sl_str (pv 5) po_none (po_some (pv 6))) (pe_ix ix_str (pv 2) (pe_op op_mod (pe_op op_add (pv 3) (pe_op op_mul (pv 4) (pv 7))) pe_int) (fun _ _ => rfl))) (pe_slice sl_str (pv 5) (po_some (pv 6)) po_none))))))))), ?_⟩
  -- the three at once
  refine ⟨_, rfl, b, 26, n + 7, rfl, by decide, by decide, hb, fun v1 H1 h1 d1 => ?_⟩
  refine ⟨(by show 4 ≤ sizeLine; decide), fun p hp => ?_⟩
  have d1' := d1.new (o := .lst [.int 1, .int 3, .int 7, .int 25]) hp
  have pb := d1.bx.ne hp
  refine ⟨_, rfl, b, 4, n + 6, rfl, by decide, by decide, d1'.bx, fun v2 H2 h2 d2 => ?_⟩
  obtain ⟨by_, mby, hby⟩ := getI (ns := [1, 3, 7, 25]) h2
  refine ⟨p, _, _, _, rfl, rfl, SqL.of (d2.kp p _ pb upd_same), atI_nat (j := v2) hby, ?_⟩
  have d2' := d1'.trans d2
  refine ⟨(by show 3 ≤ sizeLine; decide), fun t ht => ?_⟩
  have d3 := d2'.new (o := .tup [.str letters, .int (v1 : Int), .int by_]) ht
  refine ⟨t, _, rfl, SqT.of upd_same, rfl, _, _, rfl, _, _, rfl, _, _, rfl, rfl, ?_⟩
  -- the tail
  refine ⟨⟨_, rfl⟩, _, rfl, b, 4, n + 5, rfl, by decide, by decide, d3.bx, fun v3 H3 h3 d4 => ⟨(v3 : Int), rfl, by omega, by omega, fun D hD => ?_⟩⟩
  have d5 := d3.trans d4
  have Db := d5.bx.ne hD
  refine lc_any v3 (fun i H' => i ≤ v3 → ∃ cs : List Nat, cs.length = i ∧ (∀ x ∈ cs, 97 ≤ x ∧ x ≤ 122) ∧ H' D = some (.lst (cs.map fun c => V.str (S [c]))) ∧ Dr b (n + 5 - i) H H') (fun _ => ⟨[], rfl, fun _ h => (nomatch h), upd_same, d5.new hD⟩) (fun i H' hi _ => hi) (fun H' _ => Nat.le_refl _) ?_ ?_
  · rintro i x H4 H5 hi hpv ⟨rfl, rfl⟩
    obtain ⟨cs, hl, hcs, hDl, d6⟩ := hpv (by omega)
    have d6' : Dr b ((n + 5 - (i + 1)) + 1) H H5 := d6.le (by omega)
    refine ⟨rfl, _, rfl, _, rfl, b, 26, n + 5 - (i + 1), rfl, by decide, by decide, d6'.bx, fun u H6 hu d7 => ?_⟩
    refine ⟨letters, _, _, rfl, rfl, by rw [letters_len, sizeLine_eq]; decide, atI_nat (j := u) (letter_atI hu), _, d7.kp D _ Db hDl, ?_, fun _ => ⟨cs ++ [u + 97], by simp [hl], fun x hx => ?_, ?_, ?_⟩⟩
    · rw [List.length_map, hl]
      exact small1000 (by omega)
    · rcases List.mem_append.mp hx with hx | hx
      · exact hcs x hx
      · rw [List.mem_singleton.mp hx]
        omega
    · rw [upd_same, List.map_append]
      rfl
    · exact (d6'.trans d7).upd (d5.free hD) Db
  · rintro H4 hpv
    obtain ⟨cs, hl, hcs, hDl, d6⟩ := hpv (Nat.le_refl _)
    have hl3 : cs.length ≤ 3 := by omega
    refine ⟨_, D, cs.map fun c => S [c], rfl, rfl, .inl (SqL.of ?_), ?_, ?_⟩
    · rw [hDl, List.map_map]
      rfl
    · have e0 : ((cs.map fun c => S [c]).map (·.length)).sum = cs.length := by
        clear hl hcs hDl d6 hl3
        induction cs with
        | nil => rfl
        | cons c r ih =>
          rw [List.map_cons, List.map_cons, List.sum_cons, ih, S_len]
          simp
          omega
      rw [e0, List.length_map]
      show cs.length + cs.length * 0 ≤ 16777216
      omega
    rw [show ("" : Str) = ("" : Str) from rfl, join_letters]
    -- at
    have csz : (S cs).length ≤ sizeLine := by
      rw [S_len, sizeLine_eq]
      omega
    refine ⟨_, rfl, _, rfl, _, rfl, csz, _, _, rfl, rfl, b, cs.length + 1, n + 1, ?_, by omega, by omega, d6.bx.le (by omega), fun v4 H5 h5 d7 => ?_⟩
    · rw [S_len]
      rfl
    have d8 := (d6.trans d7)
    refine ⟨_, rfl, (m : Int), rfl, by omega, by omega, fun D2 hD2 => ?_⟩
    refine lc_any m (fun i H' => i ≤ m → ∃ ns : List (List Nat), ns.length = i ∧ NmsOk ns ∧ H' D2 = some (.lst (nmsV ns)) ∧ Dr b n H H') (fun _ => ⟨[], rfl, fun _ h => (nomatch h), upd_same, (d8.new hD2).le (by omega)⟩) (fun i H' hi _ => hi) (fun H' _ => Nat.le_refl _) ?_ ?_
    · rintro i x H6 H7 hi hpv ⟨rfl, rfl⟩
      obtain ⟨ns, hnl, hns, hD2l, d9⟩ := hpv (by omega)
      have hmod : ∃ j : Nat, j < 26 ∧ ((v1 : Int) + by_ * (0 + (i : Int))) % 26 = (j : Int) := by
        obtain ⟨j, e, l⟩ := nat_mod (x := (v1 : Int) + by_ * (0 + (i : Int))) (m := 26) (by decide)
        exact ⟨j, l, e⟩
      obtain ⟨j, hj, ej⟩ := hmod
      refine ⟨rfl, _, rfl, _, rfl, _, rfl, _, rfl, csz, _, rfl, _, rfl, _, rfl, _, rfl, _, _, rfl, rfl, .inr ⟨by omega, by omega⟩, _, _, rfl, rfl, _, _, rfl, rfl, (by decide : (0 : Int) < 26), ?_⟩
      refine ⟨letters, _, j + 97, rfl, rfl, by rw [letters_len, sizeLine_eq]; decide, ?_, ?_⟩
      · show atI _ (((v1 : Int) + by_ * (0 + (i : Int))) % 26) = _
        rw [ej]
        exact atI_nat (j := j) (letter_atI hj)
      rw [cut_to]
      have l1 : (S (cs.take v4)).length = (cs.take v4).length := S_len _
      have l2 : (cs.take v4).length ≤ 3 := by rw [List.length_take]; omega
      have l3 : (S (cs.take v4) ++ ⟨#[j + 97]⟩).length ≤ 4 := by
        rw [show (⟨#[j + 97]⟩ : Str) = S [j + 97] from rfl, S_cat, S_len, List.length_append, List.length_singleton]
        omega
      refine ⟨_, _, rfl, rfl, ?_, _, rfl, _, rfl, _, rfl, _, rfl, csz, ?_⟩
      · rw [l1, sizeLine_eq]
        show (cs.take v4).length + 1 ≤ 16777216
        omega
      rw [cut_from cs v4 (by omega)]
      refine ⟨_, _, rfl, rfl, ?_, ?_⟩
      · have l4 : (S (cs.drop v4)).length ≤ 3 := by
          rw [S_len, List.length_drop]
          omega
        rw [sizeLine_eq]
        omega
      refine ⟨_, hD2l, ?_, fun _ => ⟨ns ++ [cs.take v4 ++ [j + 97] ++ cs.drop v4], by simp [hnl], fun l hl2 => ?_, ?_, ?_⟩⟩
      · unfold nmsV
        rw [List.length_map, hnl]
        exact small1000 (by omega)
      · rcases List.mem_append.mp hl2 with hx | hx
        · exact hns l hx
        · rw [List.mem_singleton.mp hx]
          exact name_ok hcs hl3 (by omega) (by omega)
      · rw [upd_same]
        unfold nmsV
        rw [List.map_append]
        show _ = some (HO.lst (_ ++ [V.str (S (cs.take v4 ++ [j + 97] ++ cs.drop v4))]))
        rw [← S_cat, ← S_cat]
      · exact d9.upd (d8.free hD2) (d8.bx.ne hD2)
    · rintro H6 hpv
      obtain ⟨ns, hnl, hns, hD2l, d9⟩ := hpv (Nat.le_refl _)
      exact q D2 ns H6 hD2l hns hnl d9 (d8.free hD2)
end
end K18

set_option maxHeartbeats 4000000
namespace K18
open PySem PySem.Spec PyProof.Rows L2
theorem getN {ns : List Nat} {v : Nat} (h : v < ns.length) : ∃ i, i ∈ ns ∧ (ns.map fun n : Nat => V.int (n : Int))[v]? = some (.int (i : Int)) :=
  ⟨ns[v], List.getElem_mem h, by rw [List.getElem?_map, List.getElem?_eq_getElem h]; rfl⟩
section
variable {P : Program} {w : World} {K : PySem.W.Frag} {mg : Str → Option Value} {base : Heap}
/-! ### _law_name_number, _law_row_number -/
theorem ok_lnameNum (T : Txt K mg) (F : Fn K mg "_law_name_number" st__law_name_number []) : Cal P w K mg base CX0 1 "_law_name_number" spNameNum [] := by
  refine F.cal sc__law_name_number ?_ (fun _ _ _ _ _ _ us hl => match us, hl with | [_], _ => rfl) ?_
  · rintro vs H Q E ⟨l, rfl, _⟩
    rfl
  rintro f cdv A outer s H vs Q E hr ⟨l, rfl, ok, q⟩
  refine ⟨_, (pss_cons (ps_set (i := 1) sc__law_name_number.nd rfl (Or.inl rfl) pe_int)
    (pss_cons (ps_for PassesOwn.never rfl (pi_str (pv 0)) (pg_name (i := 2) sc__law_name_number.nd rfl (Or.inl rfl)) (pss_one (ps_set (i := 1) sc__law_name_number.nd rfl (Or.inl rfl) (pe_op op_add (pe_op op_add (pe_op op_mul (pv 1) pe_int) (pe_bm PySem.F.plainAttrs_str PySem.F.slot_str_index PySem.F.type_str_index mt_sindex pe_str (pa_cons (pv 2) (pa_nil)))) pe_int))))
    (pss_one (ps_ret (pv 1))))), ?_⟩
  refine ⟨_, rfl, _, rfl, for_any l.length (fun i σ H' => H' = H ∧ ∃ v : Option V, σ = [some (.str (S l)), some (.int (nameNum (l.take i))), v]) ⟨rfl, none, rfl⟩ ?_ ?_ ?_ ?_⟩
  · intro i σ H' hi _
    show i < (S l).cps.size
    simpa using hi
  · intro σ H' _
    show (S l).cps.size ≤ l.length
    simp
  · rintro i x σ H1 H' hi ⟨rfl, v, rfl⟩ ⟨rfl, c, hc, rfl⟩
    have hc' : l[i]? = some c := by simpa using hc
    obtain ⟨j, hj, rfl⟩ := letter_of (ok.ok c (List.mem_of_getElem? hc'))
    refine ⟨_, rfl, _, _, rfl, rfl, .inr ⟨by decide, by decide⟩, ?_⟩
    refine ⟨rfl, _, rfl, letters, _, j, [], rfl, rfl, letters_at j hj, ?_⟩
    refine ⟨_, _, rfl, rfl, _, _, rfl, rfl, rfl, some (.str ⟨#[j + 97]⟩), ?_⟩
    rw [take_snoc hc', nameNum_snoc]
    rfl
  · rintro σ H' ⟨rfl, v, rfl⟩
    refine ⟨_, rfl, ?_⟩
    rw [List.take_length]
    exact q
def spLRow : Sp := fun vs H Q _ => ∃ (p : Addr) (r : Row), vs = [.ref p] ∧ RowAt H p r ∧ RowOk r ∧ ∀ H', Same H H' → Q (.int (rowNum r)) H'
def wordV : List V := [.str "load", .str "set", .str "end", .str "late", .str "reset"]
theorem wordV_at : ∀ x < 5, wordV[x]? = some (.str (wordS x)) := by decide +kernel
theorem wordV_eq : ∀ x < 5, eqV (.str (wordS x)) (.str (wordS x)) = true := by decide +kernel
theorem wordV_ne : ∀ x < 5, ∀ m < x, ∀ z ∈ wordV[m]?, eqV z (.str (wordS x)) = false := by decide +kernel
theorem ok_lrowNum (T : Txt K mg) (F : Fn K mg "_law_row_number" st__law_row_number []) (G_l_name_number : Cal P w K mg base CX0 1 "_law_name_number" spNameNum []) : Cal P w K mg base CX0 2 "_law_row_number" spLRow [] := by
  refine F.cal sc__law_row_number ?_ (fun _ _ _ _ _ _ us hl => match us, hl with | [_], _ => rfl) ?_
  · rintro vs H Q E ⟨p, r, rfl, _⟩
    rfl
  rintro f cdv A outer s H vs Q E hr ⟨p, r, rfl, hp, ok, q⟩
  refine ⟨_, (pss_cons (ps_set (i := 1) sc__law_row_number.nd rfl (Or.inl rfl) (pe_bm PySem.F.plainAttrs_list PySem.F.slot_list_index PySem.F.type_list_index mt_index (pe_lst (pa_cons pe_str (pa_cons pe_str (pa_cons pe_str (pa_cons pe_str (pa_cons pe_str (pa_nil))))))) (pa_cons (pe_ix ix_tup (pv 0) pe_int (fun _ _ => rfl)) (pa_nil))))
    (pss_one (ps_ret (pe_op op_add (pe_op op_mul (pe_op op_add (pe_op op_mul (cl G_l_name_number hr (by decide) (pa_cons (pe_ix ix_tup (pv 0) pe_int (fun _ _ => rfl)) (pa_nil))) pe_int) (pv 1)) pe_int) (pe_ix ix_tup (pv 0) pe_int (fun _ _ => rfl)))))), ?_⟩
  refine ⟨(by show 5 ≤ sizeLine; decide), fun a ha => ?_⟩
  have s1 : Same H (upd H a (.lst wordV)) := same_new ha
  have hp1 := s1 _ _ hp
  refine ⟨.inl ⟨rfl, _, SqL.of upd_same⟩, _, rfl, p, tv r, _, _, rfl, rfl, SqT.of hp1, atI_nat (j := 1) rfl, ?_⟩
  refine ⟨a, wordV, .str (wordS r.w), r.w, .str (wordS r.w), rfl, rfl, SqL.of upd_same, rfl, rfl, wordV_at _ ok.hw, wordV_eq _ ok.hw, fun m z hm hz => wordV_ne _ ok.hw m hm z hz, ?_⟩
  refine ⟨_, rfl, p, tv r, _, _, rfl, rfl, SqT.of hp1, atI_nat (j := 2) rfl, r.n, rfl, ok.hn, _, _, rfl, rfl, .inr ⟨by decide, by decide⟩, _, rfl, _, _, rfl, rfl, _, _, rfl, rfl, .inr ⟨by decide, by decide⟩, ?_⟩
  exact ⟨_, rfl, p, tv r, _, _, rfl, rfl, SqT.of hp1, atI_nat (j := 3) rfl, _, _, rfl, rfl, q _ s1⟩
/-! ### _law_shares -/
def spShares : Sp := fun vs H Q _ => ∃ a b : Nat, vs = [.int (a : Int), .int (b : Int)] ∧ ∀ r : Bool, (r = false → Nat.gcd a b ≤ 1) → Q (.bl r) H
theorem ok_shares (T : Txt K mg) (F : Fn K mg "_law_shares" st__law_shares []) : Cal P w K mg base CX0 1 "_law_shares" spShares [] := by
  refine F.cal sc__law_shares ?_ (fun _ _ _ _ _ _ us hl => match us, hl with | [_, _], _ => rfl) ?_
  · rintro vs H Q E ⟨a, b, rfl, _⟩
    rfl
  rintro f cdv A outer s H vs Q E hr ⟨a, b, rfl, q⟩
  refine ⟨_, (pss_cons (ps_for PassesOwn.never rfl (pi_range1 rfl T.z_range (pa_cons pe_int (pa_nil))) (pg_name (i := 2) sc__law_shares.nd rfl (Or.inl rfl)) (pss_cons (ps_if (pt_cmpR op_eq (pv 1) pe_int (nomark _)) (pss_one (ps_ret (pe_cmpR op_gt (pv 0) pe_int (nomark _)))) pss_nil)
    (pss_one (ps_par (i := 0) (j := 1) rfl sc__law_shares.nd rfl rfl (by decide) rfl rfl (pa_cons (pv 1) (pa_cons (pe_op op_mod (pv 0) (pv 1)) (pa_nil))) (by rfl)))))
    (pss_one (ps_ret pe_bl))), ?_⟩
  refine ⟨64, rfl, by decide, by decide, for_any 64 (fun i σ H' => H' = H ∧ ∃ (c d : Nat) (v : Option V), σ = [some (.int (c : Int)), some (.int (d : Int)), v] ∧ Nat.gcd c d = Nat.gcd a b) ⟨rfl, a, b, none, rfl, rfl⟩ (fun i σ H' hi _ => hi) (fun σ H' _ => Nat.le_refl _) ?_ ?_⟩
  · rintro i x σ H1 H2 hi ⟨rfl, c, d, v, rfl, hg⟩ ⟨rfl, rfl⟩
    refine ⟨_, rfl, rfl, _, rfl, ?_⟩
    show (if decide (V.int (d : Int) = V.int 0) = true then _ else _)
    by_cases hd : d = 0
    · subst hd
      rw [Nat.gcd_zero_right] at hg
      refine iteT ⟨_, rfl, _, _, rfl, rfl, q _ fun e => ?_⟩
      have e1 := of_decide_eq_false e
      omega
    · rw [decide_eq_false (fun z => hd (by injection z with z; omega))]
      refine iteF ⟨_, rfl, _, rfl, _, rfl, _, _, rfl, rfl, (by show (0 : Int) < (d : Int); omega), _, _, rfl, rfl, d, c % d, some (.int (0 + (i : Int))), ?_, ?_⟩
      · show [some (V.int (d : Int)), some (V.int ((c : Int) % (d : Int))), _] = _
        rw [show ((c : Int) % (d : Int)) = ((c % d : Nat) : Int) from (Int.natCast_emod c d).symm]
      · rw [← hg, Nat.gcd_comm c d, Nat.gcd_rec d c, Nat.gcd_comm]
  · rintro σ H1 ⟨rfl, c, d, v, rfl, hg⟩
    exact q true fun z => nomatch z
/-! ### _law_how -/
def hwV (m : Mx) : List V := [wV m.w, .int (m.f : Int)]
def spHow : Sp := fun vs H Q _ => ∃ (b : Addr) (n : Nat), vs = [.ref b] ∧ Bx b (n + 6) H ∧ ∀ p m H', H' p = some (.tup (hwV m)) → MxOk m → Dr b n H H' → H p = none → Q (.ref p) H'
theorem ok_how (T : Txt K mg) (F : Fn K mg "_law_how" st__law_how []) (G_l_take : Cal P w K mg base CX0 1 "_law_take" spTake []) (G_l_shares : Cal P w K mg base CX0 1 "_law_shares" spShares []) : Cal P w K mg base CX0 2 "_law_how" spHow [] := by
  refine F.cal sc__law_how ?_ (fun _ _ _ _ _ _ us hl => match us, hl with | [_], _ => rfl) ?_
  · rintro vs H Q E ⟨b, n, rfl, _⟩
    rfl
  rintro f cdv A outer s H vs Q E hr ⟨b, n, rfl, hb, q⟩
  refine ⟨_, (pss_cons (ps_par3 (i := 1) (j := 2) (l := 3) rfl sc__law_how.nd rfl rfl rfl (by decide) (by decide) (by decide) rfl rfl rfl (pa_cons (cl G_l_take hr (by decide) (pa_cons (pv 0) (pa_cons pe_int (pa_nil)))) (pa_cons pe_int (pa_cons pe_int (pa_nil)))) (by rfl))
    (pss_cons (ps_if (pt_cmpR op_eq (pv 1) pe_int (nomark _)) (pss_one (ps_ret (pe_tup (pa_cons pe_non (pa_cons (pe_ix ix_list (pe_lst (pa_cons pe_int (pa_cons pe_int (pa_cons pe_int (pa_cons pe_int (pa_nil)))))) (cl G_l_take hr (by decide) (pa_cons (pv 0) (pa_cons pe_int (pa_nil)))) (fun _ _ => rfl)) (pa_nil)))))) pss_nil)
    (pss_cons (ps_set (i := 2) sc__law_how.nd rfl (Or.inl rfl) (pe_op op_add pe_int (cl G_l_take hr (by decide) (pa_cons (pv 0) (pa_cons (pe_ix ix_list (pe_lst (pa_cons pe_int (pa_cons pe_int (pa_cons pe_int (pa_cons pe_int (pa_nil)))))) (cl G_l_take hr (by decide) (pa_cons (pv 0) (pa_cons pe_int (pa_nil)))) (fun _ _ => rfl)) (pa_nil))))))
    (pss_cons (ps_set (i := 3) sc__law_how.nd rfl (Or.inl rfl) (pe_op op_add pe_int (cl G_l_take hr (by decide) (pa_cons (pv 0) (pa_cons (pe_ix ix_list (pe_lst (pa_cons pe_int (pa_cons (pe_op op_pow pe_int pe_int) (pa_nil)))) (cl G_l_take hr (by decide) (pa_cons (pv 0) (pa_cons pe_int (pa_nil)))) (fun _ _ => rfl)) (pa_nil))))))
    (pss_one (ps_ret (pe_tup (pa_cons (pv 2) (pa_cons (pe_ifExp (pt_val (cl G_l_shares hr (by decide) (pa_cons (pv 2) (pa_cons (pv 3) (pa_nil))))) pe_int (pv 3)) (pa_nil)))))))))), ?_⟩
  refine ⟨_, rfl, b, 3, n + 5, rfl, by decide, by decide, hb, fun v1 H1 h1 d1 => ⟨_, _, _, rfl, ?_⟩⟩
  refine ⟨_, rfl, rfl, _, rfl, ?_⟩
  show (if decide (V.int (v1 : Int) = V.int 0) = true then _ else _)
  by_cases c : v1 = 0
  · rw [decide_eq_true (by rw [c]; rfl)]
    refine iteT ⟨(by show 4 ≤ sizeLine; decide), fun p hp => ?_⟩
    have d2 := d1.new (o := .lst ([7919, 7919, 7, 1].map fun n : Nat => V.int (n : Int))) hp
    have pb := d1.bx.ne hp
    refine ⟨_, rfl, b, 4, n + 4, rfl, by decide, by decide, d2.bx, fun v2 H2 h2 d3 => ?_⟩
    obtain ⟨i, mi, hi⟩ := getN (ns := [7919, 7919, 7, 1]) h2
    refine ⟨p, _, _, _, rfl, rfl, SqL.of (d3.kp p _ pb upd_same), atI_nat (j := v2) hi, ?_⟩
    have d4 := d2.trans d3
    refine ⟨(by show 2 ≤ sizeLine; decide), fun t ht => ?_⟩
    have : i = 7919 ∨ i = 7 ∨ i = 1 := by
      simp at mi
      omega
    exact q t ⟨none, i⟩ _ upd_same ⟨by show 1 ≤ i; omega, by show i ≤ 1000000; omega, fun _ z => nomatch z⟩ ((d4.new ht).le (by omega)) (d4.free ht)
  · rw [decide_eq_false (fun z => c (by injection z with z; omega))]
    refine iteF ?_
    refine ⟨_, rfl, (by show 4 ≤ sizeLine; decide), fun p hp => ?_⟩
    have d2 := d1.new (o := .lst ([8, 98, 498, 999998].map fun n : Nat => V.int (n : Int))) hp
    have pb := d1.bx.ne hp
    refine ⟨_, rfl, b, 4, n + 4, rfl, by decide, by decide, d2.bx, fun v2 H2 h2 d3 => ?_⟩
    obtain ⟨i, mi, hi⟩ := getN (ns := [8, 98, 498, 999998]) h2
    refine ⟨p, _, _, _, rfl, rfl, SqL.of (d3.kp p _ pb upd_same), atI_nat (j := v2) hi, ?_⟩
    have d4 := d2.trans d3
    have hi2 : i = 8 ∨ i = 98 ∨ i = 498 ∨ i = 999998 := by
      simp at mi
      omega
    refine ⟨b, i, n + 3, rfl, by omega, by omega, d4.bx, fun v3 H3 h3 d5 => ⟨_, _, rfl, rfl, ?_⟩⟩
    have d6 := d4.trans d5
    refine ⟨_, rfl, _, _, rfl, rfl, ⟨by decide, by decide, by decide⟩, (by show 2 ≤ sizeLine; decide), fun p2 hp2 => ?_⟩
    have d7 := d6.new (o := .lst ([12, 1000000].map fun n : Nat => V.int (n : Int))) hp2
    have pb2 := d6.bx.ne hp2
    refine ⟨_, rfl, b, 2, n + 2, rfl, by decide, by decide, d7.bx, fun v4 H4 h4 d8 => ?_⟩
    obtain ⟨j, mj, hj⟩ := getN (ns := [12, 1000000]) h4
    refine ⟨p2, _, _, _, rfl, rfl, SqL.of (d8.kp p2 _ pb2 upd_same), atI_nat (j := v4) hj, ?_⟩
    have d9 := d7.trans d8
    have hj2 : j = 12 ∨ j = 1000000 := by
      simp at mj
      omega
    refine ⟨b, j, n + 1, rfl, by omega, by omega, d9.bx, fun v5 H5 h5 d10 => ⟨_, _, rfl, rfl, ?_⟩⟩
    have d11 := d9.trans d10
    refine ⟨_, rfl, _, rfl, _, rfl, 3 + v3, 1 + v5, ?_, fun r hr2 => ⟨r, rfl, ?_⟩⟩
    · rw [Int.natCast_add, Int.natCast_add]
      rfl
    have e3 : V.int (3 + (v3 : Int)) = V.int ((3 + v3 : Nat) : Int) := by rw [Int.natCast_add]; rfl
    have e5 : V.int (1 + (v5 : Int)) = V.int ((1 + v5 : Nat) : Int) := by rw [Int.natCast_add]; rfl
    cases r with
    | true =>
      refine iteT ⟨(by show 2 ≤ sizeLine; decide), fun t ht => ?_⟩
      refine q t ⟨some (3 + v3), 1⟩ _ ?_ ⟨by show 1 ≤ 1; omega, by show 1 ≤ 1000000; omega, fun x z => ?_⟩ ((d11.new ht).le (by omega)) (d11.free ht)
      · rw [upd_same]
        show some (HO.tup [V.int (3 + (v3 : Int)), .int 1]) = some (HO.tup [V.int ((3 + v3 : Nat) : Int), _])
        rw [e3]
        rfl
      · obtain rfl := Option.some.inj z
        rw [Nat.gcd_one_right]
        omega
    | false =>
      refine iteF ⟨_, rfl, (by show 2 ≤ sizeLine; decide), fun t ht => ?_⟩
      refine q t ⟨some (3 + v3), 1 + v5⟩ _ ?_ ⟨by show 1 ≤ 1 + v5; omega, by show 1 + v5 ≤ 1000000; omega, fun x z => ?_⟩ ((d11.new ht).le (by omega)) (d11.free ht)
      · rw [upd_same]
        show some (HO.tup [V.int (3 + (v3 : Int)), .int (1 + (v5 : Int))]) = some (HO.tup [V.int ((3 + v3 : Nat) : Int), V.int ((1 + v5 : Nat) : Int)])
        rw [e3, e5]
      · obtain rfl := Option.some.inj z
        exact ⟨by omega, by omega, hr2 rfl⟩
/-! ### _law_mixed -/
def spLMixed : Sp := fun vs H Q _ => ∃ (hp rp : Addr) (m : Mx) (v : Int) (r : Row), vs = [.ref hp, .int v, .ref rp] ∧ H hp = some (.tup (hwV m)) ∧ MxOk m ∧ RowAt H rp r ∧ RowOk r ∧ ∀ H', Same H H' → Q (.int (mix m v r)) H'
theorem ok_lmixed (T : Txt K mg) (F : Fn K mg "_law_mixed" st__law_mixed []) (G_l_row_number : Cal P w K mg base CX0 2 "_law_row_number" spLRow []) : Cal P w K mg base CX0 3 "_law_mixed" spLMixed [] := by
  refine F.cal sc__law_mixed ?_ (fun _ _ _ _ _ _ us hl => match us, hl with | [_, _, _], _ => rfl) ?_
  · rintro vs H Q E ⟨hp, rp, m, v, r, rfl, _⟩
    rfl
  rintro f cdv A outer s H vs Q E hr ⟨hp, rp, m, v, r, rfl, hh, okm, hr1, okr, q⟩
  refine ⟨_, (pss_cons (ps_set (i := 3) sc__law_mixed.nd rfl (Or.inl rfl) (pe_op op_add (cl G_l_row_number hr (by decide) (pa_cons (pv 2) (pa_nil))) pe_int))
    (pss_one (ps_ret (pe_ifExp (pt_cmpR op_isN (pe_ix ix_tup (pv 0) pe_int (fun _ _ => rfl)) pe_non (nomark _)) (pe_op op_add (pe_op op_mul (pv 1) pe_int) (pv 3)) (pe_op op_mod (pe_op op_add (pe_op op_mul (pv 1) (pe_ix ix_tup (pv 0) pe_int (fun _ _ => rfl))) (pv 3)) (pe_ix ix_tup (pv 0) pe_int (fun _ _ => rfl))))))), ?_⟩
  refine ⟨_, rfl, rp, r, rfl, hr1, okr, fun H1 s1 => ⟨_, _, rfl, rfl, ?_⟩⟩
  have hh1 := s1 _ _ hh
  have q1 := q H1 s1
  refine ⟨_, rfl, hp, hwV m, _, _, rfl, rfl, SqT.of hh1, atI_nat (j := 0) rfl, rfl, _, rfl, ?_⟩
  unfold mix at q1
  show (if decide (wV m.w = V.non) = true then _ else _)
  cases e : m.w with
  | none =>
    rw [e] at q1
    refine iteT ⟨_, rfl, _, _, rfl, rfl, .inr ⟨by decide, by decide⟩, _, rfl, _, _, rfl, rfl, ?_⟩
    show Q (.int (v * 26500305465 + (rowNum r + 1))) H1
    rw [← Int.add_assoc]
    exact q1
  | some n =>
    rw [e] at q1
    obtain ⟨h3, h4, h5⟩ := okm.ww n e
    have h6 := okm.f2
    refine iteF ⟨_, rfl, _, rfl, hp, hwV m, _, _, rfl, rfl, SqT.of hh1, atI_nat (j := 1) rfl, _, _, rfl, rfl, .inr ⟨by omega, by omega⟩, _, rfl, _, _, rfl, rfl, ?_⟩
    refine ⟨_, rfl, hp, hwV m, _, .int (n : Int), rfl, rfl, SqT.of hh1, atI_nat (j := 0) (by show some (wV m.w) = _; rw [e]; rfl), _, (n : Int), rfl, rfl, (by show (0 : Int) < (n : Int); omega), ?_⟩
    show Q (.int ((v * (m.f : Int) + (rowNum r + 1)) % (n : Int))) H1
    rw [← Int.add_assoc]
    exact q1
/-! ### _law_note, _law_row -/
def spNote : Sp := fun vs H Q _ => ∃ (b : Addr) (n : Nat), vs = [.ref b] ∧ Bx b (n + 2) H ∧ ∀ (v : Nat) H', v < 9973 → Dr b n H H' → Q (.int (v : Int)) H'
theorem ok_note (T : Txt K mg) (F : Fn K mg "_law_note" st__law_note []) (G_l_take : Cal P w K mg base CX0 1 "_law_take" spTake []) : Cal P w K mg base CX0 2 "_law_note" spNote [] := by
  refine F.cal sc__law_note ?_ (fun _ _ _ _ _ _ us hl => match us, hl with | [_], _ => rfl) ?_
  · rintro vs H Q E ⟨b, n, rfl, _⟩
    rfl
  rintro f cdv A outer s H vs Q E hr ⟨b, n, rfl, hb, q⟩
  refine ⟨_, (pss_one (ps_ret (cl G_l_take hr (by decide) (pa_cons (pv 0) (pa_cons (pe_ix ix_list (pe_lst (pa_cons pe_int (pa_cons pe_int (pa_cons pe_int (pa_nil))))) (cl G_l_take hr (by decide) (pa_cons (pv 0) (pa_cons pe_int (pa_nil)))) (fun _ _ => rfl)) (pa_nil)))))), ?_⟩
  refine ⟨_, rfl, (by show 3 ≤ sizeLine; decide), fun p hp => ?_⟩
  have d1 := (Dr.here hb).new (o := .lst ([3, 12, 9973].map fun n : Nat => V.int (n : Int))) hp
  have pb := hb.ne hp
  refine ⟨_, rfl, b, 3, n + 1, rfl, by decide, by decide, d1.bx, fun v2 H2 h2 d3 => ?_⟩
  obtain ⟨i, mi, hi⟩ := getN (ns := [3, 12, 9973]) h2
  refine ⟨p, _, _, _, rfl, rfl, SqL.of (d3.kp p _ pb upd_same), atI_nat (j := v2) hi, ?_⟩
  have d4 := d1.trans d3
  have hi2 : i = 3 ∨ i = 12 ∨ i = 9973 := by
    simp at mi
    omega
  exact ⟨b, i, n, rfl, by omega, by omega, d4.bx, fun v3 H3 h3 d5 => q v3 H3 (by omega) (d4.trans d5)⟩
def spLRw : Sp := fun vs H Q _ => ∃ (b a : Addr) (ns : List (List Nat)) (x m n : Nat), vs = [.ref b, .ref a, .str (wordS x), .int (m : Int)] ∧ a ≠ b ∧ H a = some (.lst (nmsV ns)) ∧ NmsOk ns ∧ 0 < ns.length ∧ ns.length ≤ 1000 ∧ x < 5 ∧ 0 < m ∧ m ≤ 8 ∧ Bx b (n + 5) H ∧
  ∀ p r H', RowAt H' p r → RowOk r → r.w = x → r.b < m → Dr b n H H' → H p = none → Q (.ref p) H'
theorem bareT : ∀ x < 5, inV (.str (wordS x)) [.str "end", .str "reset"] = decide (x = 2 ∨ x = 4) := bare_in
theorem ok_lrow (T : Txt K mg) (F : Fn K mg "_law_row" st__law_row []) (G_l_take : Cal P w K mg base CX0 1 "_law_take" spTake []) (G_l_note : Cal P w K mg base CX0 2 "_law_note" spNote []) (G_l_pick : Cal P w K mg base CX0 2 "_law_pick" spPick []) :
    Cal P w K mg base CX0 3 "_law_row" spLRw [] := by
  refine F.cal sc__law_row ?_ (fun _ _ _ _ _ _ us hl => match us, hl with | [_, _, _, _], _ => rfl) ?_
  · rintro vs H Q E ⟨b, a, ns, x, m, n, rfl, _⟩
    rfl
  rintro f cdv A outer s H vs Q E hr ⟨b, a, ns, x, m, n, rfl, hab, ha, hns, hn0, hn1, hx, hm0, hm8, hb, q⟩
  refine ⟨_, (pss_cons (ps_set (i := 4) sc__law_row.nd rfl (Or.inl rfl) (pe_ifExp (pt_cmpR op_in_seq (pv 2) (pe_tup (pa_cons pe_str (pa_cons pe_str (pa_nil)))) (by rfl)) pe_int (cl G_l_note hr (by decide) (pa_cons (pv 0) (pa_nil)))))
    (pss_one (ps_ret (pe_tup (pa_cons (cl G_l_take hr (by decide) (pa_cons (pv 0) (pa_cons (pv 3) (pa_nil)))) (pa_cons (pv 2) (pa_cons (cl G_l_pick hr (by decide) (pa_cons (pv 0) (pa_cons (pv 1) (pa_nil)))) (pa_cons (pv 4) (pa_nil))))))))), ?_⟩
  refine ⟨_, rfl, (by show 2 ≤ sizeLine; decide), fun t ht => ?_⟩
  have d1 := (Dr.here hb).new (o := .tup [.str "end", .str "reset"]) ht
  refine ⟨t, _, rfl, .inr (SqT.of upd_same), rfl, rfl, _, rfl, ?_⟩
  show (if inV (.str (wordS x)) [.str "end", .str "reset"] = true then _ else _)
  rw [bareT x hx]
  by_cases c : x = 2 ∨ x = 4
  · rw [if_pos (decide_eq_true c)]
    have d2 := d1
    refine ⟨_, rfl, _, rfl, b, m, n + 4, rfl, hm0, by omega, d2.bx, fun v H2 hv d3 => ?_⟩
    have d4 := d2.trans d3
    refine ⟨_, rfl, _, rfl, _, rfl, b, a, nmsV ns, n + 3, rfl, hab, d4.kp a _ hab ha, ?_, ?_, d4.bx, fun y H3 hy d5 => ?_⟩
    · rw [nmsV, List.length_map]
      exact hn0
    · rw [nmsV, List.length_map]
      exact hn1
    obtain ⟨l, hl, rfl⟩ := List.mem_map.mp hy
    have d6 := d4.trans d5
    refine ⟨_, rfl, (by show 4 ≤ sizeLine; decide), fun p hp => ?_⟩
    exact q p ⟨v, x, l, 0⟩ _ upd_same ⟨by show v < 8; omega, hx, hns l hl, by show 0 < 9973; omega, fun _ => rfl⟩ rfl hv ((d6.new hp).le (by omega)) (d6.free hp)
  · rw [if_neg (by simpa using c)]
    refine ⟨_, rfl, b, n + 3, rfl, d1.bx, fun k H1 hk d2' => ?_⟩
    have d2 := d1.trans d2'
    refine ⟨_, rfl, _, rfl, b, m, n + 2, rfl, hm0, by omega, d2.bx, fun v H2 hv d3 => ?_⟩
    have d4 := d2.trans d3
    refine ⟨_, rfl, _, rfl, _, rfl, b, a, nmsV ns, n + 1, rfl, hab, d4.kp a _ hab ha, ?_, ?_, d4.bx, fun y H3 hy d5 => ?_⟩
    · rw [nmsV, List.length_map]
      exact hn0
    · rw [nmsV, List.length_map]
      exact hn1
    obtain ⟨l, hl, rfl⟩ := List.mem_map.mp hy
    have d6 := d4.trans d5
    refine ⟨_, rfl, (by show 4 ≤ sizeLine; decide), fun p hp => ?_⟩
    exact q p ⟨v, x, l, k⟩ _ upd_same ⟨by show v < 8; omega, hx, hns l hl, hk, fun z => absurd z c⟩ rfl hv ((d6.new hp).le (by omega)) (d6.free hp)
end
end K18

set_option maxHeartbeats 4000000
namespace K18
open PySem PySem.Spec PyProof.Rows L2
/-! ### lists of rows, over draws -/
theorem Rows.dr {b : Addr} {n m : Nat} {H H' : Hp} {ps : List Addr} {rs : List Row} (R : Rows H ps rs) (hb : Bx b n H) (d : Dr b m H H') : Rows H' ps rs :=
  ⟨R.len, fun i p r h1 h2 => by
    have e := R.rows i p r h1 h2
    refine d.kp p _ (fun z => ?_) e
    obtain ⟨x, y, c, eb, _⟩ := hb
    have e' : H p = some (.tup (tv r)) := e
    rw [z, eb] at e'
    cases e'⟩
theorem Rows.snoc {H : Hp} {ps : List Addr} {rs : List Row} {p : Addr} {r : Row} (R : Rows H ps rs) (h : RowAt H p r) : Rows H (ps ++ [p]) (rs ++ [r]) := by
  refine ⟨by rw [List.length_append, List.length_append, R.len]; rfl, fun i q x h1 h2 => ?_⟩
  rcases Nat.lt_or_ge i ps.length with hi | hi
  · rw [List.getElem?_append_left hi] at h1
    rw [List.getElem?_append_left (by rw [← R.len]; exact hi)] at h2
    exact R.rows i q x h1 h2
  · rw [List.getElem?_append_right hi] at h1
    rw [List.getElem?_append_right (by rw [← R.len]; exact hi)] at h2
    obtain ⟨l1, e1⟩ := List.getElem?_eq_some_iff.mp h1
    obtain ⟨l2, e2⟩ := List.getElem?_eq_some_iff.mp h2
    have e1' : q = p := by simpa using e1.symm
    have e2' : x = r := by simpa using e2.symm
    rw [e1', e2']
    exact h
/-- a list that is being filled with rows, between draws -/
structure Log (H H' : Hp) (b D : Addr) (n : Nat) (ps : List Addr) (rs : List Row) : Prop where
  dr : Dr b n H H'
  fl : H D = none
  nb : D ≠ b
  lst : H' D = some (.lst (ps.map V.ref))
  rows : Rows H' ps rs
  ok : RowsOk rs
section
variable {H H' H1 : Hp} {b D p : Addr} {n m : Nat} {ps : List Addr} {rs : List Row} {r : Row}
theorem Log.go (L : Log H H' b D m ps rs) (d : Dr b n H' H1) : Log H H1 b D n ps rs := ⟨L.dr.trans d, L.fl, L.nb, d.kp _ _ L.nb L.lst, L.rows.dr L.dr.bx d, L.ok⟩
theorem Log.same (L : Log H H' b D m ps rs) (s : Same H' H1) : Log H H1 b D m ps rs := ⟨L.dr.same s, L.fl, L.nb, s _ _ L.lst, L.rows.same s, L.ok⟩
theorem Log.le (L : Log H H' b D m ps rs) (h : n ≤ m) : Log H H' b D n ps rs := ⟨L.dr.le h, L.fl, L.nb, L.lst, L.rows, L.ok⟩
theorem Log.snoc (L : Log H H' b D m ps rs) (h : RowAt H' p r) (k : RowOk r) : Log H (upd H' D (.lst (ps.map V.ref ++ [.ref p]))) b D m (ps ++ [p]) (rs ++ [r]) := by
  have R := L.rows.snoc h
  refine ⟨L.dr.upd L.fl L.nb, L.fl, L.nb, by rw [upd_same, List.map_append]; rfl, ⟨R.len, fun i q x h1 h2 => ?_⟩, fun x hx => ?_⟩
  · have e := R.rows i q x h1 h2
    show upd H' D _ q = _
    rw [upd_ne (fun z => by
      have e' : H' q = some (.tup (tv x)) := e
      rw [z, L.lst] at e'
      cases e')]
    exact e
  · rcases List.mem_append.mp hx with hx | hx
    · exact L.ok x hx
    · rw [List.mem_singleton.mp hx]
      exact k
theorem Log.new (d : Dr b n H H') (e : H' D = none) : Log H (upd H' D (.lst [])) b D n [] [] :=
  ⟨d.new e, d.free e, d.bx.ne e, upd_same, ⟨rfl, fun i p r h => by simp at h⟩, fun _ h => nomatch h⟩
end
theorem ff_snoc (many fixed : Nat) (r : Row) : ∀ (rs : List Row) (i : Nat) (up : Bool), faultFrom many fixed i up rs = none → canStand many fixed (up || rs.any fun r => decide (r.w = 2)) r = true → faultFrom many fixed i up (rs ++ [r]) = none
  | [], i, up, _, h => by
    rw [List.any_nil, Bool.or_false] at h
    show (if canStand many fixed up r = true then none else some i) = none
    rw [if_pos h]
  | a :: rs, i, up, h1, h => by
    unfold faultFrom at h1
    by_cases c : canStand many fixed up a = true
    · rw [if_pos c] at h1
      show (if canStand many fixed up a = true then faultFrom many fixed (i + 1) (up || decide (a.w = 2)) (rs ++ [r]) else some i) = none
      rw [if_pos c]
      refine ff_snoc many fixed r rs (i + 1) _ h1 ?_
      rw [List.any_cons, ← Bool.or_assoc] at h
      exact h
    · rw [if_neg c] at h1
      cases h1
def upOf (rs : List Row) : Bool := rs.any fun r => decide (r.w = 2)
theorem upOf_snoc (rs : List Row) (r : Row) : upOf (rs ++ [r]) = (upOf rs || decide (r.w = 2)) := by
  unfold upOf
  rw [List.any_append, List.any_cons, List.any_nil, Bool.or_false]
theorem fault_snoc {many fixed : Nat} {rs : List Row} {r : Row} (h : fault many fixed rs = none) (c : canStand many fixed (upOf rs) r = true) : fault many fixed (rs ++ [r]) = none :=
  ff_snoc many fixed r rs 0 false h (by rw [Bool.false_or]; exact c)
theorem can_low {many fixed : Nat} {r : Row} (h : r.b < many) (hw : r.w < 3) : canStand many fixed false r = true := by
  unfold canStand
  rw [decide_eq_true h, decide_eq_false (by omega), decide_eq_true (by omega)]
  rfl
theorem can_late {many fixed : Nat} {r : Row} (h : r.b < many) (hw : r.w = 3) : canStand many fixed true r = true := by
  unfold canStand
  rw [decide_eq_true h, decide_eq_true (.inl hw), decide_eq_true (by omega)]
  rfl
theorem can_reset {many fixed : Nat} {r : Row} (h : r.b < many) (hw : r.w = 4) (hf : fixed ≤ r.b) : canStand many fixed true r = true := by
  unfold canStand
  rw [decide_eq_true h, decide_eq_true (.inr hw), decide_eq_true hf, Bool.or_true]
  rfl
section
variable {P : Program} {w : World} {K : PySem.W.Frag} {mg : Str → Option Value} {base : Heap}
/-! ### _law_log -/
def spLLog : Sp := fun vs H Q _ => ∃ (b a : Addr) (ns : List (List Nat)) (m kept n : Nat), vs = [.ref b, .ref a, .int (m : Int), .int (kept : Int), .int 14] ∧ a ≠ b ∧ H a = some (.lst (nmsV ns)) ∧ NmsOk ns ∧ 0 < ns.length ∧ ns.length ≤ 1000 ∧ 0 < m ∧ m ≤ 8 ∧ kept ≤ m ∧ Bx b (n + 200) H ∧
  ∀ l ps rs H', Log H H' b l n ps rs → rs.length ≤ 14 → fault m kept rs = none → Q (.ref l) H'
theorem cut_row (r : Row) : cutV (tv r) (some 1) none = [.str (wordS r.w), .str (S r.n), .int (r.k : Int)] := rfl
theorem two_words : ∀ v < 2, ([.str "load", .str "set"] : List V)[v]? = some (.str (wordS v)) := by decide +kernel
theorem ok_log (T : Txt K mg) (F : Fn K mg "_law_log" st__law_log []) (G_l_take : Cal P w K mg base CX0 1 "_law_take" spTake []) (G_l_row : Cal P w K mg base CX0 3 "_law_row" spLRw []) : Cal P w K mg base CX0 4 "_law_log" spLLog [] := by
  refine F.cal sc__law_log ?_ (fun _ _ _ _ _ _ us hl => match us, hl with | [_, _, _, _, _], _ => rfl) ?_
  · rintro vs H Q E ⟨b, a, ns, m, kept, n, rfl, _⟩
    rfl
  rintro f cdv A outer s H vs Q E hr ⟨b, a, ns, m, kept, n, rfl, hab, ha, hns, hn0, hn1, hm0, hm8, hkm, hb, q⟩
  refine ⟨_, (pss_cons (ps_setLc (i := 6) (own := [("_law_k", 5)]) (g := gName 5) (tt := tYes) rfl sc__law_log.nd rfl rfl (sw_true rfl rfl rfl (by decide +kernel)) (pi_range1 rfl T.z_range (pa_cons (cl G_l_take hr (by decide) (pa_cons (pv 0) (pa_cons (pe_op op_add (pv 4) pe_int) (pa_nil)))) (pa_nil))) (blkOk_by (N := N__law_log) (sc := defScope st__law_log) (by decide +kernel)) (fun _ _ _ _ _ => (pg_name (i := 5) sc__law_log.nd rfl (Or.inl rfl))) (fun _ _ _ _ _ => pts_nil) (fun _ _ _ _ _ => (cl G_l_row hr (by decide) (pa_cons (pv 0) (pa_cons (pv 1) (pa_cons (pe_ix (ix_listK (K := K) rfl) (pe_lst (pa_cons pe_str (pa_cons pe_str (pa_nil)))) (cl G_l_take hr (by decide) (pa_cons (pv 0) (pa_cons pe_int (pa_nil)))) (fun _ _ => rfl)) (pa_cons (pv 2) (pa_nil))))))))
    (pss_cons (ps_if (PW.pt (pw_and (pt_cmpR op_lt (pe_callB call_len_seq (by rfl) T.z_len b_len (pa_cons (pv 6) (pa_nil))) (pv 4) (nomark _)) (pw_and1 (pt_cmpR op_gt (cl G_l_take hr (by decide) (pa_cons (pv 0) (pa_cons pe_int (pa_nil)))) pe_int (nomark _))))) (pss_cons (ps_expr (pe_bm PySem.F.plainAttrs_list PySem.F.slot_list_append PySem.F.type_list_append mt_append (pv 6) (pa_cons (cl G_l_row hr (by decide) (pa_cons (pv 0) (pa_cons (pv 1) (pa_cons pe_str (pa_cons (pv 2) (pa_nil)))))) (pa_nil))))
    (pss_one (ps_for PassesOwn.never rfl (pi_range1 rfl T.z_range (pa_cons (cl G_l_take hr (by decide) (pa_cons (pv 0) (pa_cons (pe_op op_add (pe_op op_sub (pv 4) (pe_callB call_len_seq (by rfl) T.z_len b_len (pa_cons (pv 6) (pa_nil)))) pe_int) (pa_nil)))) (pa_nil))) (pg_name (i := 5) sc__law_log.nd rfl (Or.inl rfl)) (pss_cons (ps_set (i := 7) sc__law_log.nd rfl (Or.inl rfl) (pe_ix ix_list (pe_lst (pa_cons pe_str (pa_cons pe_str (pa_nil)))) (pe_callTy call_int1 (by rfl) T.z_int b_int (pa_cons (pe_and (pe_cmpR op_eq (cl G_l_take hr (by decide) (pa_cons (pv 0) (pa_cons pe_int (pa_nil)))) pe_int (nomark _)) (pe_one (pe_cmpR op_lt (pv 3) (pv 2) (nomark _)))) (pa_nil))) (fun _ _ => rfl)))
    (pss_cons (ps_set (i := 8) sc__law_log.nd rfl (Or.inl rfl) (cl G_l_row hr (by decide) (pa_cons (pv 0) (pa_cons (pv 1) (pa_cons (pv 7) (pa_cons (pv 2) (pa_nil)))))))
    (pss_one (ps_expr (pe_bm PySem.F.plainAttrs_list PySem.F.slot_list_append PySem.F.type_list_append mt_append (pv 6) (pa_cons (pe_ifExp (pt_cmpR op_eq (pv 7) pe_str (nomark _)) (pe_op op_catA (pe_tup (pa_cons (pe_op op_add (pv 3) (pe_op op_mod (pe_ix ix_tup (pv 8) pe_int (fun _ _ => rfl)) (pe_op op_sub (pv 2) (pv 3)))) (pa_nil))) (pe_slice sl_tupA (pv 8) (po_some pe_int) po_none)) (pv 8)) (pa_nil)))))))))) pss_nil)
    (pss_one (ps_ret (pv 6))))), ?_⟩
  refine ⟨_, rfl, _, rfl, _, _, rfl, rfl, b, 15, n + 199, rfl, by decide, by decide, hb, fun v1 H1 h1 d1 => ⟨(v1 : Int), rfl, by omega, by omega, fun D hD => ?_⟩⟩
  refine lc_any v1 (fun i H' => i ≤ v1 → ∃ ps rs, Log H H' b D (n + 199 - 6 * i) ps rs ∧ rs.length = i ∧ fault m kept rs = none ∧ upOf rs = false) (fun _ => ⟨[], [], Log.new d1 hD, rfl, rfl, rfl⟩) (fun i H' hi _ => hi) (fun H' _ => Nat.le_refl _) ?_ ?_
  · rintro i x H4 H5 hi hpv ⟨rfl, rfl⟩
    obtain ⟨ps, rs, L, hl, hf, hu⟩ := hpv (by omega)
    refine ⟨rfl, _, rfl, _, rfl, (by show 2 ≤ sizeLine; decide), fun t ht => ?_⟩
    have L1 := (L.same (same_new (o := .lst [.str "load", .str "set"]) ht)).le (n := (n + 199 - 6 * (i + 1)) + 6) (by omega)
    have tb := L.dr.bx.ne ht
    refine ⟨_, rfl, b, 2, n + 199 - 6 * (i + 1) + 5, rfl, by decide, by decide, L1.dr.bx, fun u H6 hu6 d2 => ?_⟩
    have L2' := L1.go d2
    refine ⟨t, _, _, _, rfl, rfl, SqL.of (d2.kp t _ tb upd_same), atI_nat (j := u) (two_words u hu6), _, rfl, ?_⟩
    refine ⟨b, a, ns, u, m, n + 199 - 6 * (i + 1), rfl, hab, L2'.dr.kp a _ hab ha, hns, hn0, hn1, by omega, hm0, hm8, L2'.dr.bx, fun p r H7 hp okr hw hrb d3 hpf => ?_⟩
    have L3 := L2'.go d3
    refine ⟨_, L3.lst, ?_, fun _ => ⟨ps ++ [p], rs ++ [r], L3.snoc hp okr, by simp [hl], fault_snoc hf ?_, ?_⟩⟩
    · rw [List.length_map, L3.rows.len, hl]
      exact small1000 (by omega)
    · rw [hu]
      exact can_low hrb (by omega)
    · rw [upOf_snoc, hu, decide_eq_false (by omega)]
      rfl
  rintro H2 hpv
  obtain ⟨ps, rs, L, hl, hf, hu⟩ := hpv (Nat.le_refl _)
  have L1 := L.le (n := n + 115) (by omega)
  have lenV : (ps.map V.ref).length = rs.length := by rw [List.length_map, L1.rows.len]
  refine ⟨_, rfl, D, _, rfl, .inl (SqL.of L1.lst), _, rfl, _, _, rfl, rfl, _, rfl, ?_⟩
  rw [lenV]
  by_cases c : rs.length < 14
  · rw [decide_eq_true (by omega)]
    refine iteT ⟨_, rfl, b, 4, n + 114, rfl, by decide, by decide, L1.dr.bx, fun v2 H3 h2 d2 => ⟨_, _, rfl, rfl, _, rfl, ?_⟩⟩
    have L2' := L1.go d2
    cases e2 : decide ((0 : Int) < (v2 : Int)) with
    | false =>
      exact iteF ⟨_, rfl, q D ps rs _ (L2'.le (by omega)) (by omega) hf⟩
    | true =>
      refine iteT ?_
      refine ⟨_, rfl, .inl ⟨rfl, _, SqL.of L2'.lst⟩, _, rfl, _, rfl, _, rfl, ?_⟩
      refine ⟨b, a, ns, 2, m, n + 109, rfl, hab, L2'.dr.kp a _ hab ha, hns, hn0, hn1, by omega, hm0, hm8, L2'.dr.bx, fun p r H4 hp okr hw hrb d3 hpf => ?_⟩
      have L3 := L2'.go d3
      refine ⟨D, _, _, rfl, rfl, L3.lst, ?_, ?_⟩
      · rw [lenV]
        exact small1000 (by omega)
      have L4 := L3.snoc hp okr
      have hf4 : fault m kept (rs ++ [r]) = none := fault_snoc hf (by rw [hu]; exact can_low hrb (by omega))
      have hu4 : upOf (rs ++ [r]) = true := by rw [upOf_snoc, hw]; simp
      have hl4 : (rs ++ [r]).length = rs.length + 1 := by simp
      generalize hrs : rs ++ [r] = rs4 at L4 hf4 hu4 hl4
      have e4 : ps.map V.ref ++ [.ref p] = (ps ++ [p]).map V.ref := by rw [List.map_append]; rfl
      rw [e4] at L4 ⊢
      generalize ps ++ [p] = ps4 at L4 ⊢
      have lenV4 : (ps4.map V.ref).length = rs4.length := by rw [List.length_map, L4.rows.len]
      refine ⟨_, rfl, _, rfl, _, rfl, D, _, rfl, .inl (SqL.of L4.lst), _, _, rfl, rfl, _, _, rfl, rfl, b, 15 - rs4.length, n + 108, ?_, by omega, by omega, L4.dr.bx, fun v5 H5 h5 d5 => ?_⟩
      · rw [lenV4]
        show [V.ref b, V.int (14 - (rs4.length : Int) + 1)] = [V.ref b, V.int ((15 - rs4.length : Nat) : Int)]
        rw [show (14 - (rs4.length : Int) + 1) = ((15 - rs4.length : Nat) : Int) by omega]
      have L5 := L4.go d5
      refine ⟨(v5 : Int), rfl, by omega, by omega, for_any v5 (fun i σ H' => i ≤ v5 → ∃ ps6 rs6, Log H H' b D (n + 108 - 6 * i) ps6 rs6 ∧ rs6.length = rs4.length + i ∧ fault m kept rs6 = none ∧ upOf rs6 = true ∧ ∃ x5 x7 x8 : Option V, σ = [some (.ref b), some (.ref a), some (.int (m : Int)), some (.int (kept : Int)), some (.int 14), x5, some (.ref D), x7, x8])
        (fun _ => ⟨ps4, rs4, L5, rfl, hf4, hu4, none, none, none, rfl⟩) (fun i σ H' hi _ => hi) (fun σ H' _ => Nat.le_refl _) ?_ ?_⟩
      · rintro i x σ H6 H7 hi hpv ⟨rfl, rfl⟩
        replace hpv := hpv (by omega)
        obtain ⟨ps6, rs6, L6, hl6, hf6, hu6, x5, x7, x8, rfl⟩ := hpv
        refine ⟨(by show 2 ≤ sizeLine; decide), fun t ht => ?_⟩
        have L7 := (L6.same (same_new (o := .lst [.str "late", .str "reset"]) ht)).le (n := (n + 108 - 6 * (i + 1)) + 6) (by omega)
        have tb := L6.dr.bx.ne ht
        refine ⟨_, rfl, b, 3, n + 108 - 6 * (i + 1) + 5, rfl, by decide, by decide, L7.dr.bx, fun u H8 hu8 d8 => ⟨rfl, _, rfl, ?_⟩⟩
        have L8 := L7.go d8
        have tl : H8 t = some (.lst [.str "late", .str "reset"]) := d8.kp t _ tb upd_same
        have lenV8 : (ps6.map V.ref).length = rs6.length := by rw [List.length_map, L8.rows.len]
        show (if decide (V.int (u : Int) = V.int 0) = true then _ else _)
        by_cases cu : u = 0
        · rw [if_pos (decide_eq_true (by rw [cu]; rfl))]
          refine ⟨_, rfl, _, rfl, _, _, rfl, rfl, .inr ⟨_, rfl, ?_⟩⟩
          by_cases ck : kept < m
          · rw [decide_eq_true (by omega)]
            refine ⟨t, _, 1, _, rfl, rfl, SqL.of tl, atI_nat (j := 1) rfl, ?_⟩
            refine ⟨_, rfl, _, rfl, _, rfl, _, rfl, ?_⟩
            refine ⟨b, a, ns, 4, m, n + 108 - 6 * (i + 1), rfl, hab, L8.dr.kp a _ hab ha, hns, hn0, hn1, by omega, hm0, hm8, L8.dr.bx, fun p r H9 hp okr hw hrb d9 hpf => ?_⟩
            have L9 := L8.go d9
            refine ⟨_, rfl, .inl ⟨rfl, _, SqL.of L9.lst⟩, _, rfl, rfl, _, rfl, iteT ?_⟩
            refine ⟨_, rfl, _, rfl, p, tv r, _, _, rfl, rfl, SqT.of hp, atI_nat (j := 0) rfl, _, rfl, _, rfl, _, _, rfl, rfl, _, _, rfl, rfl, (by show (0 : Int) < (m : Int) - (kept : Int); omega), _, _, rfl, rfl, (by show 1 ≤ sizeLine; decide), fun t2 ht2 => ?_⟩
            have eb : (kept : Int) + (r.b : Int) % ((m : Int) - (kept : Int)) = ((kept + r.b % (m - kept) : Nat) : Int) := by
              rw [Int.natCast_add, Int.natCast_emod, Int.natCast_sub (by omega)]
            have L10 := L9.same (same_new (o := .tup [.int ((kept : Int) + (r.b : Int) % ((m : Int) - (kept : Int)))]) ht2)
            have hp10 := (same_new (o := .tup [.int ((kept : Int) + (r.b : Int) % ((m : Int) - (kept : Int)))]) ht2) _ _ hp
            refine ⟨_, rfl, _, rfl, p, tv r, rfl, SqT.of hp10, fun z => absurd z.1 (by show ¬ (1 = 0); decide), fun _ t3 ht3 => ?_⟩
            have s11 : Same _ (upd _ t3 (.tup (cutV (tv r) (some 1) none))) := same_new (o := .tup (cutV (tv r) (some 1) none)) ht3
            have L11 := L10.same s11
            refine ⟨t2, t3, _, _, rfl, rfl, SqT.of (s11 _ _ upd_same), SqT.of upd_same, (by show 4 ≤ sizeLine; decide), fun z => (nomatch z), fun _ z => (nomatch z), fun _ _ t4 ht4 => ?_⟩
            have lt : r.b % (m - kept) < m - kept := Nat.mod_lt _ (by omega)
            let r2 : Row := ⟨kept + r.b % (m - kept), r.w, r.n, r.k⟩
            have e4 : ([V.int ((kept : Int) + (r.b : Int) % ((m : Int) - (kept : Int)))] ++ cutV (tv r) (some 1) none) = tv r2 := by
              rw [eb]
              rfl
            have L12 := L11.same (same_new (o := .tup ([V.int ((kept : Int) + (r.b : Int) % ((m : Int) - (kept : Int)))] ++ cutV (tv r) (some 1) none)) ht4)
            have ok2 : RowOk r2 := ⟨by show kept + r.b % (m - kept) < 8; omega, okr.hw, okr.hn, okr.hk, okr.bare⟩
            have L13 := L12.snoc (p := t4) (r := r2) (upd_same.trans (by rw [e4])) ok2
            refine ⟨D, _, _, rfl, rfl, L12.lst, ?_, ?_⟩
            · rw [lenV8]
              exact small1000 (by omega)
            · exact fun _ => ⟨ps6 ++ [t4], rs6 ++ [r2], L13, by simp [hl6]; omega, fault_snoc hf6 (by rw [hu6]; exact can_reset (by show kept + r.b % (m - kept) < m; omega) hw (by show kept ≤ kept + r.b % (m - kept); omega)), by rw [upOf_snoc, hu6]; rfl, some (.int (0 + (i : Int))), some (.str "reset"), some (.ref p), rfl⟩
          · rw [decide_eq_false (by omega)]
            refine ⟨t, _, 0, _, rfl, rfl, SqL.of tl, atI_nat (j := 0) rfl, ?_⟩
            refine ⟨_, rfl, _, rfl, _, rfl, _, rfl, ?_⟩
            refine ⟨b, a, ns, 3, m, n + 108 - 6 * (i + 1), rfl, hab, L8.dr.kp a _ hab ha, hns, hn0, hn1, by omega, hm0, hm8, L8.dr.bx, fun p r H9 hp okr hw hrb d9 hpf => ?_⟩
            have L9 := L8.go d9
            refine ⟨_, rfl, .inl ⟨rfl, _, SqL.of L9.lst⟩, _, rfl, rfl, _, rfl, iteF ⟨_, rfl, D, _, _, rfl, rfl, L9.lst, ?_, ?_⟩⟩
            · rw [lenV8]
              exact small1000 (by omega)
            · refine fun _ => ⟨ps6 ++ [p], rs6 ++ [r], L9.snoc hp okr, by simp [hl6]; omega, fault_snoc hf6 (by rw [hu6]; exact can_late hrb hw), by rw [upOf_snoc, hu6]; rfl, some (.int (0 + (i : Int))), some (.str "late"), some (.ref p), rfl⟩
        · rw [if_neg (by
            rw [decide_eq_false (fun z => cu (by injection z with z; omega))]
            exact Bool.false_ne_true)]
          refine .inr ⟨_, rfl, ?_⟩
          refine ⟨t, _, 0, _, rfl, rfl, SqL.of tl, atI_nat (j := 0) rfl, ?_⟩
          refine ⟨_, rfl, _, rfl, _, rfl, _, rfl, ?_⟩
          refine ⟨b, a, ns, 3, m, n + 108 - 6 * (i + 1), rfl, hab, L8.dr.kp a _ hab ha, hns, hn0, hn1, by omega, hm0, hm8, L8.dr.bx, fun p r H9 hp okr hw hrb d9 hpf => ?_⟩
          have L9 := L8.go d9
          refine ⟨_, rfl, .inl ⟨rfl, _, SqL.of L9.lst⟩, _, rfl, rfl, _, rfl, iteF ⟨_, rfl, D, _, _, rfl, rfl, L9.lst, ?_, ?_⟩⟩
          · rw [lenV8]
            exact small1000 (by omega)
          · refine fun _ => ⟨ps6 ++ [p], rs6 ++ [r], L9.snoc hp okr, by simp [hl6]; omega, fault_snoc hf6 (by rw [hu6]; exact can_late hrb hw), by rw [upOf_snoc, hu6]; rfl, some (.int (0 + (i : Int))), some (.str "late"), some (.ref p), rfl⟩
      · rintro σ H6 hpv
        replace hpv := hpv (Nat.le_refl _)
        obtain ⟨ps6, rs6, L6, hl6, hf6, hu6, x5, x7, x8, rfl⟩ := hpv
        exact ⟨_, rfl, q D ps6 rs6 _ (L6.le (by omega)) (by omega) hf6⟩
  · rw [decide_eq_false (by omega)]
    exact iteF ⟨_, rfl, q D ps rs _ (L1.le (by omega)) (by omega) hf⟩
end
end K18

set_option maxHeartbeats 4000000
namespace K18
open PySem PySem.Spec PyProof.Rows L2
section
variable {P : Program} {w : World} {K : PySem.W.Frag} {mg : Str → Option Value} {base : Heap}
/-! ### _law_fault -/
def spLFault : Sp := fun vs H Q _ => ∃ (a : Addr) (ps : List Addr) (rs : List Row) (many fixed : Nat), vs = [.ref a, .int (many : Int), .int (fixed : Int)] ∧ H a = some (.lst (ps.map V.ref)) ∧ Rows H ps rs ∧ RowsOk rs ∧ ∀ H', Same H H' → Q (oV (fault many fixed rs)) H'
theorem behindT : ∀ x < 5, inV (.str (wordS x)) [.str "late", .str "reset"] = decide (x = 3 ∨ x = 4) := behind_in
theorem ok_lfault (T : Txt K mg) (F : Fn K mg "_law_fault" st__law_fault []) : Cal P w K mg base CX0 1 "_law_fault" spLFault [] := by
  refine F.cal sc__law_fault ?_ (fun _ _ _ _ _ _ us hl => match us, hl with | [_, _, _], _ => rfl) ?_
  · rintro vs H Q E ⟨a, ps, rs, many, fixed, rfl, _⟩
    rfl
  rintro f cdv A outer s H vs Q E hr ⟨a, ps, rs, many, fixed, rfl, ha, R, ok, q⟩
  refine ⟨_, (pss_cons (ps_set (i := 3) sc__law_fault.nd rfl (Or.inl rfl) pe_bl)
    (pss_cons (ps_for PassesOwn.never rfl (pi_enum (by rfl) T.z_enumerate (pa_cons (pv 0) (pa_nil))) (pg_tup rfl (pgs_cons (pg_name (i := 4) sc__law_fault.nd rfl (Or.inl rfl)) (pgs_cons (pg_name (i := 5) sc__law_fault.nd rfl (Or.inl rfl)) (pgs_nil)))) (pss_cons (ps_if (PW.pt (pw_or (pt_cmpR op_ge (pe_ix ix_tup (pv 5) pe_int (fun _ _ => rfl)) (pv 1) (nomark _)) (pw_or (pt_cmpR op_ne (pe_cmpR op_in_seq (pe_ix ix_tup (pv 5) pe_int (fun _ _ => rfl)) (pe_tup (pa_cons pe_str (pa_cons pe_str (pa_nil)))) (by rfl)) (pv 3) (nomark _)) (pw_or1 (PW.pt (pw_and (pt_cmpR op_eq (pe_ix ix_tup (pv 5) pe_int (fun _ _ => rfl)) pe_str (nomark _)) (pw_and1 (pt_cmpR op_lt (pe_ix ix_tup (pv 5) pe_int (fun _ _ => rfl)) (pv 2) (nomark _))))))))) (pss_one (ps_ret (pv 4))) pss_nil)
    (pss_one (ps_set (i := 3) sc__law_fault.nd rfl (Or.inl rfl) (pe_or (pv 3) (pe_one (pe_cmpR op_eq (pe_ix ix_tup (pv 5) pe_int (fun _ _ => rfl)) pe_str (nomark _))))))))
    (pss_one (ps_ret pe_non)))), ?_⟩
  refine ⟨_, rfl, a, _, rfl, SqL.of ha, for_enumL (K := K) (xs := ps.map V.ref) (fun i σ H1 => Same H H1 ∧ ∃ (up : Bool) (v1 v2 : Option V), σ = [some (.ref a), some (.int (many : Int)), some (.int (fixed : Int)), some (.bl up), v1, v2] ∧ faultFrom many fixed i up (rs.drop i) = fault many fixed rs) ?_ ?_ ?_ ?_⟩
  · refine ⟨Same.refl H, false, none, none, rfl, ?_⟩
    rw [List.drop_zero]
    rfl
  · rintro i σ H1 _ ⟨s1, _⟩
    exact SqL.of (s1 _ _ ha)
  · rintro i x t σ H1 hx ⟨s1, up, v1, v2, rfl, hf⟩ ht
    obtain ⟨p, r, rfl, hpa, hr1, hp⟩ := (R.same s1).get hx
    have okr : RowOk r := ok r (List.mem_of_getElem? hr1)
    have s2 : Same H (upd H1 t (.tup [.int (i : Nat), .ref p])) := same_upd s1 ht
    refine ⟨t, _, rfl, SqT.of upd_same, rfl, _, _, rfl, _, _, rfl, rfl, ?_⟩
    have dr : rs.drop i = r :: rs.drop (i + 1) := by
      obtain ⟨hi, e⟩ := List.getElem?_eq_some_iff.mp hr1
      rw [← e]
      exact List.drop_eq_getElem_cons hi
    rw [dr] at hf
    have hp2 : RowAt (upd H1 t (.tup [.int (i : Nat), .ref p])) p r := s2 _ _ (R.rows i p r hpa hr1)
    have hgood : canStand many fixed up r = true → faultFrom many fixed (i + 1) (up || decide (r.w = 2)) (rs.drop (i + 1)) = fault many fixed rs := fun c => by
      rw [← hf]
      show _ = if canStand many fixed up r = true then _ else _
      rw [c]
      rfl
    have hbad : canStand many fixed up r = false → ∀ H', Same H H' → Q (.int (i : Int)) H' := fun c H' s' => by
      have e : fault many fixed rs = some i := by
        rw [← hf]
        unfold faultFrom
        rw [c]
        rfl
      have q1 := q _ s'
      rw [e] at q1
      exact q1
    unfold canStand at hgood hbad
    refine ⟨_, rfl, p, tv r, _, _, rfl, rfl, SqT.of hp2, atI_nat (j := 0) rfl, _, rfl, _, _, rfl, rfl, _, rfl, ?_⟩
    have eb : decide ((many : Int) ≤ (r.b : Int)) = !decide (r.b < many) := by
      by_cases h : r.b < many
      · rw [decide_eq_true h, decide_eq_false (by omega)]
        rfl
      · rw [decide_eq_false h, decide_eq_true (by omega)]
        rfl
    rw [eb]
    cases c1 : decide (r.b < many) with
    | false =>
      rw [c1] at hbad
      exact iteT ⟨_, rfl, hbad rfl _ s2⟩
    | true =>
      rw [c1] at hbad hgood
      refine iteF ?_
      refine ⟨_, rfl, p, tv r, _, _, rfl, rfl, SqT.of hp2, atI_nat (j := 1) rfl, (by show 2 ≤ sizeLine; decide), fun t2 ht2 => ?_⟩
      have s3 := s2.trans (same_new (o := .tup [.str "late", .str "reset"]) ht2)
      have hp3 : RowAt _ p r := (same_new (o := .tup [.str "late", .str "reset"]) ht2) _ _ hp2
      refine ⟨t2, _, rfl, .inr (SqT.of upd_same), rfl, rfl, ?_⟩
      refine ⟨_, rfl, rfl, _, rfl, ?_⟩
      have e2 : (!decide (V.bl (if false = true then !inV (.str (wordS r.w)) [.str "late", .str "reset"] else inV (.str (wordS r.w)) [.str "late", .str "reset"]) = V.bl up)) = !(decide (r.w = 3 ∨ r.w = 4) == up) := by
        rw [if_neg Bool.false_ne_true, behindT _ okr.hw, dec_bl]
      rw [e2]
      cases c2 : (decide (r.w = 3 ∨ r.w = 4) == up) with
      | false =>
        rw [c2] at hbad
        exact iteT ⟨_, rfl, hbad rfl _ s3⟩
      | true =>
        rw [c2] at hbad hgood
        refine iteF ?_
        refine ⟨_, rfl, p, tv r, _, _, rfl, rfl, SqT.of hp3, atI_nat (j := 1) rfl, rfl, _, rfl, ?_⟩
        rw [reset_is _ okr.hw]
        have next : ∀ u : Bool, u = (up || decide (r.w = 2)) → (true && (true && (decide (r.w ≠ 4) || decide (fixed ≤ r.b)))) = true → faultFrom many fixed (i + 1) u (rs.drop (i + 1)) = fault many fixed rs := fun u hu hc => by
          rw [hu]
          exact hgood hc
        have fin : ∀ u : Bool, u = (up || decide (r.w = 2)) → (true && (true && (decide (r.w ≠ 4) || decide (fixed ≤ r.b)))) = true → ∀ H', Same H H' → Same H H' ∧ ∃ (up : Bool) (v1 v2 : Option V), [some (V.ref a), some (.int (many : Int)), some (.int (fixed : Int)), some (.bl u), some (.int (i : Int)), some (.ref p)] = [some (.ref a), some (.int (many : Int)), some (.int (fixed : Int)), some (.bl up), v1, v2] ∧ faultFrom many fixed (i + 1) up (rs.drop (i + 1)) = fault many fixed rs :=
          fun u hu hc H' s' => ⟨s', u, _, _, rfl, next u hu hc⟩
        by_cases w4 : r.w = 4
        · rw [decide_eq_true w4]
          refine iteT ?_
          refine ⟨_, rfl, p, tv r, _, _, rfl, rfl, SqT.of hp3, atI_nat (j := 0) rfl, _, rfl, _, _, rfl, rfl, ?_⟩
          refine ⟨_, rfl, ?_⟩
          have e5 : decide ((r.b : Int) < (fixed : Int)) = !decide (fixed ≤ r.b) := by
            by_cases h : fixed ≤ r.b
            · rw [decide_eq_true h, decide_eq_false (by omega)]
              rfl
            · rw [decide_eq_false h, decide_eq_true (by omega)]
              rfl
          have e6 : decide (r.w ≠ 4) = false := decide_eq_false (by omega)
          show (if decide ((r.b : Int) < (fixed : Int)) = true then _ else _)
          rw [e5]
          rw [e6] at hbad fin
          cases c3 : decide (fixed ≤ r.b) with
          | false =>
            rw [c3] at hbad
            exact iteT ⟨_, rfl, hbad rfl _ s3⟩
          | true =>
            rw [c3] at fin
            refine iteF ?_
            cases up with
            | true => exact ⟨_, rfl, true, rfl, iteT (fin _ rfl rfl _ s3)⟩
            | false =>
              refine ⟨_, rfl, false, rfl, iteF ?_⟩
              refine ⟨_, rfl, p, tv r, _, _, rfl, rfl, SqT.of hp3, atI_nat (j := 1) rfl, rfl, ?_⟩
              show Same _ _ ∧ _
              rw [end_is _ okr.hw]
              exact fin _ rfl rfl _ s3
        · rw [decide_eq_false w4]
          refine iteF (iteF ?_)
          have e6 : decide (r.w ≠ 4) = true := decide_eq_true w4
          rw [e6] at fin
          cases up with
          | true => exact ⟨_, rfl, true, rfl, iteT (fin _ rfl rfl _ s3)⟩
          | false =>
            refine ⟨_, rfl, false, rfl, iteF ?_⟩
            refine ⟨_, rfl, p, tv r, _, _, rfl, rfl, SqT.of hp3, atI_nat (j := 1) rfl, rfl, ?_⟩
            show Same _ _ ∧ _
            rw [end_is _ okr.hw]
            exact fin _ rfl rfl _ s3
  · rintro σ H1 ⟨s1, up, v1, v2, rfl, hf⟩
    have e : rs.drop (ps.map V.ref).length = [] := by
      rw [List.length_map, R.len]
      exact List.drop_length
    rw [e] at hf
    have q1 := q _ s1
    rw [← hf] at q1
    exact q1
/-! ### _law_sizes -/
def spSizes : Sp := fun vs H Q _ => ∃ (b : Addr) (n : Nat), vs = [.ref b] ∧ Bx b (n + 4) H ∧ ∀ p (m kept : Nat) H', H' p = some (.tup [.int (m : Int), .int (kept : Int)]) → 0 < m → m ≤ 8 → kept ≤ m → Dr b n H H' → H p = none → Q (.ref p) H'
theorem ok_sizes (T : Txt K mg) (F : Fn K mg "_law_sizes" st__law_sizes []) (G_l_take : Cal P w K mg base CX0 1 "_law_take" spTake []) : Cal P w K mg base CX0 2 "_law_sizes" spSizes [] := by
  refine F.cal sc__law_sizes ?_ (fun _ _ _ _ _ _ us hl => match us, hl with | [_], _ => rfl) ?_
  · rintro vs H Q E ⟨b, n, rfl, _⟩
    rfl
  rintro f cdv A outer s H vs Q E hr ⟨b, n, rfl, hb, q⟩
  refine ⟨_, (pss_cons (ps_set (i := 1) sc__law_sizes.nd rfl (Or.inl rfl) (pe_op op_add pe_int (cl G_l_take hr (by decide) (pa_cons (pv 0) (pa_cons pe_int (pa_nil))))))
    (pss_one (ps_ret (pe_ix ix_list (pe_lst (pa_cons (pe_tup (pa_cons pe_int (pa_cons pe_int (pa_nil)))) (pa_cons (pe_tup (pa_cons (pv 1) (pa_cons (cl G_l_take hr (by decide) (pa_cons (pv 0) (pa_cons (pe_op op_add (pv 1) pe_int) (pa_nil)))) (pa_nil)))) (pa_cons (pe_tup (pa_cons (pv 1) (pa_cons (pe_op op_fdiv (cl G_l_take hr (by decide) (pa_cons (pv 0) (pa_cons (pe_op op_add (pv 1) pe_int) (pa_nil)))) pe_int) (pa_nil)))) (pa_nil))))) (cl G_l_take hr (by decide) (pa_cons (pv 0) (pa_cons pe_int (pa_nil)))) (fun _ _ => rfl))))), ?_⟩
  refine ⟨_, rfl, b, 8, n + 3, rfl, by decide, by decide, hb, fun v1 H1 h1 d1 => ⟨_, _, rfl, rfl, ?_⟩⟩
  have e1 : (1 : Int) + (v1 : Int) = ((1 + v1 : Nat) : Int) := by rw [Int.natCast_add]; rfl
  have e2 : (1 : Int) + (v1 : Int) + 1 = ((2 + v1 : Nat) : Int) := by omega
  refine ⟨(by show 2 ≤ sizeLine; decide), fun t1 ht1 => ?_⟩
  have d2 := d1.new (o := .tup [.int 4, .int 2]) ht1
  refine ⟨_, rfl, _, rfl, _, rfl, _, _, rfl, rfl, b, 2 + v1, n + 2, ?_, by omega, by omega, d2.bx, fun v2 H2 h2 d3 => ?_⟩
  · show [V.ref b, V.int ((1 : Int) + (v1 : Int) + 1)] = _
    rw [e2]
  refine ⟨(by show 2 ≤ sizeLine; decide), fun t2 ht2 => ?_⟩
  have d4 := (d2.trans d3).new (o := .tup [.int ((1 : Int) + (v1 : Int)), .int (v2 : Int)]) ht2
  refine ⟨_, rfl, _, rfl, _, rfl, _, _, rfl, rfl, b, 2 + v1, n + 1, ?_, by omega, by omega, d4.bx, fun v3 H3 h3 d5 => ?_⟩
  · show [V.ref b, V.int ((1 : Int) + (v1 : Int) + 1)] = _
    rw [e2]
  have d6 := d4.trans d5
  refine ⟨_, _, rfl, rfl, ⟨by decide, by decide⟩, (by show 2 ≤ sizeLine; decide), fun t3 ht3 => ?_⟩
  have d7 := d6.new (o := .tup [.int ((1 : Int) + (v1 : Int)), .int ((v3 : Int) / 2)]) ht3
  refine ⟨(by show 3 ≤ sizeLine; decide), fun l hl => ?_⟩
  have d8 := d7.new (o := .lst [.ref t1, .ref t2, .ref t3]) hl
  have lb := d7.bx.ne hl
  refine ⟨_, rfl, b, 3, n, rfl, by decide, by decide, d8.bx, fun v4 H4 h4 d9 => ?_⟩
  have d10 := d8.trans d9
  have hl4 := d9.kp l _ lb upd_same
  have b1 := d1.bx.ne ht1
  have b2 := (d2.trans d3).bx.ne ht2
  have b3 := d6.bx.ne ht3
  have k3 : H4 t3 = some (.tup [.int ((1 : Int) + (v1 : Int)), .int ((v3 : Int) / 2)]) := d9.kp t3 _ b3 (by rw [upd_ne (ne_of_none upd_same hl)]; exact upd_same)
  have s3 := same_new (o := .tup [.int ((1 : Int) + (v1 : Int)), .int ((v3 : Int) / 2)]) ht3
  have s4 := same_new (o := .lst [.ref t1, .ref t2, .ref t3]) hl
  have s2 := same_new (o := .tup [.int ((1 : Int) + (v1 : Int)), .int (v2 : Int)]) ht2
  have k2 : H4 t2 = some (.tup [.int ((1 : Int) + (v1 : Int)), .int (v2 : Int)]) := d9.kp t2 _ b2 (s4 _ _ (s3 _ _ (d5.kp t2 _ b2 upd_same)))
  have k1 : H4 t1 = some (.tup [.int 4, .int 2]) := d9.kp t1 _ b1 (s4 _ _ (s3 _ _ (d5.kp t1 _ b1 (s2 _ _ (d3.kp t1 _ b1 upd_same)))))
  have e3 : (v3 : Int) / 2 = ((v3 / 2 : Nat) : Int) := (Int.natCast_ediv v3 2).symm
  rw [e1] at k2 k3
  rw [e3] at k3
  have c : v4 = 0 ∨ v4 = 1 ∨ v4 = 2 := by omega
  rcases c with rfl | rfl | rfl
  · exact ⟨l, _, _, _, rfl, rfl, SqL.of hl4, atI_nat (j := 0) rfl, q t1 4 2 H4 k1 (by decide) (by decide) (by decide) d10 (d1.free ht1)⟩
  · exact ⟨l, _, _, _, rfl, rfl, SqL.of hl4, atI_nat (j := 1) rfl, q t2 (1 + v1) v2 H4 k2 (by omega) (by omega) (by omega) d10 ((d2.trans d3).free ht2)⟩
  · exact ⟨l, _, _, _, rfl, rfl, SqL.of hl4, atI_nat (j := 2) rfl, q t3 (1 + v1) (v3 / 2) H4 k3 (by omega) (by omega) (by omega) d10 (d6.free ht3)⟩
end
end K18

set_option maxHeartbeats 4000000
namespace K18
open PySem PySem.Spec PyProof.Rows L2
/-- the same by value, n lists deep -/
def EqAt (H : Hp) : Nat → V → V → Prop
  | 0, x, y => x = y ∧ (x = .non ∨ ∃ i, x = .int i)
  | n + 1, x, y => ∃ a b xs ys, x = .ref a ∧ y = .ref b ∧ H a = some (.lst xs) ∧ H b = some (.lst ys) ∧ xs.length = ys.length ∧ xs.length ≤ 1000 ∧ ∀ (i : Nat) (u v : V), xs[i]? = some u → ys[i]? = some v → EqAt H n u v
theorem EqAt.same {H H' : Hp} (s : Same H H') : ∀ (n : Nat) {x y : V}, EqAt H n x y → EqAt H' n x y
  | 0, _, _, h => h
  | n + 1, _, _, h => by
    obtain ⟨a, b, xs, ys, e1, e2, ha, hb, hl, hz, he⟩ := h
    exact ⟨a, b, xs, ys, e1, e2, s _ _ ha, s _ _ hb, hl, hz, fun i u v h1 h2 => (he i u v h1 h2).same s n⟩
theorem EqAt.ints {H : Hp} {a b : Addr} {ns : List Int} (ha : H a = some (.lst (ns.map V.int))) (hb : H b = some (.lst (ns.map V.int))) (hz : ns.length ≤ 1000) : EqAt H 1 (.ref a) (.ref b) :=
  ⟨a, b, _, _, rfl, rfl, ha, hb, rfl, by rw [List.length_map]; exact hz, fun i u v h1 h2 => by
    rw [h1] at h2
    refine ⟨Option.some.inj h2, .inr ?_⟩
    rw [List.getElem?_map] at h1
    cases e : ns[i]? with
    | none =>
      rw [e] at h1
      cases h1
    | some k =>
      rw [e] at h1
      exact ⟨k, (Option.some.inj h1).symm⟩⟩
section
variable {K : PySem.W.Frag}
theorem kk_int_list : PySem.W.kitOne K (.type "int") (.type "list") = some false := kit_ty (by decide +kernel)
theorem kk_int_tup : PySem.W.kitOne K (.type "int") (.type "tuple") = some false := kit_ty (by decide +kernel)
theorem kk_int_str : PySem.W.kitOne K (.type "int") (.type "str") = some false := kit_ty (by decide +kernel)
theorem kk_non_list : PySem.W.kitOne K (.type "NoneType") (.type "list") = some false := kit_ty (by decide +kernel)
theorem kk_non_tup : PySem.W.kitOne K (.type "NoneType") (.type "tuple") = some false := kit_ty (by decide +kernel)
theorem kk_non_str : PySem.W.kitOne K (.type "NoneType") (.type "str") = some false := kit_ty (by decide +kernel)
theorem kk_list_list : PySem.W.kitOne K (.type "list") (.type "list") = some true := kit_ty (by decide +kernel)
theorem kk_list_tup : PySem.W.kitOne K (.type "list") (.type "tuple") = some false := kit_ty (by decide +kernel)
theorem ka_int : PySem.W.kitAny K (.type "int") [.type "list", .type "tuple"] = some false := kitAny_cons kk_int_list (fun _ => kitAny_cons kk_int_tup (fun _ => kitAny_nil) (fun h => nomatch h)) (fun h => nomatch h)
theorem ka_non : PySem.W.kitAny K (.type "NoneType") [.type "list", .type "tuple"] = some false := kitAny_cons kk_non_list (fun _ => kitAny_cons kk_non_tup (fun _ => kitAny_nil) (fun h => nomatch h)) (fun h => nomatch h)
theorem ka_list : PySem.W.kitAny K (.type "list") [.type "list", .type "tuple"] = some true := kitAny_cons kk_list_list (fun h => nomatch h) (fun _ => rfl)
end
section
variable {P : Program} {w : World} {K : PySem.W.Frag} {mg : Str → Option Value} {base : Heap}
def spSame (n : Nat) : Sp := fun vs H Q _ => ∃ x y, vs = [x, y] ∧ EqAt H n x y ∧ ∀ H', Same H H' → Q (.bl true) H'
theorem no_same (F : Fn K mg "_law_same" st__law_same []) : Cal P w K mg base CX0 0 "_law_same" (fun _ _ _ _ => False) [] := by
  obtain ⟨f, fd, F, hm⟩ := F.ex
  exact ⟨f, fd, ps__law_same, [], ⟨fun _ _ _ _ h => h.elim, fun _ _ _ _ _ _ _ _ _ _ _ _ _ h => h.elim⟩, hm, F.kp, F.bindsN (fun _ _ _ _ _ _ us hl => match us, hl with | [_, _], _ => rfl), .nil⟩
theorem ok_same0 (T : Txt K mg) (F : Fn K mg "_law_same" st__law_same []) : Cal P w K mg base CX0 1 "_law_same" (spSame 0) [] := by
  have G_l_same : Cal P w K mg base CX0 0 "_law_same" (fun _ _ _ _ => False) [] := no_same F
  refine F.cal sc__law_same ?_ (fun _ _ _ _ _ _ us hl => match us, hl with | [_, _], _ => rfl) ?_
  · rintro vs H Q E ⟨x, y, rfl, _⟩
    rfl
  rintro f cdv A outer s H vs Q E hr ⟨x, y, rfl, ⟨rfl, h⟩, q⟩
  refine ⟨_, (pss_cons (ps_if (pt_val (pe_callB call_isiT (by rfl) T.z_isinstance b_isinstance (pa_cons (pv 1) (pa_cons (pe_tup (pa_cons (gty_list T.z_list) (pa_cons (gty_tuple T.z_tuple) (pa_nil)))) (pa_nil))))) (pss_cons (ps_if (PW.pt (pw_or (pt_cmpR op_ne (pe_callB call_isi (by rfl) T.z_isinstance b_isinstance (pa_cons (pv 0) (pa_cons (gty_list T.z_list) (pa_nil)))) (pe_callB call_isi (by rfl) T.z_isinstance b_isinstance (pa_cons (pv 1) (pa_cons (gty_list T.z_list) (pa_nil)))) (nomark _)) (pw_or1 (pt_cmpR op_ne (pe_callB call_isi (by rfl) T.z_isinstance b_isinstance (pa_cons (pv 0) (pa_cons (gty_tuple T.z_tuple) (pa_nil)))) (pe_callB call_isi (by rfl) T.z_isinstance b_isinstance (pa_cons (pv 1) (pa_cons (gty_tuple T.z_tuple) (pa_nil)))) (nomark _))))) (pss_one (ps_ret pe_bl)) pss_nil)
    (pss_cons (ps_if (pt_cmpR op_ne (pe_callB call_len_seq (by rfl) T.z_len b_len (pa_cons (pv 0) (pa_nil))) (pe_callB call_len_seq (by rfl) T.z_len b_len (pa_cons (pv 1) (pa_nil))) (nomark _)) (pss_one (ps_ret pe_bl)) pss_nil)
    (pss_one (ps_ret (pe_callB (cr_all rfl) (by rfl) T.z_all b_all (pa_cons (pe_lc (own := [("_law_one", 2), ("_law_two", 3)]) (g := gTup K 2 (gCons (gName 2) (gCons (gName 3) (gNil)))) (tt := tYes) rfl sc__law_same.nd (pi_zip (by rfl) T.z_zip (pa_cons (pv 0) (pa_cons (pv 1) (pa_nil)))) (blkOk_by (N := N__law_same) (sc := defScope st__law_same) (by decide +kernel)) (fun _ _ _ _ _ => (pg_tup rfl (pgs_cons (pg_name (i := 2) sc__law_same.nd rfl (Or.inl rfl)) (pgs_cons (pg_name (i := 3) sc__law_same.nd rfl (Or.inl rfl)) (pgs_nil))))) (fun _ _ _ _ _ => pts_nil) (fun _ _ _ _ _ => (cl G_l_same hr (by decide) (pa_cons (pv 2) (pa_cons (pv 3) (pa_nil)))))) (pa_nil))))))) pss_nil)
    (pss_cons (ps_if (PW.pt (pw_or (pt_cmpR op_isN (pv 1) pe_non (nomark _)) (pw_or1 (pt_val (pe_callB call_isi (by rfl) T.z_isinstance b_isinstance (pa_cons (pv 1) (pa_cons (gty_str T.z_str) (pa_nil)))))))) (pss_one (ps_ret (pe_and (pe_cmpR op_eq (pv 0) (pv 1) (nomark _)) (pe_one (pe_cmpR op_eq (pe_callB call_isi (by rfl) T.z_isinstance b_isinstance (pa_cons (pv 0) (pa_cons (gty_str T.z_str) (pa_nil)))) (pe_callB call_isi (by rfl) T.z_isinstance b_isinstance (pa_cons (pv 1) (pa_cons (gty_str T.z_str) (pa_nil)))) (nomark _)))))) pss_nil)
    (pss_one (ps_ret (pe_and (pe_callB call_isi (by rfl) T.z_isinstance b_isinstance (pa_cons (pv 0) (pa_cons (gty_int T.z_int) (pa_nil)))) (pe_and (pe_cmpR op_eq (pe_callB call_isi (by rfl) T.z_isinstance b_isinstance (pa_cons (pv 0) (pa_cons (gty_bool T.z_bool) (pa_nil)))) (pe_callB call_isi (by rfl) T.z_isinstance b_isinstance (pa_cons (pv 1) (pa_cons (gty_bool T.z_bool) (pa_nil)))) (nomark _)) (pe_one (pe_cmpR op_eq (pv 0) (pv 1) (nomark _))))))))), ?_⟩
  rcases h with rfl | ⟨i, rfl⟩
  · refine ⟨_, rfl, (by show 2 ≤ sizeLine; decide), fun t nt => ?_⟩
    refine ⟨_, t, _, _, _, false, rfl, upd_same, .cons (.ty _) (.cons (.ty _) .nil), .base .non, ka_non, false, rfl, iteF ?_⟩
    refine ⟨_, rfl, rfl, _, rfl, iteT (iteT ?_)⟩
    refine ⟨_, rfl, _, rfl, rfl, _, rfl, iteT ?_⟩
    refine ⟨_, rfl, _, _, _, _, false, rfl, .ty _, .base .non, kk_non_str, _, rfl, _, _, _, _, false, rfl, .ty _, .base .non, kk_non_str, rfl, ?_⟩
    exact q _ (same_new nt)
  · refine ⟨_, rfl, (by show 2 ≤ sizeLine; decide), fun t nt => ?_⟩
    refine ⟨_, t, _, _, _, false, rfl, upd_same, .cons (.ty _) (.cons (.ty _) .nil), .base (.int _), ka_int, false, rfl, iteF ?_⟩
    refine ⟨_, rfl, rfl, _, rfl, iteF ?_⟩
    refine ⟨_, rfl, _, _, _, _, false, rfl, .ty _, .base (.int _), kk_int_str, false, rfl, iteF ?_⟩
    refine ⟨_, rfl, _, _, _, _, true, rfl, .ty _, .base (.int _), k_int_int, true, rfl, iteT ?_⟩
    refine ⟨_, rfl, _, _, _, _, false, rfl, .ty _, .base (.int _), k_int_bool, _, rfl, _, _, _, _, false, rfl, .ty _, .base (.int _), k_int_bool, rfl, true, rfl, iteT ?_⟩
    refine ⟨_, rfl, _, rfl, rfl, ?_⟩
    have q1 := q _ (same_new (o := .tup [.ty "list", .ty "tuple"]) nt)
    rw [← decide_eq_true (rfl : V.int i = V.int i)] at q1
    exact q1
theorem ok_sameS (n : Nat) (T : Txt K mg) (F : Fn K mg "_law_same" st__law_same []) (G_l_same : Cal P w K mg base CX0 (n + 1) "_law_same" (spSame n) []) : Cal P w K mg base CX0 (n + 2) "_law_same" (spSame (n + 1)) [] := by
  refine F.cal sc__law_same ?_ (fun _ _ _ _ _ _ us hl => match us, hl with | [_, _], _ => rfl) ?_
  · rintro vs H Q E ⟨x, y, rfl, _⟩
    rfl
  rintro f cdv A outer s H vs Q E hr ⟨x, y, rfl, ⟨a, b, xs, ys, rfl, rfl, ha, hb, hlen, hz, he⟩, q⟩
  refine ⟨_, (pss_cons (ps_if (pt_val (pe_callB call_isiT (by rfl) T.z_isinstance b_isinstance (pa_cons (pv 1) (pa_cons (pe_tup (pa_cons (gty_list T.z_list) (pa_cons (gty_tuple T.z_tuple) (pa_nil)))) (pa_nil))))) (pss_cons (ps_if (PW.pt (pw_or (pt_cmpR op_ne (pe_callB call_isi (by rfl) T.z_isinstance b_isinstance (pa_cons (pv 0) (pa_cons (gty_list T.z_list) (pa_nil)))) (pe_callB call_isi (by rfl) T.z_isinstance b_isinstance (pa_cons (pv 1) (pa_cons (gty_list T.z_list) (pa_nil)))) (nomark _)) (pw_or1 (pt_cmpR op_ne (pe_callB call_isi (by rfl) T.z_isinstance b_isinstance (pa_cons (pv 0) (pa_cons (gty_tuple T.z_tuple) (pa_nil)))) (pe_callB call_isi (by rfl) T.z_isinstance b_isinstance (pa_cons (pv 1) (pa_cons (gty_tuple T.z_tuple) (pa_nil)))) (nomark _))))) (pss_one (ps_ret pe_bl)) pss_nil)
    (pss_cons (ps_if (pt_cmpR op_ne (pe_callB call_len_seq (by rfl) T.z_len b_len (pa_cons (pv 0) (pa_nil))) (pe_callB call_len_seq (by rfl) T.z_len b_len (pa_cons (pv 1) (pa_nil))) (nomark _)) (pss_one (ps_ret pe_bl)) pss_nil)
    (pss_one (ps_ret (pe_callB (cr_all rfl) (by rfl) T.z_all b_all (pa_cons (pe_lc (own := [("_law_one", 2), ("_law_two", 3)]) (g := gTup K 2 (gCons (gName 2) (gCons (gName 3) (gNil)))) (tt := tYes) rfl sc__law_same.nd (pi_zip (by rfl) T.z_zip (pa_cons (pv 0) (pa_cons (pv 1) (pa_nil)))) (blkOk_by (N := N__law_same) (sc := defScope st__law_same) (by decide +kernel)) (fun _ _ _ _ _ => (pg_tup rfl (pgs_cons (pg_name (i := 2) sc__law_same.nd rfl (Or.inl rfl)) (pgs_cons (pg_name (i := 3) sc__law_same.nd rfl (Or.inl rfl)) (pgs_nil))))) (fun _ _ _ _ _ => pts_nil) (fun _ _ _ _ _ => (cl G_l_same hr (Nat.le_refl _) (pa_cons (pv 2) (pa_cons (pv 3) (pa_nil)))))) (pa_nil))))))) pss_nil)
    (pss_cons (ps_if (PW.pt (pw_or (pt_cmpR op_isN (pv 1) pe_non (nomark _)) (pw_or1 (pt_val (pe_callB call_isi (by rfl) T.z_isinstance b_isinstance (pa_cons (pv 1) (pa_cons (gty_str T.z_str) (pa_nil)))))))) (pss_one (ps_ret (pe_and (pe_cmpR op_eq (pv 0) (pv 1) (nomark _)) (pe_one (pe_cmpR op_eq (pe_callB call_isi (by rfl) T.z_isinstance b_isinstance (pa_cons (pv 0) (pa_cons (gty_str T.z_str) (pa_nil)))) (pe_callB call_isi (by rfl) T.z_isinstance b_isinstance (pa_cons (pv 1) (pa_cons (gty_str T.z_str) (pa_nil)))) (nomark _)))))) pss_nil)
    (pss_one (ps_ret (pe_and (pe_callB call_isi (by rfl) T.z_isinstance b_isinstance (pa_cons (pv 0) (pa_cons (gty_int T.z_int) (pa_nil)))) (pe_and (pe_cmpR op_eq (pe_callB call_isi (by rfl) T.z_isinstance b_isinstance (pa_cons (pv 0) (pa_cons (gty_bool T.z_bool) (pa_nil)))) (pe_callB call_isi (by rfl) T.z_isinstance b_isinstance (pa_cons (pv 1) (pa_cons (gty_bool T.z_bool) (pa_nil)))) (nomark _)) (pe_one (pe_cmpR op_eq (pv 0) (pv 1) (nomark _))))))))), ?_⟩
  refine ⟨_, rfl, (by show 2 ≤ sizeLine; decide), fun t nt => ?_⟩
  have s1 := same_new (o := .tup [.ty "list", .ty "tuple"]) nt
  have ha1 := s1 _ _ ha
  have hb1 := s1 _ _ hb
  refine ⟨_, t, _, _, _, true, rfl, upd_same, .cons (.ty _) (.cons (.ty _) .nil), .base (.lst hb1), ka_list, true, rfl, iteT ?_⟩
  refine ⟨_, rfl, _, _, _, _, true, rfl, .ty _, .base (.lst ha1), kk_list_list, _, rfl, _, _, _, _, true, rfl, .ty _, .base (.lst hb1), kk_list_list, rfl, _, rfl, iteF ?_⟩
  refine ⟨_, rfl, _, _, _, _, false, rfl, .ty _, .base (.lst ha1), kk_list_tup, _, rfl, _, _, _, _, false, rfl, .ty _, .base (.lst hb1), kk_list_tup, rfl, _, rfl, iteF ?_⟩
  refine ⟨_, rfl, a, xs, rfl, .inl (SqL.of ha1), _, rfl, b, ys, rfl, .inl (SqL.of hb1), rfl, _, rfl, ?_⟩
  rw [hlen, decide_eq_true rfl]
  refine iteF ?_
  refine ⟨_, rfl, _, rfl, a, b, xs, ys, rfl, SqL.of ha1, SqL.of hb1, fun D nD => ?_⟩
  refine lc_any xs.length (fun i H' => Same (upd H t (.tup [.ty "list", .ty "tuple"])) H' ∧ H' D = some (.lst (List.replicate i (.bl true)))) ⟨same_new nD, upd_same⟩ ?_ ?_ ?_ ?_
  · rintro i H' hi ⟨s2, _⟩
    exact ⟨xs, ys, xs[i], ys[i]'(by omega), SqL.of (s2 _ _ ha1), SqL.of (s2 _ _ hb1), List.getElem?_eq_getElem hi, List.getElem?_eq_getElem (by omega)⟩
  · rintro H' ⟨s2, _⟩
    exact ⟨xs, ys, SqL.of (s2 _ _ ha1), SqL.of (s2 _ _ hb1), .inl (Nat.le_refl _)⟩
  · rintro i x H1 H2 hi ⟨s2, hD⟩ ⟨p, u, v, rfl, np, rfl, hu, hv⟩
    have hu' := hu xs (SqL.of (s2 _ _ ha1))
    have hv' := hv ys (SqL.of (s2 _ _ hb1))
    have s3 := same_new (o := .tup [u, v]) np
    refine ⟨p, _, rfl, SqT.of upd_same, rfl, _, _, rfl, _, _, rfl, rfl, rfl, _, rfl, _, rfl, u, v, rfl, (he i u v hu' hv').same ((s1.trans s2).trans s3) n, fun H3 s4 => ?_⟩
    refine ⟨_, s4 _ _ (s3 _ _ hD), ?_, same_mut ((s2.trans s3).trans s4) nD, ?_⟩
    · rw [List.length_replicate]
      exact small1000 (by omega)
    · rw [upd_same, List.replicate_succ']
  · rintro H1 ⟨s2, hD⟩
    refine ⟨D, List.replicate xs.length true, rfl, SqL.of (by rw [hD, map_rep]), ?_⟩
    rw [all_rep]
    exact q _ (s1.trans s2)
end
end K18

set_option maxHeartbeats 4000000
namespace K18
open PySem PySem.Spec PyProof.Rows L2
section
variable {P : Program} {w : World} {K : PySem.W.Frag} {mg : Str → Option Value} {base : Heap}
/-! ### _law_refused -/
def spRefused (K : PySem.W.Frag) : Sp := fun vs H Q _ => ∃ (mp a : Addr) (m : Mx) (ps : List Addr) (rs : List Row) (many fixed : Nat) (each : Bool), vs = [.ref mp, .ref a, .int (many : Int), .int (fixed : Int), .bl each] ∧ MxAt K H mp m ∧ MxOk m ∧
  H a = some (.lst (ps.map V.ref)) ∧ Rows H ps rs ∧ RowsOk rs ∧ rs.length ≤ 100 ∧ many ≤ 8 ∧ ∀ H', Same H H' → Q (oV (fault many fixed rs)) H'
theorem ok_refused (T : Txt K mg) (F : Fn K mg "_law_refused" st__law_refused []) (KG_replays_mf : KCal P w K mg base (L2.CX P w) 7 "replays" (spReplays K) 2 ["many", "fixed"] (fun vs zs => vs ++ zs))
    (KG_replay_mf : KCal P w K mg base (L2.CX P w) 8 "replay" (spReplay K) 2 ["many", "fixed"] (fun vs zs => vs ++ zs)) : Cal P w K mg base CX0 9 "_law_refused" (spRefused K) [] := by
  refine F.cal sc__law_refused ?_ (fun _ _ _ _ _ _ us hl => match us, hl with | [_, _, _, _, _], _ => rfl) ?_
  · rintro vs H Q E ⟨mp, a, m, ps, rs, many, fixed, each, rfl, _⟩
    rfl
  rintro f cdv A outer s H vs Q E hr ⟨mp, a, m, ps, rs, many, fixed, each, rfl, hm, okm, ha, R, ok, hlen, hmany, q⟩
  refine ⟨_, (pss_cons (ps_set (i := 5) sc__law_refused.nd rfl (Or.inl rfl) pe_non)
    (pss_cons (ps_try_held (i := 6) rfl rfl rfl sc__law_refused.nd rfl rfl ⟨rfl, by decide, .inl T.g_BadLog⟩ (fun W pn xe tk => (pss_one (ps_if (pt_val (pv 4)) (pss_one (ps_expr (kc KG_replays_mf hr (by decide) (fun σ => passAt tk σ) (pa_cons (pv 0) (pa_cons (pv 1) (pa_nil))) (pk_cons (pv 2) (pk_cons (pv 3) pk_nil))))) (pss_one (ps_expr (kc KG_replay_mf hr (by decide) (fun σ => passAt tk σ) (pa_cons (pv 0) (pa_cons (pv 1) (pa_nil))) (pk_cons (pv 2) (pk_cons (pv 3) pk_nil)))))))) (fun a pn => (pss_one (ps_set (i := 5) sc__law_refused.nd rfl (Or.inl rfl) (pv 6)))))
    (pss_one (ps_ret (pe_ifExp (pt_cmpR op_isN (pv 5) pe_non (nomark _)) pe_non (pe_heldF T.xf T.nWhat (pv 5))))))), ?_⟩
  have raised : ∀ (i : Nat) (d : Addr) (H1 : Hp), Same H H1 → fault many fixed rs = some i → H1 d = some (.xd [("what", .int (i : Int))]) → ∀ x, H1 x = none → Q (.int (i : Int)) (upd H1 x (exH (.ref (CB K)) (some d) x)) := fun i d H1 s1 e hd x nx => by
    have q1 := q _ (same_upd (o := exH (.ref (CB K)) (some d) x) s1 nx)
    rw [e] at q1
    exact q1
  refine ⟨_, rfl, _, rfl, ?_⟩
  cases each with
  | true =>
    refine iteT ?_
    refine ⟨_, rfl, _, rfl, _, rfl, _, rfl, rfl, rfl, mp, a, m, ps, rs, many, fixed, rfl, hm, okm, .inl (SqL.of ha), R, ok, hlen, hmany, fun e H1 l qs R1 hl => ?_, fun i d H1 s1 e hd => ?_⟩
    · have q1 := q H1 R1.same
      rw [e] at q1
      exact ⟨_, rfl, rfl, _, rfl, iteT q1⟩
    · refine ⟨T.exm, fun x nx => ?_⟩
      refine ⟨_, rfl, ?_⟩
      refine ⟨_, rfl, rfl, _, rfl, iteF ⟨_, rfl, x, d, [("what", .int (i : Int))], .int (i : Int), rfl, upd_same, ?_, rfl, raised i d H1 s1 e hd x nx⟩⟩
      rw [upd_ne (ne_of_none hd nx)]
      exact hd
  | false =>
    refine iteF ?_
    refine ⟨_, rfl, _, rfl, _, rfl, _, rfl, rfl, rfl, mp, a, m, ps, rs, many, fixed, rfl, hm, okm, .inl (SqL.of ha), R, ok, hlen, hmany, fun e H1 p s1 hp0 hp => ?_, fun i d H1 s1 e hd => ?_⟩
    · have q1 := q H1 s1
      rw [e] at q1
      exact ⟨_, rfl, rfl, _, rfl, iteT q1⟩
    · refine ⟨T.exm, fun x nx => ?_⟩
      refine ⟨_, rfl, ?_⟩
      refine ⟨_, rfl, rfl, _, rfl, iteF ⟨_, rfl, x, d, [("what", .int (i : Int))], .int (i : Int), rfl, upd_same, ?_, rfl, raised i d H1 s1 e hd x nx⟩⟩
      rw [upd_ne (ne_of_none hd nx)]
      exact hd
end
end K18

set_option maxHeartbeats 4000000
namespace K18
open PySem PySem.Spec PyProof.Rows L2
theorem ff_take (many fixed : Nat) : ∀ (rs : List Row) (k i : Nat) (up : Bool), faultFrom many fixed i up rs = none → faultFrom many fixed i up (rs.take k) = none
  | [], k, _, _, _ => by rw [List.take_nil]; rfl
  | a :: rs, 0, _, _, _ => rfl
  | a :: rs, k + 1, i, up, h => by
    unfold faultFrom at h
    rw [List.take_succ_cons]
    unfold faultFrom
    by_cases c : canStand many fixed up a = true
    · rw [if_pos c] at h ⊢
      exact ff_take many fixed rs k _ _ h
    · rw [if_neg c] at h
      cases h
theorem fault_take {many fixed : Nat} {rs : List Row} (h : fault many fixed rs = none) (k : Nat) : fault many fixed (rs.take k) = none := ff_take many fixed rs k 0 false h
theorem stAt_take {m : Mx} {many k : Nat} {rs : List Row} (h : k ≤ rs.length) : stAt m many (rs.take k) (rs.take k).length = stAt m many rs k := by
  unfold stAt
  rw [List.take_length]
theorem Rows.take {H : Hp} {ps : List Addr} {rs : List Row} (R : Rows H ps rs) (k : Nat) : Rows H (ps.take k) (rs.take k) :=
  ⟨by rw [List.length_take, List.length_take, R.len], fun i p r h1 h2 => by
    rw [List.getElem?_take] at h1 h2
    by_cases c : i < k
    · rw [if_pos c] at h1 h2
      exact R.rows i p r h1 h2
    · rw [if_neg c] at h1
      cases h1⟩
theorem cut_take (ps : List Addr) (k : Nat) : cutV (ps.map V.ref) none (some (k : Int)) = (ps.take k).map V.ref := by
  unfold cutV
  rw [HT.sIx_nat]
  show ((ps.map V.ref).drop 0).take (min k (ps.map V.ref).length - 0) = _
  rw [List.drop_zero, Nat.sub_zero, List.map_take, ← List.take_take, List.take_length]
theorem eqvAll_ints : ∀ ns : List Int, PyData.eqvAll (ns.map PyData.int) (ns.map PyData.int) = true
  | [] => by simp [PyData.eqvAll]
  | n :: r => by simp [PyData.eqvAll, PyData.eqv, eqvAll_ints r]
theorem eqv_ints (ns : List Int) : PyData.eqv (.list (ns.map PyData.int)) (.list (ns.map PyData.int)) = true := by
  simp only [PyData.eqv]
  exact eqvAll_ints ns
theorem dpAll_ints {K : PySem.W.Frag} {H : Hp} : ∀ ns : List Int, DpAll K H (ns.map V.int) (ns.map PyData.int)
  | [] => .nil
  | n :: r => .cons (.int n) (dpAll_ints r)
theorem dp_ints {K : PySem.W.Frag} {H : Hp} {a : Addr} {ns : List Int} (h : H a = some (.lst (ns.map V.int))) : Dp K H (.ref a) (.list (ns.map PyData.int)) := .lst (SqL.of h) (dpAll_ints ns)
theorem rep_int (n : Nat) (i : Int) : List.replicate n (V.int i) = (List.replicate n i).map V.int := by simp
/-- [len(x) for x in l] -/
theorem lens_ok {K : PySem.W.Frag} {l : Addr} {qs : List Addr} {N : Nat} {vs : List Nat} {σ : L2.St} {H : Hp} {Q : VK} {tl : TE} (htl : ∀ Q1 : VK, Q1 (V.ref l) H → tl σ H Q1) (hl : H l = some (.lst (qs.map V.ref))) (hq : ∀ q ∈ qs, ∃ ys, H q = some (.lst ys) ∧ ys.length = N) (hz : qs.length ≤ 1000)
    (h1 : ∀ x, wipe ((wipe σ vs).set 10 (some x)) vs = wipe σ vs) (h2 : ∀ x, ((wipe σ vs).set 10 (some x))[10]? = some (some x))
    (q : ∀ D H', H D = none → Same H H' → H' D = some (.lst (List.replicate qs.length (.int (N : Int)))) → Q (.ref D) H') :
    tLc (iList K tl) (gName 10) tYes (tCB (fun xs H Q => ∃ p ys, xs = [.ref p] ∧ (SqL K H p ys ∨ SqT K H p ys) ∧ Q (.int ys.length) H) (tCons (tVar 10) tNil)) vs σ H Q := by
  refine htl _ ⟨l, rfl, ⟨_, SqL.of hl⟩, fun D nD => lc_any qs.length (fun i H' => Same H H' ∧ H' D = some (.lst (List.replicate i (.int (N : Int))))) ⟨same_new nD, upd_same⟩ ?_ ?_ ?_ ?_⟩
  · rintro i H' hi ⟨s1, _⟩
    exact ⟨_, V.ref qs[i], SqL.of (s1 _ _ hl), by rw [List.getElem?_map, List.getElem?_eq_getElem hi]; rfl⟩
  · rintro H' ⟨s1, _⟩
    exact ⟨_, SqL.of (s1 _ _ hl), by rw [List.length_map]; exact Nat.le_refl _⟩
  · rintro i x H1 H2 hi ⟨s1, hD⟩ ⟨rfl, hx⟩
    have hx' := hx _ (SqL.of (s1 _ _ hl))
    rw [List.getElem?_map, List.getElem?_eq_getElem hi] at hx'
    obtain rfl : V.ref qs[i] = x := Option.some.inj hx'
    obtain ⟨ys, hy, rfl⟩ := hq qs[i] (List.getElem_mem hi)
    refine ⟨h1 _, _, h2 _, qs[i], ys, rfl, .inl (SqL.of (s1 _ _ hy)), _, hD, ?_, same_mut s1 nD, ?_⟩
    · rw [List.length_replicate]
      exact small1000 (by omega)
    · rw [upd_same, List.replicate_succ']
  · rintro H1 ⟨s1, hD⟩
    exact q D H1 nD s1 hD
section
variable {P : Program} {w : World} {K : PySem.W.Frag} {mg : Str → Option Value} {base : Heap}
/-! ### _law_right -/
def spRight : Sp := fun vs H Q _ => ∃ (hp a : Addr) (m : Mx) (ps : List Addr) (rs : List Row) (many fixed : Nat), vs = [.ref hp, .ref a, .int (many : Int), .int (fixed : Int)] ∧ H hp = some (.tup (hwV m)) ∧ MxOk m ∧
  H a = some (.lst (ps.map V.ref)) ∧ Rows H ps rs ∧ RowsOk rs ∧ rs.length ≤ 100 ∧ many ≤ 8 ∧ fault many fixed rs = none ∧ ∀ H', Same H H' → Q (.bl true) H'
theorem ok_right (T : Txt K mg) (F : Fn K mg "_law_right" st__law_right []) (G_Mixing : KMak P w K mg base 2 "Mixing" (CM K) (spInit K) 1 ["factor"] (fun vs zs => vs ++ zs)) (G_mixed : Met P w K mg base 3 (CM K) "mixed" (spMixed K) [])
    (KG_replays_fm : KCal P w K mg base (L2.CX P w) 7 "replays" (spReplays K) 2 ["fixed", "many"] (fun vs zs => gFm vs zs)) (KG_replays_flmm : KCal P w K mg base (L2.CX P w) 7 "replays" (spReplays K) 0 ["fixed", "log", "many", "mixing"] (fun vs zs => gFl vs zs))
    (KG_replay_mf : KCal P w K mg base (L2.CX P w) 8 "replay" (spReplay K) 2 ["many", "fixed"] (fun vs zs => vs ++ zs)) (G_l_mixed : Cal P w K mg base CX0 3 "_law_mixed" spLMixed []) (G_l_same : Cal P w K mg base CX0 2 "_law_same" (spSame 1) []) (G_l_same2 : Cal P w K mg base CX0 3 "_law_same" (spSame 2) []) :
    Cal P w K mg base CX0 9 "_law_right" spRight [] := by
  refine F.cal sc__law_right ?_ (fun _ _ _ _ _ _ us hl => match us, hl with | [_, _, _, _], _ => rfl) ?_
  · rintro vs H Q E ⟨hp, a, m, ps, rs, many, fixed, rfl, _⟩
    rfl
  rintro f cdv A outer s H vs Q E hr ⟨hp, a, m, ps, rs, many, fixed, rfl, hh, okm, ha, R, ok, hlen, hmany, hf, q⟩
  refine ⟨_, (pss_cons (ps_set (i := 4) sc__law_right.nd rfl (Or.inl rfl) (kmk G_Mixing hr (by decide) (pa_cons (pe_ix ix_tup (pv 0) pe_int (fun _ _ => rfl)) (pa_nil)) (pk_cons (pe_ix ix_tup (pv 0) pe_int (fun _ _ => rfl)) pk_nil)))
    (pss_cons (ps_set (i := 5) sc__law_right.nd rfl (Or.inl rfl) (kc KG_replays_fm hr (by decide) (fun _ => none_at) (pa_cons (pv 4) (pa_cons (pv 1) (pa_nil))) (pk_cons (pv 3) (pk_cons (pv 2) pk_nil))))
    (pss_cons (ps_if (PW.pt (pw_or (pt_not (pt_val (pe_callB call_isi (by rfl) T.z_isinstance b_isinstance (pa_cons (pv 5) (pa_cons (gty_list T.z_list) (pa_nil)))))) (pw_or (pt_cmpR op_ne (pe_callB call_len_seq (by rfl) T.z_len b_len (pa_cons (pv 5) (pa_nil))) (pe_op op_add (pe_callB call_len_seq (by rfl) T.z_len b_len (pa_cons (pv 1) (pa_nil))) pe_int) (nomark _)) (pw_or1 (pt_not (pt_val (cl G_l_same hr (by decide) (pa_cons (pe_ix ix_list (pv 5) pe_int (fun _ _ => rfl)) (pa_cons (pe_op op_rep (pe_lst (pa_cons pe_int (pa_nil))) (pv 2)) (pa_nil)))))))))) (pss_one (ps_ret pe_bl)) pss_nil)
    (pss_cons (ps_for PassesOwn.never rfl (pi_enum (by rfl) T.z_enumerate (pa_cons (pv 1) (pa_nil))) (pg_tup rfl (pgs_cons (pg_name (i := 6) sc__law_right.nd rfl (Or.inl rfl)) (pgs_cons (pg_name (i := 7) sc__law_right.nd rfl (Or.inl rfl)) (pgs_nil)))) (pss_cons (ps_set (i := 8) sc__law_right.nd rfl (Or.inl rfl) (pe_ix ix_list (pe_ix ix_list (pv 5) (pv 6) (fun _ _ => rfl)) (pe_ix ix_tup (pv 7) pe_int (fun _ _ => rfl)) (fun _ _ => rfl)))
    (pss_cons (ps_set (i := 9) sc__law_right.nd rfl (Or.inl rfl) (pe_callTy call_list_of (by rfl) T.z_list b_list (pa_cons (pe_ix ix_list (pv 5) (pv 6) (fun _ _ => rfl)) (pa_nil))))
    (pss_cons (ps_asg (pe_ifExp (pt_cmpR op_eq (pe_ix ix_tup (pv 7) pe_int (fun _ _ => rfl)) pe_str (nomark _)) pe_int (cl G_l_mixed hr (by decide) (pa_cons (pv 0) (pa_cons (pv 8) (pa_cons (pv 7) (pa_nil)))))) (pg_sub (pv 9) (pe_ix ix_tup (pv 7) pe_int (fun _ _ => rfl)) set_list))
    (pss_cons (ps_if (pt_not (pt_val (cl G_l_same hr (by decide) (pa_cons (pe_ix ix_list (pv 5) (pe_op op_add (pv 6) pe_int) (fun _ _ => rfl)) (pa_cons (pv 9) (pa_nil)))))) (pss_one (ps_ret pe_bl)) pss_nil)
    (pss_cons (ps_if (pt_not (pt_val (cl G_l_same hr (by decide) (pa_cons (kc KG_replay_mf hr (by decide) (fun _ => none_at) (pa_cons (pv 4) (pa_cons (pe_slice sl_list (pv 1) po_none (po_some (pe_op op_add (pv 6) pe_int))) (pa_nil))) (pk_cons (pv 2) (pk_cons (pv 3) pk_nil))) (pa_cons (pv 9) (pa_nil)))))) (pss_one (ps_ret pe_bl)) pss_nil)
    (pss_one (ps_if (PW.pt (pw_and (pt_cmpR op_ne (pe_ix ix_tup (pv 7) pe_int (fun _ _ => rfl)) pe_str (nomark _)) (pw_and1 (pt_cmpR op_ne (ml G_mixed hr (by decide) (pv 4) (pa_cons (pv 8) (pa_cons (pv 7) (pa_nil)))) (pe_ix ix_list (pv 9) (pe_ix ix_tup (pv 7) pe_int (fun _ _ => rfl)) (fun _ _ => rfl)) (nomark _))))) (pss_one (ps_ret pe_bl)) pss_nil))))))))
    (pss_cons (ps_par (i := 11) (j := 12) rfl sc__law_right.nd rfl rfl (by decide) rfl rfl (pa_cons (kc0 KG_replays_flmm hr (by decide) (fun _ => none_at) (pk_cons (pv 3) (pk_cons (pe_callTy call_tuple_of (by rfl) T.z_tuple b_tuple (pa_cons (pv 1) (pa_nil))) (pk_cons (pv 2) (pk_cons (pv 4) pk_nil))))) (pa_cons (pe_lc (own := [("_law_one", 10)]) (g := gName 10) (tt := tYes) rfl sc__law_right.nd (pi_list (pv 5)) (blkOk_by (N := N__law_right) (sc := defScope st__law_right) (by decide +kernel)) (fun _ _ _ _ _ => (pg_name (i := 10) sc__law_right.nd rfl (Or.inl rfl))) (fun _ _ _ _ _ => pts_nil) (fun _ _ _ _ _ => (pe_callB (call_len_seqK (K := K) rfl) (by rfl) T.z_len b_len (pa_cons (pv 10) (pa_nil))))) (pa_nil))) (by rfl))
    (pss_cons (ps_if (pt_not (pt_val (cl G_l_same2 hr (by decide) (pa_cons (pv 11) (pa_cons (pv 5) (pa_nil)))))) (pss_one (ps_ret pe_bl)) pss_nil)
    (pss_cons (ps_for PassesOwn.never rfl (pi_list (pv 5)) (pg_name (i := 10) sc__law_right.nd rfl (Or.inl rfl)) (pss_one (ps_expr (pe_bm PySem.F.plainAttrs_list PySem.F.slot_list_append PySem.F.type_list_append mt_append (pv 10) (pa_cons pe_int (pa_nil))))))
    (pss_one (ps_ret (pe_and (pe_cmpR (op_eqD hr.units) (pe_lc (own := [("_law_one", 10)]) (g := gName 10) (tt := tYes) rfl sc__law_right.nd (pi_list (pv 5)) (blkOk_by (N := N__law_right) (sc := defScope st__law_right) (by decide +kernel)) (fun _ _ _ _ _ => (pg_name (i := 10) sc__law_right.nd rfl (Or.inl rfl))) (fun _ _ _ _ _ => pts_nil) (fun _ _ _ _ _ => (pe_callB (call_len_seqK (K := K) rfl) (by rfl) T.z_len b_len (pa_cons (pv 10) (pa_nil))))) (pe_lc (own := [("_law_length", 13)]) (g := gName 13) (tt := tYes) rfl sc__law_right.nd (pi_list (pv 12)) (blkOk_by (N := N__law_right) (sc := defScope st__law_right) (by decide +kernel)) (fun _ _ _ _ _ => (pg_name (i := 13) sc__law_right.nd rfl (Or.inl rfl))) (fun _ _ _ _ _ => pts_nil) (fun _ _ _ _ _ => (pe_op op_add (pv 13) pe_int))) (nomark _)) (pe_one (pe_cmpR (op_eqD hr.units) (pe_lc (own := [("_law_one", 10)]) (g := gName 10) (tt := tYes) rfl sc__law_right.nd (pi_list (pv 11)) (blkOk_by (N := N__law_right) (sc := defScope st__law_right) (by decide +kernel)) (fun _ _ _ _ _ => (pg_name (i := 10) sc__law_right.nd rfl (Or.inl rfl))) (fun _ _ _ _ _ => pts_nil) (fun _ _ _ _ _ => (pe_callB (call_len_seqK (K := K) rfl) (by rfl) T.z_len b_len (pa_cons (pv 10) (pa_nil))))) (pv 12) (nomark _))))))))))))), ?_⟩
  have nof : ∀ {rs' : List Row} {i : Nat} {X : Prop}, fault many fixed rs' = none → fault many fixed rs' = some i → X := fun h1 h2 => by
    rw [h1] at h2
    cases h2
  -- own
  refine ⟨_, rfl, hp, hwV m, _, _, rfl, rfl, SqT.of hh, atI_nat (j := 0) rfl, _, rfl, hp, hwV m, _, _, rfl, rfl, SqT.of hh, atI_nat (j := 1) rfl, rfl, rfl, fun x dx nx ndx hne => ?_⟩
  refine ⟨x, dx, m, rfl, okm, upd_same, fun H1 k1 hmx => ⟨rfl, ?_⟩⟩
  have s1 : Same H H1 := fun b o e => k1 b o (by rw [upd_ne (ne_of_none e nx), upd_ne (ne_of_none e ndx)]; exact e) (ne_of_none e nx)
  have ha1 := s1 _ _ ha
  -- found
  refine ⟨_, rfl, _, rfl, _, rfl, _, rfl, rfl, rfl, x, a, m, ps, rs, many, fixed, rfl, hmx, okm, .inl (SqL.of ha1), R.same s1, ok, hlen, hmany, fun _ H2 l qs R2 hl2 => ?_, fun i d H' _ e _ => nof hf e⟩
  have s2 : Same H H2 := s1.trans R2.same
  have ha2 := s2 _ _ ha
  have hm2 := hmx.same R2.same
  have qat : ∀ i, i ≤ rs.length → ∃ q, qs[i]? = some q ∧ H2 q = some (.lst ((stAt m many rs i).map V.int)) := fun i hi => by
    have hi' : i < qs.length := by omega
    exact ⟨qs[i], List.getElem?_eq_getElem hi', R2.rows i _ (List.getElem?_eq_getElem hi')⟩
  have qV : ∀ {i : Nat} {q : Addr}, qs[i]? = some q → (qs.map V.ref)[i]? = some (V.ref q) := fun h => by
    rw [List.getElem?_map, h]
    rfl
  refine ⟨_, rfl, _, _, _, _, true, rfl, .ty _, .base (.lst R2.lst), kk_list_list, true, rfl, iteF ?_⟩
  refine ⟨_, rfl, l, _, rfl, .inl (SqL.of R2.lst), _, rfl, a, _, rfl, .inl (SqL.of ha2), _, _, rfl, rfl, rfl, _, rfl, ?_⟩
  have e1 : (!decide (V.int ((qs.map V.ref).length : Int) = V.int (((ps.map V.ref).length : Int) + 1))) = false := by
    rw [List.length_map, List.length_map, hl2, R.len, decide_eq_true (by rw [Int.natCast_add]; rfl)]
    rfl
  show (if (!decide (V.int ((qs.map V.ref).length : Int) = V.int (((ps.map V.ref).length : Int) + 1))) = true then _ else _)
  rw [e1]
  refine iteF ?_
  obtain ⟨q0, hq0, h0⟩ := qat 0 (Nat.zero_le _)
  refine ⟨_, rfl, l, _, _, V.ref q0, rfl, rfl, SqL.of R2.lst, atI_nat (j := 0) (qV hq0), ?_⟩
  refine ⟨(by show 1 ≤ sizeLine; decide), fun p3 n3 => ⟨_, rfl, p3, (many : Int), _, rfl, rfl, upd_same, by omega, by omega, ?_, fun p4 n4 => ?_⟩⟩
  · rw [sizeLine_eq]
    show 1 * ((many : Int)).toNat ≤ _
    omega
  have s3 := same_new (o := .lst [.int 1]) n3
  have s4 := same_new (o := .lst (List.replicate ((many : Int)).toNat [V.int 1]).flatten) n4
  have e4 : (List.replicate ((many : Int)).toNat [V.int 1]).flatten = (stAt m many rs 0).map V.int := by
    rw [stAt_zero, map_rep, Int.toNat_natCast]
    simp
  refine ⟨_, _, rfl, EqAt.ints (s4 _ _ (s3 _ _ h0)) (by rw [upd_same]; exact congrArg (fun z => some (HO.lst z)) e4) (by rw [stAt_len]; omega), fun H5 s5 => ⟨true, rfl, iteF ?_⟩⟩
  have s25 : Same H2 H5 := (s3.trans s4).trans s5
  refine ⟨_, rfl, a, _, rfl, SqL.of (s25 _ _ ha2), for_enumL (K := K) (xs := ps.map V.ref) (fun i σ H' => Same H2 H' ∧ ∃ v6 v7 v8 v9 : Option V, σ = [some (.ref hp), some (.ref a), some (.int (many : Int)), some (.int (fixed : Int)), some (.ref x), some (.ref l), v6, v7, v8, v9, none, none, none, none]) ⟨s25, none, none, none, none, rfl⟩ ?_ ?_ ?_⟩
  · rintro i σ H' _ ⟨s, _⟩
    exact SqL.of (s _ _ ha2)
  · rintro i y t σ H3 hy ⟨s3, v6, v7, v8, v9, rfl⟩ nt
    obtain ⟨p, r, rfl, hpa, hr1, hp3⟩ := ((R.same s2).same s3).get hy
    have okr : RowOk r := ok r (List.mem_of_getElem? hr1)
    have hi1 : i < rs.length := (List.getElem?_eq_some_iff.mp hr1).1
    have hrb : r.b < many := fault_none hf r (List.mem_of_getElem? hr1)
    obtain ⟨qi, hqi', hqi⟩ := qat i (by omega)
    obtain ⟨q1, hq1', hq1⟩ := qat (i + 1) (by omega)
    have at1 : atI (qs.map V.ref) ((i : Int) + 1) = some (V.ref q1) := by
      rw [show ((i : Int) + 1) = ((i + 1 : Nat) : Int) by omega]
      exact atI_nat (qV hq1')
    have st := same_new (o := .tup [.int (i : Nat), .ref p]) nt
    have s4 : Same H2 _ := s3.trans st
    have hp4 : RowAt _ p r := st _ _ hp3
    have hgd : ((stAt m many rs i).map V.int)[r.b]? = some (.int ((stAt m many rs i).getD r.b 0)) := by
      have hlt : r.b < (stAt m many rs i).length := by rw [stAt_len]; exact hrb
      rw [List.getElem?_map, List.getD_eq_getElem?_getD, List.getElem?_eq_getElem hlt]
      rfl
    have hix : ixN ((stAt m many rs i).map V.int).length (r.b : Int) = some r.b := ixN_nat (by rw [List.length_map, stAt_len]; exact hrb)
    refine ⟨t, _, rfl, SqT.of upd_same, rfl, _, _, rfl, _, _, rfl, rfl, ?_⟩
    refine ⟨_, rfl, _, rfl, l, _, _, V.ref qi, rfl, rfl, SqL.of (s4 _ _ R2.lst), atI_nat (j := i) (qV hqi'), _, rfl, p, tv r, _, _, rfl, rfl, SqT.of hp4, atI_nat (j := 0) rfl, qi, _, _, _, rfl, rfl, SqL.of (s4 _ _ hqi), atI_nat (j := r.b) hgd, ?_⟩
    refine ⟨_, rfl, _, rfl, l, _, _, V.ref qi, rfl, rfl, SqL.of (s4 _ _ R2.lst), atI_nat (j := i) (qV hqi'), qi, _, rfl, .inl (SqL.of (s4 _ _ hqi)), fun D nD => ?_⟩
    have sD := same_new (o := .lst ((stAt m many rs i).map V.int)) nD
    have hp5 : RowAt _ p r := sD _ _ hp4
    have e5 : stAt m many rs (i + 1) = beh m (stAt m many rs i) r := stAt_succ hr1
    refine ⟨_, rfl, p, tv r, _, _, rfl, rfl, SqT.of hp5, atI_nat (j := 1) rfl, rfl, _, rfl, ?_⟩
    show (if decide (V.str (wordS r.w) = V.str "reset") = true then _ else _)
    rw [reset_is _ okr.hw]
    by_cases c : r.w = 4
    · rw [if_pos (decide_eq_true c)]
      refine ⟨_, rfl, _, rfl, p, tv r, _, _, rfl, rfl, SqT.of hp5, atI_nat (j := 0) rfl, D, _, _, r.b, rfl, rfl, upd_same, hix, ?_⟩
      have hD6 : upd (upd (upd H3 t (.tup [.int (i : Nat), .ref p])) D (.lst ((stAt m many rs i).map V.int))) D (.lst (((stAt m many rs i).map V.int).set r.b (.int 2))) D = some (.lst ((stAt m many rs (i + 1)).map V.int)) := by
        rw [upd_same, e5, beh, if_pos c, List.map_set]
      have s6 : Same H2 (upd (upd (upd H3 t (.tup [.int (i : Nat), .ref p])) D (.lst ((stAt m many rs i).map V.int))) D (.lst (((stAt m many rs i).map V.int).set r.b (.int 2)))) := by
        rw [upd_upd]
        exact same_upd s4 nD
      generalize upd (upd (upd H3 t (.tup [.int (i : Nat), .ref p])) D (.lst ((stAt m many rs i).map V.int))) D (.lst (((stAt m many rs i).map V.int).set r.b (.int 2))) = H6 at hD6 s6 ⊢
      obtain ⟨dx6, hm6⟩ := hm2.same s6
      have ha6 := s6 _ _ ha2
      have lst6 := s6 _ _ R2.lst
      have hq6 := s6 _ _ hqi
      have hq16 := s6 _ _ hq1
      have hr6 : RowAt H6 p r := s6 _ _ (R.same s2 |>.rows i p r hpa hr1)
      refine ⟨_, rfl, _, rfl, _, _, rfl, rfl, l, _, _, V.ref q1, rfl, rfl, SqL.of lst6, at1, _, rfl, _, _, rfl, EqAt.ints hq16 hD6 (by rw [stAt_len]; omega), fun H7 s7 => ⟨true, rfl, iteF ?_⟩⟩
      have ha7 := s7 _ _ ha6
      refine ⟨_, rfl, _, rfl, _, rfl, _, _, rfl, rfl, _, rfl, a, _, rfl, SqL.of ha7, fun p2 n2 => ?_⟩
      have s8 := same_new (o := .lst (cutV (ps.map V.ref) none (some ((i : Int) + 1)))) n2
      have s28 : Same H2 _ := (s6.trans s7).trans s8
      have hi1 : i + 1 ≤ rs.length := (List.getElem?_eq_some_iff.mp hr1).1
      refine ⟨_, rfl, _, rfl, rfl, rfl, x, p2, m, ps.take (i + 1), rs.take (i + 1), many, fixed, rfl, hm2.same s28, okm, .inl (SqL.of ?_), ((R.same s2).same s28).take (i + 1), fun z hz => ok z (List.mem_of_mem_take hz), ?_, hmany, fun _ H9 p9 s9 n9 h9 => ?_, fun j d H' _ e _ => nof (fault_take hf (i + 1)) e⟩
      · rw [upd_same, show ((i : Int) + 1) = ((i + 1 : Nat) : Int) by omega, cut_take]
      · rw [List.length_take]
        omega
      rw [stAt_take hi1] at h9
      have hD9 := s9 _ _ (s8 _ _ (s7 _ _ hD6))
      refine ⟨_, rfl, _, _, rfl, EqAt.ints h9 hD9 (by rw [stAt_len]; omega), fun H10 s10 => ⟨true, rfl, iteF ?_⟩⟩
      have s210 : Same H2 H10 := (s28.trans s9).trans s10
      have hr10 := s10 _ _ (s9 _ _ (s8 _ _ (s7 _ _ hr6)))
      have hm10 := s10 _ _ (s9 _ _ (s8 _ _ (s7 _ _ hm6)))
      have hD10 := s10 _ _ hD9
      refine ⟨_, rfl, p, tv r, _, _, rfl, rfl, SqT.of hr10, atI_nat (j := 1) rfl, rfl, _, rfl, ?_⟩
      show (if (!decide (V.str (wordS r.w) = V.str "reset")) = true then _ else _)
      rw [reset_is _ okr.hw]
      rw [decide_eq_true c]
      exact iteF ⟨s210, _, _, _, _, rfl⟩
    · rw [if_neg (by simpa using c)]
      refine ⟨_, rfl, _, rfl, _, rfl, hp, p, m, _, r, rfl, sD _ _ (s4 _ _ (s2 _ _ hh)), okm, hp5, okr, fun H5 s5 => ?_⟩
      have hp55 : RowAt H5 p r := s5 _ _ hp5
      refine ⟨_, rfl, _, rfl, p, tv r, _, _, rfl, rfl, SqT.of hp55, atI_nat (j := 0) rfl, D, _, _, r.b, rfl, rfl, s5 _ _ upd_same, hix, ?_⟩
      have hD6 : upd H5 D (.lst (((stAt m many rs i).map V.int).set r.b (.int (mix m ((stAt m many rs i).getD r.b 0) r)))) D = some (.lst ((stAt m many rs (i + 1)).map V.int)) := by
        rw [upd_same, e5, beh, if_neg c, List.map_set]
      have s6 : Same H2 (upd H5 D (.lst (((stAt m many rs i).map V.int).set r.b (.int (mix m ((stAt m many rs i).getD r.b 0) r))))) :=
        same_mut ((s4.trans sD).trans s5) (s4.free nD)
      generalize upd H5 D (.lst (((stAt m many rs i).map V.int).set r.b (.int (mix m ((stAt m many rs i).getD r.b 0) r)))) = H6 at hD6 s6 ⊢
      obtain ⟨dx6, hm6⟩ := hm2.same s6
      have ha6 := s6 _ _ ha2
      have lst6 := s6 _ _ R2.lst
      have hq6 := s6 _ _ hqi
      have hq16 := s6 _ _ hq1
      have hr6 : RowAt H6 p r := s6 _ _ (R.same s2 |>.rows i p r hpa hr1)
      refine ⟨_, rfl, _, rfl, _, _, rfl, rfl, l, _, _, V.ref q1, rfl, rfl, SqL.of lst6, at1, _, rfl, _, _, rfl, EqAt.ints hq16 hD6 (by rw [stAt_len]; omega), fun H7 s7 => ⟨true, rfl, iteF ?_⟩⟩
      have ha7 := s7 _ _ ha6
      refine ⟨_, rfl, _, rfl, _, rfl, _, _, rfl, rfl, _, rfl, a, _, rfl, SqL.of ha7, fun p2 n2 => ?_⟩
      have s8 := same_new (o := .lst (cutV (ps.map V.ref) none (some ((i : Int) + 1)))) n2
      have s28 : Same H2 _ := (s6.trans s7).trans s8
      have hi1 : i + 1 ≤ rs.length := (List.getElem?_eq_some_iff.mp hr1).1
      refine ⟨_, rfl, _, rfl, rfl, rfl, x, p2, m, ps.take (i + 1), rs.take (i + 1), many, fixed, rfl, hm2.same s28, okm, .inl (SqL.of ?_), ((R.same s2).same s28).take (i + 1), fun z hz => ok z (List.mem_of_mem_take hz), ?_, hmany, fun _ H9 p9 s9 n9 h9 => ?_, fun j d H' _ e _ => nof (fault_take hf (i + 1)) e⟩
      · rw [upd_same, show ((i : Int) + 1) = ((i + 1 : Nat) : Int) by omega, cut_take]
      · rw [List.length_take]
        omega
      rw [stAt_take hi1] at h9
      have hD9 := s9 _ _ (s8 _ _ (s7 _ _ hD6))
      refine ⟨_, rfl, _, _, rfl, EqAt.ints h9 hD9 (by rw [stAt_len]; omega), fun H10 s10 => ⟨true, rfl, iteF ?_⟩⟩
      have s210 : Same H2 H10 := (s28.trans s9).trans s10
      have hr10 := s10 _ _ (s9 _ _ (s8 _ _ (s7 _ _ hr6)))
      have hm10 := s10 _ _ (s9 _ _ (s8 _ _ (s7 _ _ hm6)))
      have hD10 := s10 _ _ hD9
      refine ⟨_, rfl, p, tv r, _, _, rfl, rfl, SqT.of hr10, atI_nat (j := 1) rfl, rfl, _, rfl, ?_⟩
      show (if (!decide (V.str (wordS r.w) = V.str "reset")) = true then _ else _)
      rw [reset_is _ okr.hw]
      rw [decide_eq_false c]
      refine iteT ⟨_, rfl, x, dx6, _, rfl, hm10, mf_mixed m, _, rfl, _, rfl, x, p, m, _, r, rfl, ⟨dx6, hm10⟩, okm, hr10, okr, ?_⟩
      have hgd2 : ((stAt m many rs (i + 1)).map V.int)[r.b]? = some (.int (mix m ((stAt m many rs i).getD r.b 0) r)) := by
        have hlt : r.b < (stAt m many rs i).length := by rw [stAt_len]; exact hrb
        rw [e5, beh, if_neg c, List.map_set, List.getElem?_set_self (by rw [List.length_map]; exact hlt)]
      refine ⟨_, rfl, _, rfl, p, tv r, _, _, rfl, rfl, SqT.of hr10, atI_nat (j := 0) rfl, D, _, _, _, rfl, rfl, SqL.of hD10, atI_nat (j := r.b) hgd2, rfl, _, rfl, ?_⟩
      show (if (!decide (V.int (mix m ((stAt m many rs i).getD r.b 0) r) = V.int (mix m ((stAt m many rs i).getD r.b 0) r))) = true then _ else _)
      rw [decide_eq_true rfl]
      exact iteF ⟨s210, _, _, _, _, rfl⟩
  rintro σ H3 ⟨s3, v6, v7, v8, v9, rfl⟩
  have s03 : Same H H3 := s2.trans s3
  have ha3 := s03 _ _ ha
  -- again, lengths
  refine ⟨_, rfl, _, rfl, a, _, rfl, .inl ⟨SqL.of ha3, fun tl ntl => ?_⟩⟩
  have s4 := same_new (o := .tup (ps.map V.ref)) ntl
  have s24 : Same H2 _ := s3.trans s4
  refine ⟨_, rfl, _, rfl, rfl, rfl, x, tl, m, ps, rs, many, fixed, rfl, hm2.same s24, okm, .inr (SqT.of upd_same), (R.same s2).same s24, ok, hlen, hmany, fun _ H5 l2 qs2 R5 hl5 => ?_, fun j d H' _ e _ => nof hf e⟩
  have s25 : Same H2 H5 := s24.trans R5.same
  have l5 := s25 _ _ R2.lst
  have q5 : ∀ i q, qs[i]? = some q → H5 q = some (.lst ((stAt m many rs i).map V.int)) := fun i q e => s25 _ _ (R2.rows i q e)
  have lenq : ∀ q ∈ qs, ∃ ys, H5 q = some (.lst ys) ∧ ys.length = many := fun q hq => by
    obtain ⟨i, hi, e⟩ := List.mem_iff_getElem.mp hq
    exact ⟨_, q5 i q (by rw [List.getElem?_eq_getElem hi, e]), by rw [List.length_map, stAt_len]⟩
  refine lens_ok (qs := qs) (fun Q1 h => ⟨_, rfl, h⟩) l5 lenq (by omega) (fun _ => rfl) (fun _ => rfl) fun D H6 nD s6 hD => ?_
  refine ⟨_, _, rfl, ?_⟩
  -- the same
  have l6 := s6 _ _ l5
  have r6 := s6 _ _ R5.lst
  refine ⟨_, rfl, _, rfl, _, _, rfl, ⟨l2, l, _, _, rfl, rfl, r6, l6, ?_, ?_, fun i u v h1 h2 => ?_⟩, fun H7 s7 => ⟨true, rfl, iteF ?_⟩⟩
  · rw [List.length_map, List.length_map, hl5, hl2]
  · rw [List.length_map]
    omega
  · rw [List.getElem?_map] at h1 h2
    cases e1 : qs2[i]? with
    | none =>
      rw [e1] at h1
      cases h1
    | some a1 =>
      cases e2 : qs[i]? with
      | none =>
        rw [e2] at h2
        cases h2
      | some a2 =>
        rw [e1] at h1
        rw [e2] at h2
        obtain rfl : V.ref a1 = u := Option.some.inj h1
        obtain rfl : V.ref a2 = v := Option.some.inj h2
        exact EqAt.ints (s6 _ _ (R5.rows i a1 e1)) (s6 _ _ (q5 i a2 e2)) (by rw [stAt_len]; omega)
  -- appended
  have s57 : Same H5 H7 := s6.trans s7
  have l7 := s57 _ _ l5
  have lq : l ∉ qs := (List.nodup_cons.mp R2.nd).1
  have nd : qs.Nodup := (List.nodup_cons.mp R2.nd).2
  refine ⟨_, rfl, l, rfl, ⟨_, SqL.of l7⟩, for_list (K := K) (xs := qs.map V.ref) (fun i σ H' => (∀ b o, H7 b = some o → b ∉ qs → H' b = some o) ∧ (∀ j q, qs[j]? = some q → H' q = some (.lst ((stAt m many rs j).map V.int ++ if j < i then [.int 7] else []))) ∧
    ∃ v10 : Option V, σ = [some (.ref hp), some (.ref a), some (.int (many : Int)), some (.int (fixed : Int)), some (.ref x), some (.ref l), v6, v7, v8, v9, v10, some (.ref l2), some (.ref D), none]) ⟨fun b o e _ => e, fun j q e => ?_, none, rfl⟩ ?_ ?_ ?_⟩
  · rw [if_neg (Nat.not_lt_zero _), List.append_nil]
    exact s57 _ _ (q5 j q e)
  · rintro i σ H' _ ⟨k1, _⟩
    exact SqL.of (k1 _ _ l7 lq)
  · rintro i y σ H8 hy ⟨k1, k2, v10, rfl⟩
    rw [List.getElem?_map] at hy
    cases e1 : qs[i]? with
    | none =>
      rw [e1] at hy
      cases hy
    | some qi =>
      rw [e1] at hy
      obtain rfl : V.ref qi = y := Option.some.inj hy
      have h8 := k2 i qi e1
      rw [if_neg (Nat.lt_irrefl _), List.append_nil] at h8
      refine ⟨_, rfl, .inl ⟨rfl, _, SqL.of h8⟩, qi, _, _, rfl, rfl, h8, ?_, fun b o e hb => ?_, fun j q e => ?_, some (.ref qi), rfl⟩
      · rw [List.length_map, stAt_len]
        exact small1000 (by omega)
      · rw [upd_ne (fun z => hb (by rw [z]; exact List.mem_of_getElem? e1))]
        exact k1 b o e hb
      · by_cases c : j = i
        · subst c
          have eq : q = qi := Option.some.inj (e.symm.trans e1)
          subst eq
          rw [upd_same, if_pos (Nat.lt_succ_self _)]
        · have ne : q ≠ qi := fun z => by
            obtain ⟨l1, m1⟩ := List.getElem?_eq_some_iff.mp e
            obtain ⟨l3, m3⟩ := List.getElem?_eq_some_iff.mp e1
            rcases Nat.lt_or_gt_of_ne c with h | h
            · exact List.pairwise_iff_getElem.mp nd _ _ l1 l3 h (by rw [m1, m3, z])
            · exact List.pairwise_iff_getElem.mp nd _ _ l3 l1 h (by rw [m1, m3, z])
          rw [upd_ne ne, k2 j q e]
          by_cases d : j < i
          · rw [if_pos d, if_pos (by omega)]
          · rw [if_neg d, if_neg (by omega)]
  · rintro σ H8 ⟨k1, k2, v10, rfl⟩
    have s08 : Same H H8 := fun b o e => k1 b o (s57 _ _ (R5.same _ _ (s4 _ _ (s03 _ _ e)))) (fun hb => by
      have := R2.fp b hb
      rw [s1 _ _ e] at this
      cases this)
    have n5 : ∀ b, H5 b = none → b ∉ qs := fun b e hb => by
      obtain ⟨ys, h, _⟩ := lenq b hb
      rw [h] at e
      cases e
    have n4 : ∀ b, upd H3 tl (.tup (ps.map V.ref)) b = none → b ∉ qs := fun b e hb => by
      obtain ⟨i, hi, e2⟩ := List.mem_iff_getElem.mp hb
      rw [s24 _ _ (R2.rows i b (by rw [List.getElem?_eq_getElem hi, e2]))] at e
      cases e
    have l8 := k1 _ _ l7 lq
    have hD8 := k1 _ _ (s7 _ _ hD) (n5 D nD)
    have r8 := k1 _ _ (s7 _ _ r6) (n4 l2 R5.fl)
    have len8 : ∀ q ∈ qs, ∃ ys, H8 q = some (.lst ys) ∧ ys.length = many + 1 := fun q hq => by
      obtain ⟨i, hi, e⟩ := List.mem_iff_getElem.mp hq
      have h8 := k2 i q (by rw [List.getElem?_eq_getElem hi, e])
      rw [if_pos (by rw [List.length_map]; exact hi)] at h8
      exact ⟨_, h8, by rw [List.length_append, List.length_map, stAt_len]; rfl⟩
    have len28 : ∀ q ∈ qs2, ∃ ys, H8 q = some (.lst ys) ∧ ys.length = many := fun q hq => by
      obtain ⟨i, hi, e⟩ := List.mem_iff_getElem.mp hq
      exact ⟨_, k1 _ _ (s57 _ _ (R5.rows i q (by rw [List.getElem?_eq_getElem hi, e]))) (n4 q (R5.fp q hq)), by rw [List.length_map, stAt_len]⟩
    unfold tRet tAndV
    dsimp only
    change tLc _ _ _ _ _ _ _ _
    refine lens_ok (qs := qs) (fun Q1 h => ⟨_, rfl, h⟩) l8 len8 (by omega) (fun _ => rfl) (fun _ => rfl) fun D1 H9 nD1 s9 hD1 => ?_
    have hD9 := s9 _ _ hD8
    refine ⟨_, rfl, D, rfl, ⟨_, SqL.of hD9⟩, fun D2 nD2 => lc_any qs.length (fun i H' => Same H9 H' ∧ H' D2 = some (.lst (List.replicate i (.int ((many + 1 : Nat) : Int))))) ⟨same_new nD2, upd_same⟩ ?_ ?_ ?_ ?_⟩
    · rintro i H' hi ⟨s10, _⟩
      exact ⟨_, .int (many : Int), SqL.of (s10 _ _ hD9), by rw [List.getElem?_replicate, if_pos hi]⟩
    · rintro H' ⟨s10, _⟩
      exact ⟨_, SqL.of (s10 _ _ hD9), by rw [List.length_replicate]; exact Nat.le_refl _⟩
    · rintro i y H10 H11 hi ⟨s10, h10⟩ ⟨rfl, hy⟩
      have hy' := hy _ (SqL.of (s10 _ _ hD9))
      rw [List.getElem?_replicate, if_pos hi] at hy'
      obtain rfl : V.int (many : Int) = y := Option.some.inj hy'
      refine ⟨rfl, _, rfl, _, _, rfl, rfl, _, h10, ?_, same_mut s10 nD2, ?_⟩
      · rw [List.length_replicate]
        exact small1000 (by omega)
      · rw [upd_same, List.replicate_succ', Int.natCast_add]
        rfl
    rintro H10 ⟨s10, h10⟩
    have e1 := s10 _ _ hD1
    rw [rep_int] at e1 h10
    refine ⟨_, _, dp_ints e1, dp_ints h10, PySem.W.shaped_ints _, PySem.W.shaped_ints _, true, ?_, iteT ?_⟩
    · rw [eqv_ints]
    have s810 := s9.trans s10
    refine lens_ok (qs := qs2) (fun Q1 h => ⟨_, rfl, h⟩) (s810 _ _ r8) (fun q hq => by
      obtain ⟨ys, h, hl⟩ := len28 q hq
      exact ⟨ys, s810 _ _ h, hl⟩) (by omega) (fun _ => rfl) (fun _ => rfl) fun D3 H11 nD3 s11 hD3 => ?_
    have hD11 := s11 _ _ (s810 _ _ hD8)
    rw [hl5, rep_int] at hD3
    rw [hl2, rep_int] at hD11
    refine ⟨_, rfl, _, _, dp_ints hD3, dp_ints hD11, PySem.W.shaped_ints _, PySem.W.shaped_ints _, ?_⟩
    rw [eqv_ints]
    exact q _ ((s08.trans s810).trans s11)
end
end K18

set_option maxHeartbeats 4000000
namespace K18
open PySem PySem.Spec PyProof.Rows L2
theorem iteB {c : Bool} {A B : Prop} (ha : c = true → A) (hb : c = false → B) : if c = true then A else B := by
  cases c with
  | true => exact iteT (ha rfl)
  | false => exact iteF (hb rfl)
/-- each of these is a row -/
def Good (H : Hp) (xs : List V) : Prop := ∀ x ∈ xs, ∃ p r, x = .ref p ∧ RowAt H p r ∧ RowOk r
theorem Good.same {H H' : Hp} {xs : List V} (g : Good H xs) (s : Same H H') : Good H' xs := fun x hx => by
  obtain ⟨p, r, e, h, k⟩ := g x hx
  exact ⟨p, r, e, s _ _ h, k⟩
theorem row_dr {b p : Addr} {n m : Nat} {H H' : Hp} {r : Row} (hb : Bx b n H) (d : Dr b m H H') (h : RowAt H p r) : RowAt H' p r := d.kp p _ (fun z => by
  obtain ⟨x, y, c, eb, _⟩ := hb
  have e' : H p = some (.tup (tv r)) := h
  rw [z, eb] at e'
  cases e') h
theorem Good.dr {b : Addr} {n m : Nat} {H H' : Hp} {xs : List V} (g : Good H xs) (hb : Bx b n H) (d : Dr b m H H') : Good H' xs := fun x hx => by
  obtain ⟨p, r, e, h, k⟩ := g x hx
  exact ⟨p, r, e, row_dr hb d h, k⟩
theorem Good.sub {H : Hp} {xs ys : List V} (g : Good H xs) (s : ∀ y ∈ ys, y ∈ xs) : Good H ys := fun y hy => g y (s y hy)
theorem Good.app {H : Hp} {xs ys : List V} (g : Good H xs) (k : Good H ys) : Good H (xs ++ ys) := fun x hx => (List.mem_append.mp hx).elim (g x) (k x)
theorem mem_cut {xs : List V} {lo hi : Option Int} {y : V} (h : y ∈ cutV xs lo hi) : y ∈ xs := List.mem_of_mem_drop (List.mem_of_mem_take h)
theorem Good.cut {H : Hp} {xs : List V} (g : Good H xs) (lo hi : Option Int) : Good H (cutV xs lo hi) := g.sub fun _ h => mem_cut h
theorem Good.one {H : Hp} {p : Addr} {r : Row} (h : RowAt H p r) (k : RowOk r) : Good H [.ref p] := fun x hx => by
  rw [List.mem_singleton.mp hx]
  exact ⟨p, r, rfl, h, k⟩
theorem Good.rows {H : Hp} : ∀ {xs : List V}, Good H xs → ∃ ps rs, xs = ps.map V.ref ∧ Rows H ps rs ∧ RowsOk rs
  | [], _ => ⟨[], [], rfl, ⟨rfl, fun i p r h => by simp at h⟩, fun _ h => nomatch h⟩
  | x :: xs, g => by
    obtain ⟨p, r, rfl, h, k⟩ := g x List.mem_cons_self
    obtain ⟨ps, rs, rfl, R, ok⟩ := Good.rows (xs := xs) fun y hy => g y (List.mem_cons_of_mem _ hy)
    refine ⟨p :: ps, r :: rs, rfl, ⟨by rw [List.length_cons, List.length_cons, R.len], fun i q y h1 h2 => ?_⟩, fun y hy => ?_⟩
    · cases i with
      | zero =>
        have e1 : p = q := Option.some.inj h1
        have e2 : r = y := Option.some.inj h2
        rw [← e1, ← e2]
        exact h
      | succ i => exact R.rows i q y h1 h2
    · rcases List.mem_cons.mp hy with rfl | hy
      · exact k
      · exact ok y hy
theorem Rows.good {H : Hp} {ps : List Addr} {rs : List Row} (R : Rows H ps rs) (ok : RowsOk rs) : Good H (ps.map V.ref) := fun x hx => by
  obtain ⟨i, hi, e⟩ := List.mem_iff_getElem.mp hx
  obtain ⟨p, r, e2, _, h2, h3⟩ := R.get (x := x) (i := i) (by rw [List.getElem?_eq_getElem hi, e])
  exact ⟨p, r, e2, h3, ok r (List.mem_of_getElem? h2)⟩
/-- x[:i] + [y] + x[j:] -/
theorem cat3 {K : PySem.W.Frag} {b l : Addr} {n : Nat} {xs : List V} {i j : Int} {σ : L2.St} {H : Hp} {Q : VK} {tx1 ti ty tx2 tj : TE} (hb : Bx b (n + 1) H) (lb : l ≠ b) (hl : H l = some (.lst xs)) (hz : xs.length ≤ 60) (G : Good H xs)
    (h1 : ∀ H1 Q1, Q1 (V.ref l) H1 → tx1 σ H1 Q1) (hi : ∀ H1 Q1, Q1 (V.int i) H1 → ti σ H1 Q1)
    (hy : ∀ H1 Q1, Same H H1 → Bx b (n + 1) H1 → (∀ y H2, Dr b n H1 H2 → Good H2 [y] → Q1 y H2) → ty σ H1 Q1)
    (h2 : ∀ H1 Q1, Q1 (V.ref l) H1 → tx2 σ H1 Q1) (hj : ∀ H1 Q1, Q1 (V.int j) H1 → tj σ H1 Q1)
    (q : ∀ p zs H', H' p = some (.lst zs) → Good H' zs → zs.length ≤ 2 * xs.length + 1 → Dr b n H H' → H p = none → Q (.ref p) H') :
    tOp rCat (tOp rCat (tSl (rSlL K) tx1 tNoPart (tPart ti)) (tLst (tCons ty tNil))) (tSl (rSlL K) tx2 (tPart tj) tNoPart) σ H Q := by
  refine h1 _ _ (hi _ _ ⟨i, rfl, l, xs, rfl, SqL.of hl, fun p1 n1 => ?_⟩)
  have s1 := same_new (o := .lst (cutV xs none (some i))) n1
  have b1 := hb.same s1
  have p1b := hb.ne n1
  refine hy _ _ s1 b1 fun y H2 d2 gy => ?_
  refine ⟨(by show 1 ≤ sizeLine; decide), fun p2 n2 => ?_⟩
  have s2 := same_new (o := .lst [y]) n2
  have k1 := s2 _ _ (d2.kp p1 _ p1b upd_same)
  have c1 := cutV_length xs none (some i)
  have c2 := cutV_length xs (some j) none
  refine ⟨p1, p2, _, _, rfl, rfl, k1, upd_same, ?_, fun p3 n3 => ?_⟩
  · rw [sizeLine_eq, List.length_singleton]
    omega
  have s3 := same_new (o := .lst (cutV xs none (some i) ++ [y])) n3
  have hl3 := s3 _ _ (s2 _ _ (d2.kp l _ lb (s1 _ _ hl)))
  refine h2 _ _ (hj _ _ ⟨j, rfl, l, xs, rfl, SqL.of hl3, fun p4 n4 => ?_⟩)
  have s4 := same_new (o := .lst (cutV xs (some j) none)) n4
  refine ⟨p3, p4, _, _, rfl, rfl, s4 _ _ upd_same, upd_same, ?_, fun p5 n5 => ?_⟩
  · rw [sizeLine_eq, List.length_append, List.length_singleton]
    omega
  have s5 := same_new (o := .lst (cutV xs none (some i) ++ [y] ++ cutV xs (some j) none)) n5
  have d5 : Dr b n H _ := (((d2.pre s1).same s2).same s3).same s4
  have g5 : Good _ xs := G.dr hb (d5.same s5)
  refine q p5 _ _ upd_same (((g5.cut none (some i)).app (gy.same (((s2.trans s3).trans s4).trans s5))).app (g5.cut (some j) none)) ?_ (d5.same s5) (d5.free n5)
  rw [List.length_append, List.length_append, List.length_singleton]
  omega
theorem Good.updL {H : Hp} {D : Addr} {zs xs : List V} {o : HO} (g : Good H xs) (h : H D = some (.lst zs)) : Good (upd H D o) xs := fun x hx => by
  obtain ⟨p, r, e, k, ok⟩ := g x hx
  refine ⟨p, r, e, ?_, ok⟩
  show upd H D o p = _
  rw [upd_ne (fun z => by
    have e' : H p = some (.tup (tv r)) := k
    rw [z, h] at e'
    cases e')]
  exact k
section
variable {P : Program} {w : World} {K : PySem.W.Frag} {mg : Str → Option Value} {base : Heap}
/-! ### _law_bent_log -/
def spBent : Sp := fun vs H Q _ => ∃ (b l a : Addr) (xs : List V) (ns : List (List Nat)) (m kept n : Nat), vs = [.ref b, .ref l, .ref a, .int (m : Int), .int (kept : Int)] ∧ l ≠ b ∧ H l = some (.lst xs) ∧ Good H xs ∧ xs.length ≤ 14 ∧
  a ≠ b ∧ H a = some (.lst (nmsV ns)) ∧ NmsOk ns ∧ 0 < ns.length ∧ ns.length ≤ 1000 ∧ 0 < m ∧ m ≤ 8 ∧ kept ≤ m ∧ Bx b (n + 10) H ∧
  ∀ p zs H', H' p = some (.lst zs) → Good H' zs → zs.length ≤ 100 → Dr b n H H' → H p = none → Q (.ref p) H'
theorem five_words : ∀ v < 5, wordV[v]? = some (.str (wordS v)) := wordV_at
theorem ok_bent (T : Txt K mg) (F : Fn K mg "_law_bent_log" st__law_bent_log []) (G_l_take : Cal P w K mg base CX0 1 "_law_take" spTake []) (G_l_row : Cal P w K mg base CX0 3 "_law_row" spLRw []) : Cal P w K mg base CX0 4 "_law_bent_log" spBent [] := by
  refine F.cal sc__law_bent_log ?_ (fun _ _ _ _ _ _ us hl => match us, hl with | [_, _, _, _, _], _ => rfl) ?_
  · rintro vs H Q E ⟨b, l, a, xs, ns, m, kept, n, rfl, _⟩
    rfl
  rintro f cdv A outer s H vs Q E hr ⟨b, l, a, xs, ns, m, kept, n, rfl, lb, hl, G, hxl, hab, ha, hns, hn0, hn1, hm0, hm8, hkm, hb, q⟩
  refine ⟨_, (pss_cons (ps_asg (pe_tup (pa_cons (cl G_l_take hr (by decide) (pa_cons (pv 0) (pa_cons pe_int (pa_nil)))) (pa_cons (cl G_l_take hr (by decide) (pa_cons (pv 0) (pa_cons (pe_op op_add (pe_callB call_len_seq (by rfl) T.z_len b_len (pa_cons (pv 1) (pa_nil))) pe_int) (pa_nil)))) (pa_cons (cl G_l_take hr (by decide) (pa_cons (pv 0) (pa_cons (pe_op op_add (pe_callB call_len_seq (by rfl) T.z_len b_len (pa_cons (pv 1) (pa_nil))) pe_int) (pa_nil)))) (pa_nil))))) (pg_tup rfl (pgs_cons (pg_name (i := 5) sc__law_bent_log.nd rfl (Or.inl rfl)) (pgs_cons (pg_name (i := 6) sc__law_bent_log.nd rfl (Or.inr rfl)) (pgs_cons (pg_name (i := 7) sc__law_bent_log.nd rfl (Or.inr rfl)) (pgs_nil))))))
    (pss_cons (ps_set (i := 8) sc__law_bent_log.nd rfl (Or.inl rfl) (pe_ix ix_list (pe_lst (pa_cons pe_str (pa_cons pe_str (pa_cons pe_str (pa_cons pe_str (pa_cons pe_str (pa_nil))))))) (cl G_l_take hr (by decide) (pa_cons (pv 0) (pa_cons pe_int (pa_nil)))) (fun _ _ => rfl)))
    (pss_cons (ps_set (i := 9) sc__law_bent_log.nd rfl (Or.inl rfl) (cl G_l_row hr (by decide) (pa_cons (pv 0) (pa_cons (pv 2) (pa_cons (pv 8) (pa_cons (pe_callB (call_min2 rfl) (by rfl) T.z_min b_min (pa_cons pe_int (pa_cons (pe_op op_add (pv 3) pe_int) (pa_nil)))) (pa_nil)))))))
    (pss_cons (ps_if (PW.pt (pw_or (pt_cmpR op_eq (pv 5) pe_int (nomark _)) (pw_or (pt_cmpR op_eq (pv 6) (pe_callB call_len_seq (by rfl) T.z_len b_len (pa_cons (pv 1) (pa_nil))) (nomark _)) (pw_or1 (pt_cmpR op_eq (pv 7) (pe_callB call_len_seq (by rfl) T.z_len b_len (pa_cons (pv 1) (pa_nil))) (nomark _)))))) (pss_one (ps_ret (pe_op op_cat (pe_op op_cat (pe_slice sl_list (pv 1) po_none (po_some (pv 6))) (pe_lst (pa_cons (pv 9) (pa_nil)))) (pe_slice sl_list (pv 1) (po_some (pv 6)) po_none)))) pss_nil)
    (pss_cons (ps_asg (pe_tup (pa_cons (pe_ix ix_list (pv 1) (pv 6) (fun _ _ => rfl)) (pa_cons (pe_op op_cat (pe_slice sl_list (pv 1) po_none (po_some (pv 6))) (pe_slice sl_list (pv 1) (po_some (pe_op op_add (pv 6) pe_int)) po_none)) (pa_nil)))) (pg_tup rfl (pgs_cons (pg_name (i := 10) sc__law_bent_log.nd rfl (Or.inr rfl)) (pgs_cons (pg_name (i := 11) sc__law_bent_log.nd rfl (Or.inl rfl)) (pgs_nil)))))
    (pss_cons (ps_if (pt_cmpR op_eq (pv 5) pe_int (nomark _)) (pss_one (ps_ret (pv 11))) pss_nil)
    (pss_cons (ps_if (pt_cmpR op_eq (pv 5) pe_int (nomark _)) (pss_one (ps_ret (pe_lc (own := [("_law_k", 12), ("_law_one", 13)]) (g := gTup K 2 (gCons (gName 12) (gCons (gName 13) (gNil)))) (tt := tYes) rfl sc__law_bent_log.nd (pi_enum (by rfl) T.z_enumerate (pa_cons (pv 1) (pa_nil))) (blkOk_by (N := N__law_bent_log) (sc := defScope st__law_bent_log) (by decide +kernel)) (fun _ _ _ _ _ => (pg_tup rfl (pgs_cons (pg_name (i := 12) sc__law_bent_log.nd rfl (Or.inl rfl)) (pgs_cons (pg_name (i := 13) sc__law_bent_log.nd rfl (Or.inl rfl)) (pgs_nil))))) (fun _ _ _ _ _ => pts_nil) (fun _ _ _ _ _ => (pe_ifExp (pt_cmpR op_eq (pv 12) (pv 6) (nomark _)) (pe_ix (ix_listK (K := K) rfl) (pv 1) (pv 7) (fun _ _ => rfl)) (pe_ifExp (pt_cmpR op_eq (pv 12) (pv 7) (nomark _)) (pv 10) (pv 13))))))) pss_nil)
    (pss_cons (ps_if (pt_cmpR op_eq (pv 5) pe_int (nomark _)) (pss_one (ps_ret (pe_op op_cat (pe_op op_cat (pe_slice sl_list (pv 1) po_none (po_some (pv 6))) (pe_lst (pa_cons (pv 10) (pa_nil)))) (pe_slice sl_list (pv 1) (po_some (pv 6)) po_none)))) pss_nil)
    (pss_cons (ps_if (pt_cmpR op_eq (pv 5) pe_int (nomark _)) (pss_one (ps_ret (pe_op op_cat (pe_op op_cat (pe_slice sl_list (pv 1) po_none (po_some (pv 6))) (pe_lst (pa_cons (pe_tup (pa_cons (pe_ix ix_tup (pv 10) pe_int (fun _ _ => rfl)) (pa_cons (pv 8) (pa_cons (pe_ix ix_tup (pv 10) pe_int (fun _ _ => rfl)) (pa_cons (pe_ifExp (pt_cmpR op_in_seq (pv 8) (pe_tup (pa_cons pe_str (pa_cons pe_str (pa_nil)))) (by rfl)) pe_int (pe_ix ix_tup (pv 10) pe_int (fun _ _ => rfl))) (pa_nil)))))) (pa_nil)))) (pe_slice sl_list (pv 1) (po_some (pe_op op_add (pv 6) pe_int)) po_none)))) pss_nil)
    (pss_cons (ps_if (pt_cmpR op_eq (pv 5) pe_int (nomark _)) (pss_one (ps_ret (pe_op op_cat (pe_op op_cat (pe_slice sl_list (pv 1) po_none (po_some (pv 6))) (pe_lst (pa_cons (pe_op op_catA (pe_tup (pa_cons (pe_ix ix_list (pe_lst (pa_cons (pe_op op_mod (pv 3) pe_int) (pa_cons (pe_callB (call_max2 rfl) (by rfl) T.z_max b_max (pa_cons pe_int (pa_cons (pe_op op_sub (pv 4) pe_int) (pa_nil)))) (pa_cons (pe_op op_sub (pv 3) pe_int) (pa_nil))))) (cl G_l_take hr (by decide) (pa_cons (pv 0) (pa_cons pe_int (pa_nil)))) (fun _ _ => rfl)) (pa_nil))) (pe_slice sl_tupA (pv 10) (po_some pe_int) po_none)) (pa_nil)))) (pe_slice sl_list (pv 1) (po_some (pe_op op_add (pv 6) pe_int)) po_none)))) pss_nil)
    (pss_one (ps_ret (pe_op op_cat (pe_op op_cat (pe_slice sl_list (pv 11) po_none (po_some (pv 7))) (pe_lst (pa_cons (pv 10) (pa_nil)))) (pe_slice sl_list (pv 11) (po_some (pv 7)) po_none)))))))))))))), ?_⟩
  refine ⟨_, rfl, b, 8, n + 9, rfl, by decide, by decide, hb, fun way H1 hway d1 => ?_⟩
  refine ⟨_, rfl, _, rfl, l, _, rfl, .inl (SqL.of (d1.kp l _ lb hl)), _, _, rfl, rfl, b, xs.length + 1, n + 8, rfl, by omega, by omega, d1.bx, fun at_ H2 hat d2 => ?_⟩
  have d2' := d1.trans d2
  refine ⟨_, rfl, _, rfl, l, _, rfl, .inl (SqL.of (d2'.kp l _ lb hl)), _, _, rfl, rfl, b, xs.length + 1, n + 7, rfl, by omega, by omega, d2'.bx, fun to H3 hto d3 => ?_⟩
  have d3' := d2'.trans d3
  refine ⟨(by show 3 ≤ sizeLine; decide), fun t1 ht1 => ?_⟩
  have d4 := d3'.new (o := .tup [.int (way : Int), .int (at_ : Int), .int (to : Int)]) ht1
  refine ⟨t1, _, rfl, SqT.of upd_same, rfl, _, _, rfl, _, _, rfl, _, _, rfl, rfl, ?_⟩
  refine ⟨(by show 5 ≤ sizeLine; decide), fun t2 ht2 => ?_⟩
  have d5 := d4.new (o := .lst wordV) ht2
  have t2b := d4.bx.ne ht2
  refine ⟨_, rfl, b, 5, n + 6, rfl, by decide, by decide, d5.bx, fun wd H4 hwd d6 => ?_⟩
  refine ⟨t2, _, _, _, rfl, rfl, SqL.of (d6.kp t2 _ t2b upd_same), atI_nat (j := wd) (wordV_at wd hwd), ?_⟩
  have d6' := d5.trans d6
  obtain ⟨m2, em2, hm20, hm28⟩ : ∃ m2 : Nat, (if (m : Int) + 1 < 8 then (m : Int) + 1 else 8) = (m2 : Int) ∧ 0 < m2 ∧ m2 ≤ 8 := by
    split
    · exact ⟨m + 1, by omega, by omega, by omega⟩
    · exact ⟨8, rfl, by omega, by omega⟩
  refine ⟨_, rfl, _, rfl, _, rfl, _, rfl, _, _, rfl, rfl, 8, _, rfl, ?_⟩
  refine ⟨b, a, ns, wd, m2, n + 1, ?_, hab, d6'.kp a _ hab ha, hns, hn0, hn1, hwd, hm20, hm28, d6'.bx, fun mp mr H5 hmp okr hmw hmb d7 hmf => ?_⟩
  · show [V.ref b, V.ref a, V.str (wordS wd), V.int (if (m : Int) + 1 < 8 then (m : Int) + 1 else 8)] = _
    rw [em2]
  have d8 := d6'.trans d7
  refine ⟨_, rfl, rfl, _, rfl, ?_⟩
  refine iteB (fun _ => ?_) (fun _ => ?_)
  · refine iteT ?_
    unfold tRet
    dsimp only
    exact cat3 d8.bx lb (d8.kp l _ lb hl) (by omega) (G.dr hb d8) (fun _ _ h => ⟨_, rfl, h⟩) (fun _ _ h => ⟨_, rfl, h⟩) (fun H7 Q7 s7 b7 h7 => ⟨_, rfl, h7 _ H7 (Dr.here (b7.le (by omega))) (Good.one (s7 _ _ hmp) okr)⟩) (fun _ _ h => ⟨_, rfl, h⟩) (fun _ _ h => ⟨_, rfl, h⟩) fun p zs H' e1 e2 e3 e4 e5 => q p zs H' e1 e2 (by omega) (d8.trans e4) (d8.free e5)
  refine ⟨_, rfl, _, rfl, l, xs, rfl, .inl (SqL.of (d8.kp l _ lb hl)), rfl, _, rfl, ?_⟩
  refine iteB (fun _ => ?_) (fun ea => ?_)
  · refine iteT ?_
    unfold tRet
    dsimp only
    exact cat3 d8.bx lb (d8.kp l _ lb hl) (by omega) (G.dr hb d8) (fun _ _ h => ⟨_, rfl, h⟩) (fun _ _ h => ⟨_, rfl, h⟩) (fun H7 Q7 s7 b7 h7 => ⟨_, rfl, h7 _ H7 (Dr.here (b7.le (by omega))) (Good.one (s7 _ _ hmp) okr)⟩) (fun _ _ h => ⟨_, rfl, h⟩) (fun _ _ h => ⟨_, rfl, h⟩) fun p zs H' e1 e2 e3 e4 e5 => q p zs H' e1 e2 (by omega) (d8.trans e4) (d8.free e5)
  refine ⟨_, rfl, _, rfl, l, xs, rfl, .inl (SqL.of (d8.kp l _ lb hl)), rfl, _, rfl, ?_⟩
  refine iteB (fun _ => ?_) (fun et => ?_)
  ·
    unfold tRet
    dsimp only
    exact cat3 d8.bx lb (d8.kp l _ lb hl) (by omega) (G.dr hb d8) (fun _ _ h => ⟨_, rfl, h⟩) (fun _ _ h => ⟨_, rfl, h⟩) (fun H7 Q7 s7 b7 h7 => ⟨_, rfl, h7 _ H7 (Dr.here (b7.le (by omega))) (Good.one (s7 _ _ hmp) okr)⟩) (fun _ _ h => ⟨_, rfl, h⟩) (fun _ _ h => ⟨_, rfl, h⟩) fun p zs H' e1 e2 e3 e4 e5 => q p zs H' e1 e2 (by omega) (d8.trans e4) (d8.free e5)
  have at1 : at_ < xs.length := by
    have := of_decide_eq_false ea
    have : at_ ≠ xs.length := fun z => this (by rw [z])
    omega
  have to1 : to < xs.length := by
    have := of_decide_eq_false et
    have : to ≠ xs.length := fun z => this (by rw [z])
    omega
  have l5 := d8.kp l _ lb hl
  have G5 := G.dr hb d8
  have hx : xs[at_]? = some xs[at_] := List.getElem?_eq_getElem at1
  obtain ⟨rp, r, erp, hrp, okrp⟩ := G5 xs[at_] (List.getElem_mem at1)
  rw [erp] at hx
  refine ⟨_, rfl, _, rfl, l, xs, _, _, rfl, rfl, SqL.of l5, atI_nat (j := at_) hx, _, rfl, _, rfl, _, rfl, l, xs, rfl, SqL.of l5, fun p1 n1 => ?_⟩
  have s1 := same_new (o := .lst (cutV xs none (some (at_ : Int)))) n1
  refine ⟨_, rfl, _, rfl, _, _, rfl, rfl, _, rfl, l, xs, rfl, SqL.of (s1 _ _ l5), fun p2 n2 => ?_⟩
  have s2 := same_new (o := .lst (cutV xs (some ((at_ : Int) + 1)) none)) n2
  have c1 := cutV_length xs none (some (at_ : Int))
  have c2 := cutV_length xs (some ((at_ : Int) + 1)) none
  refine ⟨p1, p2, _, _, rfl, rfl, s2 _ _ upd_same, upd_same, ?_, fun p3 n3 => ?_⟩
  · rw [sizeLine_eq]
    omega
  have s3 := same_new (o := .lst (cutV xs none (some (at_ : Int)) ++ cutV xs (some ((at_ : Int) + 1)) none)) n3
  refine ⟨(by show 2 ≤ sizeLine; decide), fun t3 n4 => ?_⟩
  have s4 := same_new (o := .tup [.ref rp, .ref p3]) n4
  refine ⟨t3, _, rfl, SqT.of upd_same, rfl, _, _, rfl, _, _, rfl, rfl, ?_⟩
  have s14 := ((s1.trans s2).trans s3).trans s4
  have p3f := d8.free ((s1.trans s2).free n3)
  have p3b : p3 ≠ b := d8.bx.ne ((s1.trans s2).free n3)
  have p3h := s4 p3 _ upd_same
  have d9 := d8.same s14
  have l6 := s14 _ _ l5
  have G6 := G5.same s14
  have hrp6 : RowAt _ rp r := s14 _ _ hrp
  have gr := (G6.cut none (some (at_ : Int))).app (G6.cut (some ((at_ : Int) + 1)) none)
  generalize upd (upd (upd (upd H5 p1 (.lst (cutV xs none (some (at_ : Int))))) p2 (.lst (cutV xs (some ((at_ : Int) + 1)) none))) p3 (.lst (cutV xs none (some (at_ : Int)) ++ cutV xs (some ((at_ : Int) + 1)) none))) t3 (.tup [.ref rp, .ref p3]) = H6 at p3h d9 l6 G6 hrp6 gr
  have rl : (cutV xs none (some (at_ : Int)) ++ cutV xs (some ((at_ : Int) + 1)) none).length ≤ 28 := by
    rw [List.length_append]
    omega
  generalize cutV xs none (some (at_ : Int)) ++ cutV xs (some ((at_ : Int) + 1)) none = rest at p3h gr rl
  have cat_r : ∀ (i j : Int) {σ : L2.St} {ty tj : TE} {tx1 ti tx2 : TE}, (∀ H1 Q1, Q1 (V.ref l) H1 → tx1 σ H1 Q1) → (∀ H1 Q1, Q1 (V.int i) H1 → ti σ H1 Q1) →
      (∀ H1 Q1, Same H6 H1 → Bx b (n + 1) H1 → (∀ y H2, Dr b n H1 H2 → Good H2 [y] → Q1 y H2) → ty σ H1 Q1) → (∀ H1 Q1, Q1 (V.ref l) H1 → tx2 σ H1 Q1) → (∀ H1 Q1, Q1 (V.int j) H1 → tj σ H1 Q1) →
      tOp rCat (tOp rCat (tSl (rSlL K) tx1 tNoPart (tPart ti)) (tLst (tCons ty tNil))) (tSl (rSlL K) tx2 (tPart tj) tNoPart) σ H6 Q := fun i j {σ ty tj tx1 ti tx2} h1 h2 h3 h4 h5 =>
    cat3 d9.bx lb l6 (by omega) G6 h1 h2 h3 h4 h5 fun p zs H' e1 e2 e3 e4 e5 => q p zs H' e1 e2 (by omega) (d9.trans e4) (d9.free e5)
  refine ⟨_, rfl, rfl, _, rfl, iteB (fun _ => ?_) (fun _ => ?_)⟩
  · exact ⟨_, rfl, q p3 rest H6 p3h gr (by omega) (d9.le (by omega)) p3f⟩
  refine ⟨_, rfl, rfl, _, rfl, iteB (fun _ => ?_) (fun _ => ?_)⟩
  · refine ⟨_, rfl, l, xs, rfl, SqL.of l6, fun D hD => lc_any xs.length (fun i H' => ∃ acc, H' D = some (.lst acc) ∧ acc.length = i ∧ Good H' acc ∧ Dr b (n + 1) H H' ∧ H' l = some (.lst xs) ∧ Good H' xs) ⟨[], upd_same, rfl, fun _ h => (nomatch h), d9.new hD, (same_new hD) _ _ l6, G6.same (same_new hD)⟩ ?_ ?_ ?_ ?_⟩
    · rintro i H' hi ⟨acc, _, _, _, _, hl', _⟩
      exact ⟨xs, xs[i], SqL.of hl', List.getElem?_eq_getElem hi⟩
    · rintro H' ⟨acc, _, _, _, _, hl', _⟩
      exact ⟨xs, SqL.of hl', Nat.le_refl _⟩
    · rintro i x H7 H8 hi ⟨acc, hacc, hal, gacc, d10, hl7, G7⟩ ⟨t, z, rfl, ht, rfl, hz⟩
      have hz' := hz xs (SqL.of hl7)
      have s7 := same_new (o := .tup [.int (i : Nat), z]) ht
      have d11 := d10.same s7
      have hD0 : H D = none := d9.free hD
      have Db := d9.bx.ne hD
      have step : ∀ y, Good (upd H7 t (.tup [.int (i : Nat), z])) [y] → ∃ acc', upd H7 t (.tup [.int (i : Nat), z]) D = some (.lst acc') ∧ acc'.length < sizeLine ∧ ∃ acc, upd (upd H7 t (.tup [.int (i : Nat), z])) D (.lst (acc' ++ [y])) D = some (.lst acc) ∧ acc.length = i + 1 ∧ Good (upd (upd H7 t (.tup [.int (i : Nat), z])) D (.lst (acc' ++ [y]))) acc ∧ Dr b (n + 1) H (upd (upd H7 t (.tup [.int (i : Nat), z])) D (.lst (acc' ++ [y]))) ∧ upd (upd H7 t (.tup [.int (i : Nat), z])) D (.lst (acc' ++ [y])) l = some (.lst xs) ∧ Good (upd (upd H7 t (.tup [.int (i : Nat), z])) D (.lst (acc' ++ [y]))) xs := fun y gy => by
        have hacc2 := s7 _ _ hacc
        refine ⟨acc, hacc2, small1000 (by omega), acc ++ [y], upd_same, by simp [hal], Good.updL ((gacc.same s7).app gy) hacc2, d11.upd hD0 Db, ?_, Good.updL (G7.same s7) hacc2⟩
        rw [upd_ne (ne_of_none hl hD0)]
        exact s7 _ _ hl7
      refine ⟨t, _, rfl, SqT.of upd_same, rfl, _, _, rfl, _, _, rfl, rfl, rfl, _, rfl, _, rfl, rfl, _, rfl, iteB (fun _ => ?_) (fun _ => ?_)⟩
      · have hx2 : xs[to]? = some xs[to] := List.getElem?_eq_getElem to1
        exact ⟨_, rfl, _, rfl, l, xs, _, _, rfl, rfl, SqL.of (s7 _ _ hl7), atI_nat (j := to) hx2, step _ ((G7.same s7).sub fun y hy => by rw [List.mem_singleton.mp hy]; exact List.getElem_mem to1)⟩
      refine ⟨_, rfl, _, rfl, rfl, _, rfl, iteB (fun _ => ?_) (fun _ => ?_)⟩
      · exact ⟨_, rfl, step _ ((G7.same s7).sub fun y hy => by rw [List.mem_singleton.mp hy, ← erp]; exact List.getElem_mem at1)⟩
      · exact ⟨_, rfl, step _ ((G7.same s7).sub fun y hy => by rw [List.mem_singleton.mp hy]; exact List.mem_of_getElem? hz')⟩
    · rintro H7 ⟨acc, hacc, hal, gacc, d10, hl7, G7⟩
      exact q D acc H7 hacc gacc (by omega) (d10.le (by omega)) (d9.free hD)
  refine ⟨_, rfl, rfl, _, rfl, iteB (fun _ => ?_) (fun _ => ?_)⟩
  · unfold tRet
    dsimp only
    exact cat_r at_ at_ (fun _ _ h => ⟨_, rfl, h⟩) (fun _ _ h => ⟨_, rfl, h⟩) (fun H7 Q7 s7 b7 h7 => ⟨_, rfl, h7 _ H7 (Dr.here (b7.le (by omega))) (Good.one (s7 _ _ hrp6) okrp)⟩) (fun _ _ h => ⟨_, rfl, h⟩) (fun _ _ h => ⟨_, rfl, h⟩)
  refine ⟨_, rfl, rfl, _, rfl, iteB (fun _ => ?_) (fun _ => ?_)⟩
  · unfold tRet
    dsimp only
    refine cat_r at_ ((at_ : Int) + 1) (fun _ _ h => ⟨_, rfl, h⟩) (fun _ _ h => ⟨_, rfl, h⟩) (fun H7 Q7 s7 b7 h7 => ?_) (fun _ _ h => ⟨_, rfl, h⟩) (fun _ _ h => ⟨_, rfl, _, _, rfl, rfl, h⟩)
    have hr7 : RowAt H7 rp r := s7 _ _ hrp6
    refine ⟨_, rfl, rp, tv r, _, _, rfl, rfl, SqT.of hr7, atI_nat (j := 0) rfl, _, rfl, _, rfl, rp, tv r, _, _, rfl, rfl, SqT.of hr7, atI_nat (j := 2) rfl, _, rfl, (by show 2 ≤ sizeLine; decide), fun t nt => ?_⟩
    have s8 := same_new (o := .tup [.str "end", .str "reset"]) nt
    have d8' := (Dr.here b7).same s8
    refine ⟨t, _, rfl, .inr (SqT.of upd_same), rfl, rfl, _, rfl, ?_⟩
    show (if inV (.str (wordS wd)) [.str "end", .str "reset"] = true then _ else _)
    rw [bareT wd hwd]
    refine iteB (fun c => ?_) (fun c => ?_)
    · refine ⟨(by show 4 ≤ sizeLine; decide), fun p np => h7 _ _ ((d8'.new np).le (by omega)) (Good.one (r := ⟨r.b, wd, r.n, 0⟩) upd_same ⟨okrp.hb, hwd, okrp.hn, by show 0 < 9973; omega, fun _ => rfl⟩)⟩
    · refine ⟨_, rfl, rp, tv r, _, _, rfl, rfl, SqT.of (s8 _ _ hr7), atI_nat (j := 3) rfl, (by show 4 ≤ sizeLine; decide), fun p np => h7 _ _ ((d8'.new np).le (by omega)) (Good.one (r := ⟨r.b, wd, r.n, r.k⟩) upd_same ⟨okrp.hb, hwd, okrp.hn, okrp.hk, fun z => absurd z (of_decide_eq_false c)⟩)⟩
  refine ⟨_, rfl, rfl, _, rfl, iteB (fun _ => ?_) (fun _ => ?_)⟩
  · unfold tRet
    dsimp only
    refine cat_r at_ ((at_ : Int) + 1) (fun _ _ h => ⟨_, rfl, h⟩) (fun _ _ h => ⟨_, rfl, h⟩) (fun H7 Q7 s7 b7 h7 => ?_) (fun _ _ h => ⟨_, rfl, h⟩) (fun _ _ h => ⟨_, rfl, _, _, rfl, rfl, h⟩)
    have hr7 : RowAt H7 rp r := s7 _ _ hrp6
    refine ⟨_, rfl, _, _, rfl, rfl, (by decide : (0 : Int) < 8), _, rfl, _, _, rfl, rfl, 0, _, rfl, _, rfl, _, _, rfl, rfl, (by show 3 ≤ sizeLine; decide), fun p np => ?_⟩
    obtain ⟨ws, ews, hws⟩ : ∃ ws : List Nat, ([V.int ((m : Int) % 8), .int (if (kept : Int) - 1 > 0 then (kept : Int) - 1 else 0), .int ((m : Int) - 1)] : List V) = ws.map (fun n : Nat => V.int (n : Int)) ∧ ws.length = 3 ∧ ∀ x ∈ ws, x < 8 := by
      refine ⟨[m % 8, kept - 1, m - 1], ?_, rfl, fun x hx => ?_⟩
      · show _ = [V.int ((m % 8 : Nat) : Int), V.int ((kept - 1 : Nat) : Int), V.int ((m - 1 : Nat) : Int)]
        have e1 : (m : Int) % 8 = ((m % 8 : Nat) : Int) := (Int.natCast_emod m 8).symm
        have e2 : (if (kept : Int) - 1 > 0 then (kept : Int) - 1 else 0) = ((kept - 1 : Nat) : Int) := by
          split <;> omega
        have e3 : (m : Int) - 1 = ((m - 1 : Nat) : Int) := by omega
        rw [e1, e2, e3]
      · simp at hx
        omega
    have s8 := same_new (o := .lst [V.int ((m : Int) % 8), .int (if (kept : Int) - 1 > 0 then (kept : Int) - 1 else 0), .int ((m : Int) - 1)]) np
    have b8 := b7.same s8
    refine ⟨_, rfl, b, 3, n, rfl, by decide, by decide, b8, fun v H8 hv d10 => ?_⟩
    obtain ⟨y, my, hy⟩ := getN (ns := ws) (v := v) (by omega)
    rw [← ews] at hy
    have hr8 : RowAt H8 rp r := row_dr b8 d10 (s8 _ _ hr7)
    refine ⟨p, _, _, _, rfl, rfl, SqL.of (d10.kp p _ (b7.ne np) upd_same), atI_nat (j := v) hy, (by show 1 ≤ sizeLine; decide), fun t nt => ?_⟩
    have s9 := same_new (o := .tup [.int (y : Int)]) nt
    refine ⟨_, rfl, _, rfl, rp, tv r, rfl, SqT.of (s9 _ _ hr8), fun z => absurd z.1 (by show ¬ (1 = 0); decide), fun _ t4 nt4 => ?_⟩
    have s10 := same_new (o := .tup (cutV (tv r) (some 1) none)) nt4
    refine ⟨t, t4, _, _, rfl, rfl, SqT.of (s10 _ _ upd_same), SqT.of upd_same, (by show 4 ≤ sizeLine; decide), fun z => (nomatch z), fun _ z => (nomatch z), fun _ _ t5 nt5 => ?_⟩
    exact h7 _ _ ((((d10.pre s8).same s9).same s10).new nt5) (Good.one (r := ⟨y, r.w, r.n, r.k⟩) upd_same ⟨hws.2 y my, okrp.hw, okrp.hn, okrp.hk, okrp.bare⟩)
  · unfold tNext tRet
    dsimp only
    exact cat3 d9.bx p3b p3h (by omega) gr (fun _ _ h => ⟨_, rfl, h⟩) (fun _ _ h => ⟨_, rfl, h⟩) (fun H7 Q7 s7 b7 h7 => ⟨_, rfl, h7 _ H7 (Dr.here (b7.le (by omega))) (Good.one (s7 _ _ hrp6) okrp)⟩) (fun _ _ h => ⟨_, rfl, h⟩) (fun _ _ h => ⟨_, rfl, h⟩) fun p zs H' e1 e2 e3 e4 e5 => q p zs H' e1 e2 (by omega) (d9.trans e4) (d9.free e5)
end
end K18

set_option maxHeartbeats 4000000
namespace K18
open PySem PySem.Spec PyProof.Rows L2
theorem EqAt.twins {H : Hp} {a b : Addr} {v : V} {n : Nat} (ha : H a = some (.lst (List.replicate n v))) (hb : H b = some (.lst (List.replicate n v))) (hv : v = .non ∨ ∃ i, v = .int i) (hz : n ≤ 1000) : EqAt H 1 (.ref a) (.ref b) :=
  ⟨a, b, _, _, rfl, rfl, ha, hb, rfl, by rw [List.length_replicate]; exact hz, fun i x y h1 h2 => by
    rw [List.getElem?_replicate] at h1 h2
    by_cases c : i < n
    · rw [if_pos c] at h1 h2
      obtain rfl := Option.some.inj h1
      obtain rfl := Option.some.inj h2
      exact ⟨rfl, hv⟩
    · rw [if_neg c] at h1
      cases h1⟩
theorem oV_flat (o : Option Nat) : oV o = .non ∨ ∃ i, oV o = .int i := by
  cases o with
  | none => exact .inl rfl
  | some i => exact .inr ⟨_, rfl⟩
section
variable {P : Program} {w : World} {K : PySem.W.Frag} {mg : Str → Option Value} {base : Heap}
/-! ### law -/
def spLaw (K : PySem.W.Frag) : Sp := fun vs H Q _ => ∃ (a : Addr) (ns : List Int), vs = [.ref a] ∧ SqL K H a (ns.map V.int) ∧ ns.length ≤ 1000 ∧ ∀ H', Q (.bl true) H'
theorem body_law (T : Txt K mg) (F : Fn K mg "law" st_law []) (G_l_box : Cal P w K mg base CX0 1 "_law_box" (spBox K) []) (G_l_names : Cal P w K mg base CX0 2 "_law_names" spNames []) (G_l_sizes : Cal P w K mg base CX0 2 "_law_sizes" spSizes [])
    (G_l_how : Cal P w K mg base CX0 2 "_law_how" spHow []) (G_l_log : Cal P w K mg base CX0 4 "_law_log" spLLog []) (G_l_bent_log : Cal P w K mg base CX0 4 "_law_bent_log" spBent []) (G_l_right : Cal P w K mg base CX0 9 "_law_right" spRight [])
    (G_Mixing : KMak P w K mg base 2 "Mixing" (CM K) (spInit K) 1 ["factor"] (fun vs zs => vs ++ zs)) (G_l_fault : Cal P w K mg base CX0 1 "_law_fault" spLFault []) (G_l_refused : Cal P w K mg base CX0 9 "_law_refused" (spRefused K) [])
    (G_l_same : Cal P w K mg base CX0 2 "_law_same" (spSame 1) []) : Body P w K mg base N_law "law" st_law 9 (spLaw K) := by
  rintro f cdv A outer s H vs Q E hr ⟨a, ns, rfl, ha, hnl, q⟩
  refine ⟨_, (pss_cons (ps_for PassesOwn.never rfl (pi_range1 rfl T.z_range (pa_cons (pe_callB (call_max2 rfl) (by rfl) T.z_max b_max (pa_cons pe_int (pa_cons (pe_callB (call_min2 rfl) (by rfl) T.z_min b_min (pa_cons pe_int (pa_cons (pe_callB call_len_seq (by rfl) T.z_len b_len (pa_cons (pv 0) (pa_nil))) (pa_nil)))) (pa_nil)))) (pa_nil))) (pg_name (i := 1) sc_law.nd rfl (Or.inl rfl)) (pss_cons (ps_set (i := 2) sc_law.nd rfl (Or.inl rfl) (cl G_l_box hr (by decide) (pa_cons (pv 0) (pa_cons (pv 1) (pa_nil)))))
    (pss_one (ps_for PassesOwn.never rfl (pi_range1 rfl T.z_range (pa_cons pe_int (pa_nil))) (pg_name (i := 3) sc_law.nd rfl (Or.inl rfl)) (pss_cons (ps_asg (pe_tup (pa_cons (cl G_l_names hr (by decide) (pa_cons (pv 2) (pa_cons pe_int (pa_nil)))) (pa_cons (cl G_l_sizes hr (by decide) (pa_cons (pv 2) (pa_nil))) (pa_cons (cl G_l_how hr (by decide) (pa_cons (pv 2) (pa_nil))) (pa_nil))))) (pg_tup rfl (pgs_cons (pg_name (i := 4) sc_law.nd rfl (Or.inl rfl)) (pgs_cons (pg_tup rfl (pgs_cons (pg_name (i := 5) sc_law.nd rfl (Or.inr rfl)) (pgs_cons (pg_name (i := 6) sc_law.nd rfl (Or.inr rfl)) (pgs_nil)))) (pgs_cons (pg_name (i := 7) sc_law.nd rfl (Or.inl rfl)) (pgs_nil))))))
    (pss_cons (ps_set (i := 8) sc_law.nd rfl (Or.inl rfl) (cl G_l_log hr (by decide) (pa_cons (pv 2) (pa_cons (pv 4) (pa_cons (pv 5) (pa_cons (pv 6) (pa_cons pe_int (pa_nil))))))))
    (pss_cons (ps_set (i := 9) sc_law.nd rfl (Or.inr rfl) (cl G_l_bent_log hr (by decide) (pa_cons (pv 2) (pa_cons (pv 8) (pa_cons (pv 4) (pa_cons (pv 5) (pa_cons (pv 6) (pa_nil))))))))
    (pss_cons (ps_if (pt_not (pt_val (cl G_l_right hr (by decide) (pa_cons (pv 7) (pa_cons (pv 8) (pa_cons (pv 5) (pa_cons (pv 6) (pa_nil)))))))) (pss_one (ps_ret pe_bl)) pss_nil)
    (pss_cons (ps_asg (pe_tup (pa_cons (kmk G_Mixing hr (by decide) (pa_cons (pe_ix ix_tup (pv 7) pe_int (fun _ _ => rfl)) (pa_nil)) (pk_cons (pe_ix ix_tup (pv 7) pe_int (fun _ _ => rfl)) pk_nil)) (pa_cons (cl G_l_fault hr (by decide) (pa_cons (pv 9) (pa_cons (pv 5) (pa_cons (pv 6) (pa_nil))))) (pa_nil)))) (pg_tup rfl (pgs_cons (pg_name (i := 10) sc_law.nd rfl (Or.inr rfl)) (pgs_cons (pg_name (i := 11) sc_law.nd rfl (Or.inl rfl)) (pgs_nil)))))
    (pss_one (ps_if (pt_not (pt_val (cl G_l_same hr (by decide) (pa_cons (pe_lc (own := [("_law_each", 12)]) (g := gName 12) (tt := tYes) rfl sc_law.nd (pi_tup (pe_tup (pa_cons pe_bl (pa_cons pe_bl (pa_nil))))) (blkOk_by (N := N_law) (sc := defScope st_law) (by decide +kernel)) (fun _ _ _ _ _ => (pg_name (i := 12) sc_law.nd rfl (Or.inl rfl))) (fun _ _ _ _ _ => pts_nil) (fun _ _ _ _ _ => (cl G_l_refused hr (by decide) (pa_cons (pv 10) (pa_cons (pv 9) (pa_cons (pv 5) (pa_cons (pv 6) (pa_cons (pv 12) (pa_nil))))))))) (pa_cons (pe_lst (pa_cons (pv 11) (pa_cons (pv 11) (pa_nil)))) (pa_nil)))))) (pss_one (ps_ret pe_bl)) pss_nil)))))))))))
    (pss_one (ps_ret pe_bl))), ?_⟩
  refine ⟨_, rfl, a, _, rfl, .inl ha, 4, _, rfl, 1, _, rfl, _, rfl, ?_⟩
  rw [List.length_map]
  obtain ⟨N, eN, hN⟩ : ∃ N : Nat, (if (if (ns.length : Int) < 4 then (ns.length : Int) else 4) > 1 then (if (ns.length : Int) < 4 then (ns.length : Int) else 4) else 1) = (N : Int) ∧ N ≤ 4 := by
    by_cases c1 : (ns.length : Int) < 4
    · rw [if_pos c1]
      by_cases c2 : (ns.length : Int) > 1
      · rw [if_pos c2]
        exact ⟨ns.length, rfl, by omega⟩
      · rw [if_neg c2]
        exact ⟨1, rfl, by omega⟩
    · rw [if_neg c1, if_pos (by decide)]
      exact ⟨4, rfl, by omega⟩
  rw [eN]
  refine ⟨by omega, by omega, for_any N (fun i σ H' => Same H H' ∧ ∃ v1 v2 v3 v4 v5 v6 v7 v8 v9 v10 v11 v12 : Option V, σ = [some (.ref a), v1, v2, v3, v4, v5, v6, v7, v8, v9, v10, v11, v12]) ⟨Same.refl H, _, _, _, _, _, _, _, _, _, _, _, _, rfl⟩ (fun i σ H' hi _ => hi) (fun σ H' _ => Nat.le_refl _) ?_ ?_⟩
  · rintro k y σ H1 H0 hk ⟨s0, v1, v2, v3, v4, v5, v6, v7, v8, v9, v10, v11, v12, rfl⟩ ⟨rfl, rfl⟩
    refine ⟨_, rfl, _, rfl, a, ns, k, ?_, s0.seq ha, by omega, fun b H1 nb s1 hb => ?_⟩
    · show [V.ref a, V.int (0 + (k : Int))] = _
      rw [Int.zero_add]
    refine ⟨4, rfl, by decide, by decide, for_any 4 (fun i σ H' => Dr b (100000 - 300 * i) H1 H' ∧ ∃ v1 v3 v4 v5 v6 v7 v8 v9 v10 v11 v12 : Option V, σ = [some (.ref a), v1, some (.ref b), v3, v4, v5, v6, v7, v8, v9, v10, v11, v12]) ⟨Dr.here hb, _, _, _, _, _, _, _, _, _, _, _, rfl⟩ (fun i σ H' hi _ => hi) (fun σ H' _ => Nat.le_refl _) ?_ ?_⟩
    · rintro i y σ H2' H2 hi ⟨d2, v1, v3, v4, v5, v6, v7, v8, v9, v10, v11, v12, rfl⟩ ⟨rfl, rfl⟩
      obtain ⟨m, hm⟩ : ∃ m, m = 100000 - 300 * (i + 1) := ⟨_, rfl⟩
      have b2 : Bx b (m + 220 + 8) H2 := d2.bx.le (by omega)
      refine ⟨_, rfl, b, 4, m + 220, rfl, by decide, b2, fun an nms H3 han hnok hnl4 d3 nan => ?_⟩
      have hab : an ≠ b := b2.ne nan
      refine ⟨_, rfl, b, m + 216, rfl, d3.bx, fun tp sz kp H4 htp hs0 hs8 hkz d4 ntp => ?_⟩
      have tpb : tp ≠ b := d3.bx.ne ntp
      refine ⟨_, rfl, b, m + 210, rfl, d4.bx, fun hp mx H5 hhp okm d5 nhp => ?_⟩
      have hpb : hp ≠ b := d4.bx.ne nhp
      refine ⟨(by show 3 ≤ sizeLine; decide), fun t nt => ?_⟩
      have s6 := same_new (o := .tup [.ref an, .ref tp, .ref hp]) nt
      have d6 : Dr b (m + 210) H3 _ := (d4.trans d5).same s6
      have b6 := d6.bx
      have han6 := d6.kp an _ hab han
      have hhp6 := s6 _ _ hhp
      refine ⟨t, _, rfl, SqT.of upd_same, rfl, _, _, rfl, _, _, rfl, tp, _, rfl, SqT.of (s6 _ _ (d5.kp tp _ tpb htp)), rfl, _, _, rfl, _, _, rfl, rfl, _, _, rfl, rfl, ?_⟩
      refine ⟨_, rfl, _, rfl, _, rfl, _, rfl, b, an, nms, sz, kp, m + 10, rfl, hab, han6, hnok, by omega, by omega, hs0, hs8, hkz, b6, fun l ps rs H7 L hrl hf => ?_⟩
      refine ⟨_, rfl, _, rfl, _, rfl, _, rfl, _, rfl, b, l, an, ps.map V.ref, nms, sz, kp, m, rfl, L.nb, L.lst, L.rows.good L.ok, ?_, hab, L.dr.kp an _ hab han6, hnok, by omega, by omega, hs0, hs8, hkz, L.dr.bx, fun bl zs H8 hbl gz hzl d8 nbl => ?_⟩
      · rw [List.length_map, L.rows.len]
        exact hrl
      have hhp8 := d8.kp hp _ hpb (L.dr.kp hp _ hpb hhp6)
      have blb : bl ≠ b := L.dr.bx.ne nbl
      refine ⟨_, rfl, _, rfl, _, rfl, _, rfl, hp, l, mx, ps, rs, sz, kp, rfl, hhp8, okm, d8.kp l _ L.nb L.lst, L.rows.dr L.dr.bx d8, L.ok, by omega, hs8, hf, fun H9 s9 => ⟨true, rfl, iteF ?_⟩⟩
      have hhp9 := s9 _ _ hhp8
      obtain ⟨bps, brs, rfl, BR, bok⟩ := gz.rows
      have bl9 := s9 _ _ hbl
      have brl : brs.length ≤ 100 := by
        rw [← BR.len]
        rw [List.length_map] at hzl
        exact hzl
      refine ⟨_, rfl, hp, hwV mx, _, _, rfl, rfl, SqT.of hhp9, atI_nat (j := 0) rfl, _, rfl, hp, hwV mx, _, _, rfl, rfl, SqT.of hhp9, atI_nat (j := 1) rfl, rfl, rfl, fun x dx nx ndx hne => ?_⟩
      refine ⟨x, dx, mx, rfl, okm, upd_same, fun H10 k10 hmx => ⟨rfl, ?_⟩⟩
      have s10 : Same H9 H10 := fun c o e => k10 c o (by rw [upd_ne (ne_of_none e nx), upd_ne (ne_of_none e ndx)]; exact e) (ne_of_none e nx)
      have s810 := s9.trans s10
      refine ⟨_, rfl, _, rfl, _, rfl, bl, bps, brs, sz, kp, rfl, s10 _ _ bl9, BR.same s810, bok, fun H11 s11 => ?_⟩
      refine ⟨(by show 2 ≤ sizeLine; decide), fun t2 nt2 => ?_⟩
      have s12 := same_new (o := .tup [.ref x, oV (fault sz kp brs)]) nt2
      refine ⟨t2, _, rfl, SqT.of upd_same, rfl, _, _, rfl, _, _, rfl, rfl, ?_⟩
      refine ⟨(by show 2 ≤ sizeLine; decide), fun t3 nt3 => ?_⟩
      have s13 := same_new (o := .tup [.bl true, .bl false]) nt3
      have sx := ((s11.trans s12).trans s13)
      refine ⟨t3, rfl, ⟨_, SqT.of upd_same⟩, fun D nD => ?_⟩
      refine lc_any 2 (fun j H' => Same _ H' ∧ H' D = some (.lst (List.replicate j (oV (fault sz kp brs))))) ⟨same_new nD, upd_same⟩ ?_ ?_ ?_ ?_
      · rintro j H' hj ⟨s14, _⟩
        exact ⟨[.bl true, .bl false], _, SqT.of (s14 _ _ upd_same), List.getElem?_eq_getElem hj⟩
      · rintro H' ⟨s14, _⟩
        exact ⟨[.bl true, .bl false], SqT.of (s14 _ _ upd_same), Nat.le_refl _⟩
      · rintro j z H14' H14 hj ⟨s14, hD⟩ ⟨rfl, hz⟩
        have hz' := hz _ (SqT.of (s14 _ _ upd_same))
        have s16 := (sx.trans s14)
        have ez : ∃ each, z = V.bl each := by
          have c : j = 0 ∨ j = 1 := by omega
          rcases c with rfl | rfl
          · exact ⟨true, (Option.some.inj hz').symm⟩
          · exact ⟨false, (Option.some.inj hz').symm⟩
        obtain ⟨each, rfl⟩ := ez
        refine ⟨rfl, _, rfl, _, rfl, _, rfl, _, rfl, _, rfl, x, bl, mx, bps, brs, sz, kp, each, rfl, hmx.same s16, okm, s16 _ _ (s10 _ _ bl9), (BR.same s810).same s16, bok, brl, hs8, fun H15 s15 => ?_⟩
        refine ⟨_, s15 _ _ hD, ?_, same_mut (s14.trans s15) nD, ?_⟩
        · rw [List.length_replicate]
          exact small1000 (by omega)
        · rw [upd_same, List.replicate_succ']
      rintro H14 ⟨s14, hD⟩
      refine ⟨_, rfl, _, rfl, (by show 2 ≤ sizeLine; decide), fun p np => ?_⟩
      have s15 := same_new (o := .lst [oV (fault sz kp brs), oV (fault sz kp brs)]) np
      refine ⟨_, _, rfl, EqAt.twins (n := 2) (s15 _ _ hD) upd_same (oV_flat _) (by decide), fun H16 s16 => ⟨true, rfl, iteF ?_⟩⟩
      refine ⟨?_, _, _, _, _, _, _, _, _, _, _, _, rfl⟩
      rw [← hm]
      exact (((((d2.trans d3).trans d6).trans L.dr).trans d8).same s810).same (((sx.trans s14).trans s15).trans s16)
    · rintro σ H2 ⟨d2, v1, v3, v4, v5, v6, v7, v8, v9, v10, v11, v12, rfl⟩
      refine ⟨fun c o e => d2.kp c o (ne_of_none (s0 _ _ e) nb) (s1 _ _ (s0 _ _ e)), _, _, _, _, _, _, _, _, _, _, _, _, rfl⟩
  · rintro σ H1 ⟨s1, v1, v2, v3, v4, v5, v6, v7, v8, v9, v10, v11, v12, rfl⟩
    exact q H1
end
end K18

set_option maxHeartbeats 0
namespace K18
open PySem PySem.Spec PyProof.Rows L2
theorem sure_law {P : Program} {w : World} {K : PySem.W.Frag} {h base : Heap} {mg : Str → Option Value} (X : K.In h) (G : h.Ns mainGlobals mg) (c : obsK K = valK) : Body P w K mg base N_law "law" st_law 9 (spLaw K) := by
  have T := txt_of X G c
  have g_from := ok_from (P := P) (w := w) (base := base) T (fn_is_from X G c)
  have g_noted := ok_noted T (fn_is_noted X G c) g_from
  have g_name := ok_name (P := P) (w := w) (base := base) T (fn_is_name X G c)
  have g_nameNum := ok_nameNum (P := P) (w := w) (base := base) T (fn_name_number X G c)
  have g_isRow := ok_isRow T (fn_is_row X G c) g_from g_name g_noted
  have g_rowNum := ok_rowNum T (fn_row_number X G c) g_nameNum
  have g_can := ok_can T (fn_can_stand X G c) g_isRow
  have g_fault := kg_fault T (fn_fault X G c) g_can
  obtain ⟨fB, DB⟩ := fn_bad c
  have g_look := ok_look T (fn_look_log X G c) g_fault (ok_bad T DB) (bad_binds DB)
  have g_between := ok_between (P := P) (w := w) (base := base) T (fn_is_between X G c)
  have g_div := ok_div (P := P) (w := w) (base := base) T (fn_divisor_of X G c)
  have g_mixed := met_mixed T (fn_mixed c) g_rowNum
  have g_begin := met_begin (P := P) (w := w) (base := base) T (fn_begin c)
  have k_begin := kmet_begin (P := P) (w := w) (base := base) T (fn_begin c)
  have k_mixing := kmak_mixing T (fn_mix c) g_between g_div
  have g_behind := ok_behind T (fn_row_behind X G c) k_begin g_mixed
  have k_mf := kg_replays_mf T (fn_replays X G c) g_look g_begin g_behind
  have k_fm := kg_replays_fm T (fn_replays X G c) g_look g_begin g_behind
  have k_flmm := kg_replays_flmm T (fn_replays X G c) g_look g_begin g_behind
  have k_one := kg_replay_mf T (fn_replay X G c) k_mf
  have l_box := ok_box (P := P) (w := w) (base := base) T (fn__law_box X G c)
  have l_take := ok_take (P := P) (w := w) (base := base) T (fn__law_take X G c)
  have l_pick := ok_pick T (fn__law_pick X G c) l_take
  have l_names := ok_names T (fn__law_names X G c) l_take
  have l_same0 := ok_same0 (P := P) (w := w) (base := base) T (fn__law_same X G c)
  have l_same1 := ok_sameS 0 T (fn__law_same X G c) l_same0
  have l_same2 := ok_sameS 1 T (fn__law_same X G c) l_same1
  have l_nameNum := ok_lnameNum (P := P) (w := w) (base := base) T (fn__law_name_number X G c)
  have l_rowNum := ok_lrowNum T (fn__law_row_number X G c) l_nameNum
  have l_shares := ok_shares (P := P) (w := w) (base := base) T (fn__law_shares X G c)
  have l_how := ok_how T (fn__law_how X G c) l_take l_shares
  have l_mixed := ok_lmixed T (fn__law_mixed X G c) l_rowNum
  have l_note := ok_note T (fn__law_note X G c) l_take
  have l_row := ok_lrow T (fn__law_row X G c) l_take l_note l_pick
  have l_log := ok_log T (fn__law_log X G c) l_take l_row
  have l_fault := ok_lfault (P := P) (w := w) (base := base) T (fn__law_fault X G c)
  have l_sizes := ok_sizes T (fn__law_sizes X G c) l_take
  have l_bent := ok_bent T (fn__law_bent_log X G c) l_take l_row
  have l_refused := ok_refused T (fn__law_refused X G c) k_mf k_one
  have l_right := ok_right T (fn__law_right X G c) k_mixing g_mixed k_fm k_flmm k_one l_mixed l_same1 l_same2
  exact body_law T (fn_law X G c) l_box l_names l_sizes l_how l_log l_bent l_right k_mixing l_fault l_refused l_same1
theorem facts {P : Program} {w : World} {K : PySem.W.Frag} {h : Heap} {mg : Str → Option Value} {f : Addr} (X : K.In h) (G : h.Ns mainGlobals mg) (hfa : mg ("law" : Str) = some (.ref f)) (c : obsK K = valK) :
    ∃ fd : FuncData, (∀ (s : Shared) (v : Value), BindsTo s fd ⟨[v], []⟩ [("_law_script", v)]) ∧ ∀ base : Heap, K.In base → base.Ns mainGlobals mg → FnOk P w K mg base CX0 10 f fd ["_law_script"] (spLaw K) := by
  obtain ⟨f', fd, F, hm⟩ := (fn_law X G c).ex
  have e := hfa.symm.trans hm
  cases e
  have b := FunD.bindsA (ps := ["_law_script"]) F fun _ _ _ _ _ _ us hl => match us, hl with | [_], _ => rfl
  refine ⟨fd, fun s v => b s [v] rfl, fun base _ _ => (sure_law X G c).fn F sc_law ?_⟩
  rintro vs H Q E ⟨a, ns, rfl, _⟩
  rfl
end K18
open PySem PySem.W PySem.Calls PyProof.Rows
theorem PySem.Challenge.cw_startlog_k18_whole_replays_row_by_row_holds : PySem.Challenge.rw_startlog_k18_whole_replays_row_by_row.Holds := by
  w_on; o_law
  refine HandSHeadRun.head_any (r := OpenLaw.row PySem.Challenge.rw_startlog_k18_whole_replays_row_by_row) (q := view (OpenLaw.row PySem.Challenge.rw_startlog_k18_whole_replays_row_by_row).prog [63]) (H := K18.hk) (ob := K18.ob) (M := 6000) (loose := K18.loose) (d := HandSHeadRun.topDef (OpenLaw.row PySem.Challenge.rw_startlog_k18_whole_replays_row_by_row).prog 63) (kwd := []) K18.ob_eq
    (by kernel_rfl) (fun s => by kernel_rfl) K18.run (by kernel_rfl) (by kernel_rfl) (by kernel_rfl) (by rfl) (by first | assumption | decide +kernel) (by decide +kernel) ⟨rfl, rfl, rfl, rfl, rfl, by decide +kernel⟩ ?hw ?hc
  case hw => w_witness2
  case hc =>
    refine L2.walk_ofE (l := PySem.Challenge.rw_startlog_k18_whole_replays_row_by_row) (n := 63) (k := 10) (x := "_law_script") (CX := L2.CX0) rfl (by decide) (by kernel_rfl) ⟨rfl, by decide, by decide⟩ ?F (fun _ _ _ _ z => z)
    intro w mg fa h Y G hmg0
    obtain ⟨K, KX, c⟩ := Y
    have hmg : mg ("law" : PySem.Str) = some (.ref fa) := by
      have e : (HandSHeadRun.topDef (OpenLaw.row PySem.Challenge.rw_startlog_k18_whole_replays_row_by_row).prog 63).name = ("law" : PySem.Str) := by kernel_rfl
      rw [← e]
      exact hmg0
    obtain ⟨fd, hb, hF⟩ := K18.facts (P := (PySem.Challenge.rw_startlog_k18_whole_replays_row_by_row).prog) (w := w) KX G hmg c
    exact ⟨K, fd, K18.spLaw K, KX, hb, fun H a ns hl _ hS => ⟨a, ns, rfl, hS, Nat.le_trans hl (by decide), fun _ => rfl⟩, hF⟩
