import PyProof.Rows.All
import Wide.All
import OpenK.AllK
import Wide.FinOn
import KE.KPathRange
import KE.LcTurns
import KE.KTurns
import Lean
import PySem.Challenge.RW_ok0043_01
set_option Elab.async false
set_option rowWalk.seconds 0

-- part M0
section
open PySem PySem.W PyProof.Rows
set_option maxRecDepth 100000
set_option maxHeartbeats 8000000
namespace Mine
open_top hd for PySem.Challenge.rw_ok0043_01
end Mine
end

namespace Mine
theorem walkOff : True := by
  w_top off
  trivial
end Mine

-- part C0
section
open PySem PySem.W PyProof.Rows
namespace Mine
noncomputable abbrev KH (w : World) : Frag := Mine.hd.heap_39 w.params
noncomputable abbrev VW : Program := Mine.hd.view_39
noncomputable abbrev LO : List Str := looseW Mine.hd.view_39 ["LARGEST"]
noncomputable abbrev PR : Program := PySem.Challenge.rw_ok0043_01.row.prog
theorem newsOfUpd {h₀ h : Heap} {L d : Addr} {o : Obj} {news : List (Addr × Obj)} {g : Obj → List (Addr × Obj)} (U : UpdF d o news g) (N : News h₀ L h news) :
    ∃ rest, (∀ p ∈ rest, p.1 ≠ d) ∧ News h₀ L h ((d, o) :: rest) ∧ (∀ p ∈ rest, p ∈ news) ∧ (∀ p ∈ news, p.1 ≠ d → p ∈ rest) ∧ ∀ h' o', News h₀ L h' ((d, o') :: rest) → News h₀ L h' (g o') := by
  obtain ⟨pre, post, rfl, hg, h1, h2⟩ := U.split
  refine ⟨pre ++ post, fun p hp => (List.mem_append.mp hp).elim (h1 p) (h2 p), fun p hp => N p ?_, fun p hp => ?_, fun p hp hn => ?_, fun h' o' N' p hp => N' p ?_⟩
  · rcases List.mem_cons.mp hp with rfl | hp
    · exact List.mem_append_right _ (.head _)
    · exact (List.mem_append.mp hp).elim (fun h => List.mem_append_left _ h) fun h => List.mem_append_right _ (.tail _ h)
  · exact (List.mem_append.mp hp).elim (fun h => List.mem_append_left _ h) fun h => List.mem_append_right _ (.tail _ h)
  · rcases List.mem_append.mp hp with hp | hp
    · exact List.mem_append_left _ hp
    · rcases List.mem_cons.mp hp with rfl | hp
      · exact absurd rfl hn
      · exact List.mem_append_right _ hp
  · rw [hg] at hp
    rcases List.mem_append.mp hp with hp | hp
    · exact .tail _ (List.mem_append_left _ hp)
    · rcases List.mem_cons.mp hp with rfl | hp
      · exact .head _
      · exact .tail _ (List.mem_append_right _ hp)
theorem newsTl {h₀ h : Heap} {L : Addr} {q : Addr × Obj} {news : List (Addr × Obj)} (N : News h₀ L h (q :: news)) : News h₀ L h news := fun p hp => N p (.tail _ hp)
theorem newsBeh {h₀ h : Heap} {L : Addr} {q r : Addr × Obj} {news : List (Addr × Obj)} (N : News h₀ L h (q :: r :: news)) : News h₀ L h (q :: news) := fun p hp => N p ((List.mem_cons.mp hp).elim (fun h => h ▸ .head _) fun h => .tail _ (.tail _ h))
theorem frOv {h₀ h : Heap} {L : Addr} {m : Str → Option Value} (F : Fr h₀ L h m) (ps : List (Str × Value)) (e : ∀ p ∈ ps, m p.1 = some p.2) : Fr h₀ L h (kstB m ps) := by
  have : kstB m ps = m := by
    funext y
    exact kstB_eq e fun _ => rfl
  rw [this]
  exact F
end Mine
end

-- part C1
section
open PySem PySem.W PyProof.Rows
set_option maxRecDepth 100000
set_option maxHeartbeats 2000000
namespace Mine
section
variable {prog : Program} {w : World} {A : Around} {E : Value → Shared → Prop} {s : Shared} {h₀ : Heap} {L D D' : Addr} {news : List (Addr × Obj)} {vs : List Value} {ns : List Int} {n n' : Nat}
theorem my_sub0 {v : Value} {u : Tok} {value slice : PySem.Expr} {Q : Value → Shared → Prop} (N : News h₀ L s.heap news) (hm : (D, listOf (v :: vs).toArray n) ∈ news) (h : Q v s)
    (hs : subscripted slice false (.ref D) (.int 0 u) = operate [.ref D, .int 0 u] (getItem (.ref D) (.int 0 u)) := by with_unfolding_all rfl) :
    wpAny (model prog w) A (subscriptTail value slice (.ref D) (.int 0 u)) Q E s :=
  tail_any (PySem.IsL.isList (n := n) (N _ hm).1).typeIs slot_list_getitem.lookup (wpAny_getItem_list (PySem.IsL.isList (n := n) (N _ hm).1) (by decide) (by decide) (by simp) h) hs
theorem my_pop0 {y : Value} {u : Tok} {m : Str → Option Value} {news' : List (Addr × Obj)} {Q : Value → Shared → Prop} (F : Fr h₀ L s.heap m) (N : News h₀ L s.heap news) (U : Upd D (listOf (y :: vs).toArray n) (listOf vs.toArray (n + 1)) news news') (hz : vs.length ≤ 62)
    (h : ∀ h', Fr h₀ L h' m → News h₀ L h' news' → Q y { s with heap := h' }) : wpAny (model prog w) A (call (.builtin "list.pop") [.ref D, .int 0 u]) Q E s :=
  kl_popAt (p := []) (k := 0) F N rfl (by simp [seqIndex?]) (by rfl) U (by rw [sizeLine_eq]; simp only [List.length_cons]; omega) h
theorem my_nopy {a b : Int} (hb : 0 < b) (hb1 : b < 10 ^ 30) : Builtin.divisionGoesByPylong a b = false := by
  refine PyProof.noPylong_of_log2 (Nat.lt_of_lt_of_le ((Nat.log2_lt (by omega)).mpr (show b.natAbs < 2 ^ 100 by omega)) (by omega))
theorem my_fdiv {a b : Int} {t u : Tok} {Q : Value → Shared → Prop} (hb : 0 < b) (hb1 : b < 10 ^ 30) (h : ∀ t', Q (.int (a / b) t') { s with toks := s.toks + 1 }) :
    wpAny (model prog w) A (binaryOp .FloorDiv (.int a t) (.int b u)) Q E s := by
  refine floordiv_int (by omega) ?_ (Or.inl (my_nopy hb hb1))
  rw [Int.fdiv_eq_ediv_of_nonneg _ (by omega)]
  exact h _
theorem my_mod {a b : Int} {t u : Tok} {Q : Value → Shared → Prop} (hb : 0 < b) (h : ∀ t', Q (.int (a % b) t') { s with toks := s.toks + 1 }) :
    wpAny (model prog w) A (binaryOp .Mod (.int a t) (.int b u)) Q E s := by
  refine mod_int' (by omega) ?_
  rw [Int.fmod_eq_emod_of_nonneg _ (by omega)]
  exact h _
theorem my_ne_nil {Q : Value → Shared → Prop} (N : News h₀ L s.heap news) (hm : (D, listOf vs.toArray n) ∈ news) (hm' : (D', listOf #[] n') ∈ news) (hi : IntsAre vs ns) (hu : A.units + 64 < cLine) (h : Q (.bool (!decide (ns = []))) s) :
    wpAny (model prog w) A (compareOp .NotEq (.ref D) (.ref D')) Q E s :=
  ne_intsK (us := []) (PySem.IsL.isList (n := n) (N _ hm).1) hi (PySem.IsL.isList (n := n') (N _ hm').1) .nil hu h
theorem my_eq_nil {Q : Value → Shared → Prop} (N : News h₀ L s.heap news) (hm : (D, listOf vs.toArray n) ∈ news) (hm' : (D', listOf #[] n') ∈ news) (hi : IntsAre vs ns) (hu : A.units + 64 < cLine) (h : Q (.bool (decide (ns = []))) s) :
    wpAny (model prog w) A (compareOp .Eq (.ref D) (.ref D')) Q E s :=
  eq_intsK (us := []) (PySem.IsL.isList (n := n) (N _ hm).1) hi (PySem.IsL.isList (n := n') (N _ hm').1) .nil hu h
theorem my_len {Q : Value → Shared → Prop} (N : News h₀ L s.heap news) (hm : (D, listOf vs.toArray n) ∈ news) (hi : IntsAre vs ns) (hl : ns.length < 2 ^ 24) (h : ∀ t t', Q (.int (ns.length : Nat) t) { s with toks := t' }) :
    wpAny (model prog w) A (call (.builtin "len") [.ref D]) Q E s := by
  have e : vs.toArray.size = ns.length := by rw [List.size_toArray]; exact hi.length
  exact len_list (PySem.IsL.isList (n := n) (N _ hm).1) (by rw [e]; omega) (by rw [e]; exact h _ _)
theorem my_subI {k c : Int} {u : Tok} {value slice : PySem.Expr} {Q : Value → Shared → Prop} (N : News h₀ L s.heap news) (hm : (D, listOf vs.toArray n) ∈ news) (hi : IntsAre vs ns) (h0 : 0 ≤ k) (hfit : k < 2 ^ 63) (hx : ns[k.toNat]? = some c) (h : ∀ t, Q (.int c t) s)
    (hs : subscripted slice false (.ref D) (.int k u) = operate [.ref D, .int k u] (getItem (.ref D) (.int k u)) := by with_unfolding_all rfl) :
    wpAny (model prog w) A (subscriptTail value slice (.ref D) (.int k u)) Q E s := by
  obtain ⟨t, ht⟩ := hi.get _ _ hx
  exact tail_any (PySem.IsL.isList (n := n) (N _ hm).1).typeIs slot_list_getitem.lookup (wpAny_getItem_list (PySem.IsL.isList (n := n) (N _ hm).1) h0 hfit (by simpa using ht) (h t)) hs
end
section
variable {M : Model} {A : Around} {E : Value → Shared → Prop} {s : Shared} {h₀ : Heap} {L : Addr} {m : Str → Option Value} {news : List (Addr × Obj)} {env : Env}
/-- where a look ends: the ledger stands, a bool came -/
noncomputable def LookedB (h₀ : Heap) (L : Addr) (m : Str → Option Value) (news : List (Addr × Obj)) (s : Shared) (x : Bool) (v : Value) (s₁ : Shared) : Prop := v = .bool x ∧ ∃ h' tk', s₁ = { s with heap := h', toks := tk' } ∧ Fr h₀ L h' m ∧ News h₀ L h' news
theorem my_or2 {e₁ e₂ : PySem.Expr} {pos : Pos} (x y : Bool) {Q : Value → Shared → Prop} (_F : Fr h₀ L s.heap m) (_N : News h₀ L s.heap news)
    (h1 : wpAny M A (eval e₁ env) (LookedB h₀ L m news s x) E s)
    (h2 : ∀ h' tk', Fr h₀ L h' m → News h₀ L h' news → wpAny M A (eval e₂ env) (LookedB h₀ L m news s y) E { s with heap := h', toks := tk' })
    (h3 : ∀ h' tk', Fr h₀ L h' m → News h₀ L h' news → Q (.bool (x || y)) { s with heap := h', toks := tk' }) :
    wpAny M A (eval (.BoolOp .Or [e₁, e₂] pos) env) Q E s := by
  refine BoolOp_or (wpAny_mono h1 (fun v s₁ hv => ?_) fun _ _ z => z)
  obtain ⟨rfl, h', tk', rfl, F', N'⟩ := hv
  refine wpAny_truthy_bool ?_
  cases x with
  | true => simpa using h3 h' tk' F' N'
  | false =>
    simp only [Bool.false_eq_true, if_false]
    refine BoolOp_one (wpAny_mono (h2 h' tk' F' N') (fun v s₂ hv => ?_) fun _ _ z => z)
    obtain ⟨rfl, h'', tk'', rfl, F'', N''⟩ := hv
    simpa using h3 h'' tk'' F'' N''
end
/-- what a specifier holds -/
structure SV where
  field : Int
  left : Bool
  plus : Bool
  blank : Bool
  noughts : Bool
  marked : Bool
  width : Int
  prec : Int
  letter : Str
noncomputable def specEs (P : Params) (k0 k1 k2 k3 k4 k5 k6 k7 k8 t0 t6 t7 t8 : Tok) (v : SV) : List DictEntry :=
  [⟨PyData.keyHash P "field", .str "field" k0, .int v.field t0⟩, ⟨PyData.keyHash P "is_left", .str "is_left" k1, .bool v.left⟩, ⟨PyData.keyHash P "has_plus", .str "has_plus" k2, .bool v.plus⟩,
    ⟨PyData.keyHash P "has_blank", .str "has_blank" k3, .bool v.blank⟩, ⟨PyData.keyHash P "has_noughts", .str "has_noughts" k4, .bool v.noughts⟩, ⟨PyData.keyHash P "is_marked", .str "is_marked" k5, .bool v.marked⟩,
    ⟨PyData.keyHash P "width", .str "width" k6, .int v.width t6⟩, ⟨PyData.keyHash P "precision", .str "precision" k7, .int v.prec t7⟩, ⟨PyData.keyHash P "letter", .str "letter" k8, .str v.letter t8⟩]
noncomputable def SpecIs (P : Params) (es : List DictEntry) (v : SV) : Prop := ∃ k0 k1 k2 k3 k4 k5 k6 k7 k8 t0 t6 t7 t8, es = specEs P k0 k1 k2 k3 k4 k5 k6 k7 k8 t0 t6 t7 t8 v
theorem specI {P : Params} {k0 k1 k2 k3 k4 k5 k6 k7 k8 t0 t6 t7 t8 : Tok} {es : List DictEntry} {v : SV} (e : es = specEs P k0 k1 k2 k3 k4 k5 k6 k7 k8 t0 t6 t7 t8 v) : SpecIs P es v := ⟨_, _, _, _, _, _, _, _, _, _, _, _, _, e⟩
noncomputable def noteF (v : SV) (c : Int) : SV := { v with left := v.left || c == 45, plus := v.plus || c == 43, blank := v.blank || c == 32, noughts := v.noughts || c == 48, marked := v.marked || c == 35 }
noncomputable def flagsP : List Int → SV → Nat → SV × Nat
  | [], v, p => (v, p)
  | c :: r, v, p => if c = 45 ∨ c = 43 ∨ c = 32 ∨ c = 48 ∨ c = 35 then flagsP r (noteF v c) (p + 1) else (v, p)
end Mine
end

namespace Mine
theorem flushX1 {M : PySem.Model} {A : PySem.Around} {E : PySem.Value → PySem.Shared → Prop} {s : PySem.Shared} {Q : PySem.Flow → PySem.Shared → Prop} {pos : PySem.Pos} {env : PySem.Env} (h : Q .next s) : PySem.wpAny M A (PySem.exec (PySem.Stmt.Pass pos) env) Q E s := by
  walk1
  exact h
end Mine

-- part X1
section
open PySem PySem.W PyProof.Rows PySem.Calls Builtin Builtin.ObjectAttr Builtin.Getset_descriptor
set_option maxRecDepth 100000
set_option maxHeartbeats 2000000
namespace Mine
section
variable {prog : Program} {w : World} {A : Around} {E : Value → Shared → Prop} {s : Shared} {env : Env}
abbrev excData (t : Addr) : Data := .fields #[.ref t, .none, .none, .none, .bool false, .none]
/-- what may be raised: an object of the text's own exception class -/
noncomputable def OwnRaisable (w : World) (E : Value → Shared → Prop) (v : Value) (s₁ : Shared) : Prop :=
  ∃ a ob od t, v = .ref a ∧ (Mine.hd.heap_39 w.params).In s₁.heap ∧ InstAt s₁.heap a ob 31 od ∧ ob.data = excData t ∧ E (.ref a) s₁
theorem raiseOwn {e : PySem.Expr} {pos : Pos} {Q : Flow → Shared → Prop} (hh : A.handled = none)
    (h : wpAny (model prog w) A (eval e env) (OwnRaisable w E) E s) : wpAny (model prog w) A (exec (.Raise (some e) none pos) env) Q E s := by
  show wpAny (model prog w) A (do standAt pos; raiseStmt env (some (do let v ← eval e env; standAt pos; pure v)) none) Q E s
  refine wpAny_bind (wpAny_standAt ?_)
  unfold raiseStmt
  dsimp only
  refine wpAny_bind (wpAny_bind (wpAny_mono h (fun v s₁ h₁ => wpAny_bind (wpAny_standAt (wpAny_pure ?_))) fun _ _ x => x))
  obtain ⟨a, ob, od, t, rfl, X, I, hd, hE⟩ := h₁
  have hnt : Looks (model prog w) s₁.heap (isType (.ref a)) false := by
    intro A' Q' E' s' k q
    simp only [isType, loadHead]
    refine wpAny_bind (wpAny_loadPart (k _ _ I.at_) ?_)
    rw [hd]; exact wpAny_pure q
  have hty : Looks (model prog w) s₁.heap (typeOf (.ref a)) (.ref 31) := I.type
  have hinst : Looks (model prog w) s₁.heap (isInstance (.ref a) (.type "BaseException")) true := hty.andThen (looks_mroIn X (by k_is))
  have htt : Looks (model prog w) s₁.heap (typeOf (.ref 31)) (.type "type") := looks_typeIn X (by k_is)
  refine wpAny_bind (wpAny_pure ?_)
  dsimp only
  refine wpAny_bind (wpAny_holding ?_)
  unfold excFromValue isExcClass
  refine wpAny_bind (wpAny_bind (hnt.here ?_))
  simp only [Bool.false_eq_true, if_false]
  refine wpAny_pure ?_
  simp only [Bool.false_eq_true, if_false]
  refine wpAny_bind (hinst.here ?_)
  simp only [if_true]
  refine wpAny_pure (wpAny_bind (hnt.here ?_))
  simp only [Bool.false_eq_true, if_false]
  unfold raisedInstance
  refine wpAny_bind (wpAny_bind (hty.here (wpAny_bind (htt.here ?_))))
  rw [if_pos (by decide)]
  refine wpAny_pure ?_
  unfold setFlight
  refine wpAny_bind (wpAny_bind (wpAny_field I.at_ hd (x := .none) (by rfl) ?_))
  rw [if_neg (by decide)]
  exact wpAny_pure (wpAny_raiseNew_none hh hE)
end
section
variable {prog : Program} {w : World} {A : Around} {R : Result → Shared → Prop} {h : Heap} {g : Array GenState} {d : Drawn} {t : Nat} {os : OsState}
abbrev tupleOf (vs : List Value) : Obj := { cls := .type "tuple", data := .seq vs.toArray }
abbrev excObj (t : Addr) : Obj := { cls := .ref 31, data := excData t }
theorem makeSig {rest : List Value} (X : (Mine.hd.heap_39 w.params).In h) (hrest : rest.length ≤ sizeLine)
    (hq : codeAny (model prog w) (A.under (.builtin "type.__call__" ⟨.ref 31 :: rest, []⟩)) (.call (.ref 28) ⟨.ref (h.objs.size + 1) :: rest, []⟩) (InitBack (h.objs.size + 1) R) ⟨(h.push (tupleOf rest)).push (excObj h.objs.size), g, d, t, os⟩) :
    codeAny (model prog w) A (.call (.ref 31) ⟨rest, []⟩) R ⟨h, g, d, t, os⟩ := by
  have hC := X 31 _ (by k_is)
  have call : Looks (model prog w) h (specialOf (.ref 31) "__call__") (some (.builtin "type.__call__")) := looks_specialIn X (by k_is)
  have typ : Looks (model prog w) h (isInstance (.ref 31) (.type "type")) true := looks_instIn X (by k_is)
  refine codeAny_of_tree ?_
  show wpAny _ _ (callAny (.ref 31) _) _ _ _
  refine nd_load hC ?_
  show wpAny _ _ (callAny.viaDunder (.ref 31) _) _ _ _
  unfold callAny.viaDunder
  refine wpAny_bind (call.at ?_)
  dsimp only
  rw [tc_bind]
  refine wpAny_bind (wpAny_pure (wpAny_bind (wpAny_pure ?_)))
  refine wpAny_pure (a := Fin.again (.call (.builtin "type.__call__") ⟨.ref 31 :: rest, []⟩)) (And.intro rfl ?_)
  refine codeAny_call_builtin_at (Code.quiet_builtin _ (by decide +kernel)) entry_typeCall (check_slot tc_kind tc_split typ (tc_args _ _ _) ?_)
  unfold Builtin.«type.__call__»
  have made : Looks (model prog w) h (Bind.madeBy (.ref 31)) (some "Exception.__new__") := fun A' Q E s k q => by
    obtain ⟨h', g', d', t', os'⟩ := s
    exact wpAny_madeBy_exc (k _ _ hC) q
  have hm : Looks (model prog w) h (mroOf (.ref 31)) [.ref 31, .type "Exception", .type "BaseException", .type "object"] := fun A' Q E s k q => by
    obtain ⟨h', g', d', t', os'⟩ := s
    exact wpAny_mroOf_exc (k _ _ hC) q
  repeat (first | simp only [List.isEmpty_cons, Bool.false_eq_true, if_false] | with_reducible refine wpAny_call ?_ | lk)
  have EF := PySem.F.excBase_Exception
  refine codeAny_call_builtin_code (Code.quiet_builtin _ EF.quiet) (wpAny_check_new_sub EF hC ?_)
  refine codeAny_exc_new_sub EF hC ?_ hrest
  have k : ∀ b o, h.get? b = some o → ((h.push (tupleOf rest)).push (excObj h.objs.size)).get? b = some o := fun b o e => Heap.get?_push_of_some _ (Heap.get?_push_of_some _ e)
  have hx : ((h.push (tupleOf rest)).push (excObj h.objs.size)).get? (h.objs.size + 1) = some (excObj h.objs.size) := by heap_get
  have t1 : Looks (model prog w) ((h.push (tupleOf rest)).push (excObj h.objs.size)) (typeOf (.ref (h.objs.size + 1))) (.ref 31) := (Looks.ld hx).andThen .now
  have s1 : Looks (model prog w) ((h.push (tupleOf rest)).push (excObj h.objs.size)) (isSubtype (.ref 31) (.ref 31)) true := (looks_mroIn X (by k_is)).keeps k
  have i1 : Looks (model prog w) ((h.push (tupleOf rest)).push (excObj h.objs.size)) (typeLookup (.ref 31) "__init__") (some (.ref 28)) := (looks_findIn X (by k_is)).keeps k
  have b1 : Looks (model prog w) ((h.push (tupleOf rest)).push (excObj h.objs.size)) (bindSpecial (.ref 28) (.ref (h.objs.size + 1))) (.ref 28, [.ref (h.objs.size + 1)]) := (bind_fn X _ (by k_is)).keeps k
  dsimp only
  unfold isInstance callSpecial? specialOf
  repeat (first | with_reducible refine wpAny_call ?_ | lk)
  refine codeAny_mono hq fun r s' z => ?_
  rcases r with e | (v | _ | _ | _) <;> first | exact z | exact z.elim | skip
  obtain ⟨rfl, z⟩ := z
  exact wpAny_pure (wpAny_pure z)
end
section
variable {prog : Program} {w : World} {A : Around} {E : Value → Shared → Prop} {s : Shared} {h₀ : Heap} {L x : Addr} {m : Str → Option Value} {news : List (Addr × Obj)} {R : Result → Shared → Prop}
theorem makeSigN {rest : List Value} (F : Fr h₀ L s.heap m) (X : (Mine.hd.heap_39 w.params).In h₀) (N : News h₀ L s.heap news) (hrest : rest.length ≤ sizeLine)
    (h : ∀ e t h', Fr h₀ L h' m → News h₀ L h' ((e, excObj t) :: (t, tupleOf rest) :: news) → (∀ p ∈ news, p.1 < t) → t < e →
      codeAny (model prog w) (A.under (.builtin "type.__call__" ⟨.ref 31 :: rest, []⟩)) (.call (.ref 28) ⟨.ref e :: rest, []⟩) (InitBack e R) { s with heap := h' }) :
    codeAny (model prog w) A (.call (.ref 31) ⟨rest, []⟩) R s := by
  obtain ⟨hh, g, d, t, os⟩ := s
  have := (N.push F (tupleOf rest)).push (F.push _) (excObj hh.objs.size)
  rw [Heap.size_push] at this
  exact makeSig (X.keeps F.keep) hrest (h _ hh.objs.size _ ((F.push _).push _) this (fun p hp => Heap.lt_size (N p hp).1) (Nat.lt_succ_self _))
theorem sigCls (P : Params) : clsIn (Mine.hd.heap_39 P) 31 = some { name := "LispSignal", bases := [.type "Exception"], mro := [.ref 31, .type "Exception", .type "BaseException", .type "object"], ns := 30, qualname := "LispSignal" } := by k_is
theorem sig_open {ox : Obj} {od : Option Obj} {name : Str} {tk : Tok} {v : Value} (X : (Mine.hd.heap_39 w.params).In s.heap) (I : InstAt s.heap x ox 31 od) (ht : takerIn (Mine.hd.heap_39 w.params) 31 name = some none)
    (h : ∀ b, wpAny (model prog w) A.in1 (storeInOwnDict (.ref x) (.ref 31) (.str name tk) name v b)
      (fun fin s' => match fin with | .done f => R (.ok f) s' | .again c' => c'.quiet = true ∧ codeAny (model prog w) A c' R s') (fun e s' => R (.error e) s') s) :
    codeAny (model prog w) A (.call (.builtin "object.__setattr__") ⟨[.ref x, .str name tk, v], []⟩) R s := by
  have SF := PySem.F.store_object
  have sub : Looks (model prog w) s.heap (isInstance (.ref x) (.type "object")) true := I.type.andThen (looks_mroIn X (by k_is))
  refine codeAny_call_builtin SF.slot.plain SF.entry (@check_slot (model prog w) _ _ s "object.__setattr__" "object" "__setattr__" (.ref x) [.str name tk, v] [] _ SF.kind SF.split sub (SF.args (.ref x) (.str name tk) v) ?_)
  obtain ⟨attr, ha, hr⟩ := Option.bind_eq_some_iff.mp ht
  have hC := X 31 _ (by k_is)
  have hm : Looks (model prog w) s.heap (mroOf (.ref 31)) [.ref 31, .type "Exception", .type "BaseException", .type "object"] := fun A' Q E s k q => by
    obtain ⟨h', g', d', t', os'⟩ := s
    exact wpAny_mroOf_exc (k _ _ hC) q
  have L3 : Looks (model prog w) s.heap (storeTaker? attr) none := by
    cases attr with
    | none => cases hr; exact .now
    | some a =>
      obtain ⟨b, hb, e⟩ := Option.map_eq_some_iff.mp hr
      refine (looks_takesIn X hb).andThen ?_
      cases b with
      | false => exact .now
      | true => cases e
  rw [osa_eq, refuse_eq]
  refine wpAny_bind (wpAny_bind (I.type.here (wpAny_bind (hm.here ?_))))
  rw [refuseLoop_ref, show refuseLoop (.ref x) "__setattr__" [.type "Exception", .type "BaseException", .type "object"] = pure () from by kernel_rfl]
  exact wpAny_pure (wpAny_bind (I.type.here (wpAny_bind ((looks_findIn X ha).here (wpAny_bind (L3.here (h _)))))))
theorem storeIn {pre post : List (Addr × Obj)} {dx : Addr} {es es' : List DictEntry} {n n' : Nat} {name : Str} {tk : Tok} {v : Value} (F : Fr h₀ L s.heap m) (N : News h₀ L s.heap (pre ++ (dx, dictOf es n) :: post)) (h1 : ∀ p ∈ pre, p.1 ≠ dx) (h2 : ∀ p ∈ post, p.1 ≠ dx)
    (hl : (getL name es).isSome = true) (e : (putL name (PyData.keyHash w.params name) (.str name s.toks) v es, putN name es n) = (es', n')) (hz : es'.length ≤ 1000) {Q : PySem.Fin → Shared → Prop}
    (h : ∀ h', Fr h₀ L h' m → News h₀ L h' (pre ++ (dx, dictOf es' n') :: post) → Q (.done (.ret .none)) { s with heap := h', toks := s.toks + 1 }) :
    wpAny (model prog w) A (storeInDict dx (.str name tk) name v) Q E s := by
  obtain ⟨e1, e2⟩ := Prod.mk.inj e
  obtain ⟨U1, U2⟩ := news_upd (f := Obj.putName name (PyData.keyHash w.params name) (.str name s.toks) v) F N h1 h2 (by rw [putName_dict, e1, e2]) (by rfl)
  have D := (N (dx, dictOf es n) (by simp)).1
  have D' := (U2 (dx, dictOf es' n') (by simp)).1
  refine wpAny_bind (wpAny_pure (wpAny_bind ?_))
  unfold nsSet
  refine wpAny_bind (wpAny_bind (wpAny_askSetting (wpAny_pure (wpAny_bind (wpAny_mkText (wpAny_bind (wpAny_loadPart D ?_)))))))
  dsimp only
  have c : (!es.any (·.key.isStr name) && es.any (·.refKey)) = false := by
    unfold getL at hl
    split at hl
    · rename_i en he
      rw [List.any_eq_true.mpr ⟨en, List.mem_of_find?_eq_some he, List.find?_some he⟩]; rfl
    · split at hl
      · cases hl
      · rename_i z; rw [Bool.not_eq_true] at z; rw [z, Bool.and_false]
  have c' : aRefKeyMayBeTheName name es.toArray = false := by
    rw [aRefKeyMayBeTheName_at, ← c]
    simp
  rw [c']
  refine wpAny_updatePart D ?_
  refine wpAny_bind (wpAny_lookBehind D' (pastItsLine_dict (by rw [List.size_toArray, sizeLine_eq]; omega)) ?_)
  exact wpAny_pure (h _ U1 U2)
abbrev excWith (t dx : Addr) : Obj := { cls := .ref 31, dict := some dx, data := excData t }
theorem sig_set0 {t : Addr} {name : Str} {v : Value} {Q : Unit → Shared → Prop} (F : Fr h₀ L s.heap m) (X : (Mine.hd.heap_39 w.params).In h₀) (N : News h₀ L s.heap ((x, excObj t) :: news)) (hne : ∀ p ∈ news, p.1 ≠ x) (ht : takerIn (Mine.hd.heap_39 w.params) 31 name = some none)
    (h : ∀ dx k h' tk', Fr h₀ L h' m → News h₀ L h' ((dx, dictOf [⟨PyData.keyHash w.params name, .str name k, v⟩] 1) :: (x, excWith t dx) :: news) → (∀ p ∈ news, p.1 < dx) → x < dx → Q () { s with heap := h', toks := tk' }) :
    wpAny (model prog w) A (setAttr (.ref x) name v) Q E s := by
  have X' := X.keeps F.keep
  have I : InstAt s.heap x (excObj t) 31 none := ⟨(N _ (.head _)).1, rfl, rfl, trivial⟩
  refine set_plain X' I (by k_is) (sig_open (s := { s with toks := s.toks + 1 }) X' I ht fun b => ?_)
  refine wpAny_bind (wpAny_pure (wpAny_bind ?_))
  refine wpAny_bind (wpAny_loadPart I.at_ ?_)
  refine wpAny_bind (looks_clsIn X' (sigCls _) _ _ _ _ (fun _ _ e => e) ?_)
  refine wpAny_bind (wpAny_alloc (wpAny_bind ?_))
  have N1 := (News.push F N emptyDict)
  have F1 := (F.push emptyDict)
  have hlt := fun p hp => Heap.lt_size (N p (.tail _ hp)).1
  have hxl : x < s.heap.objs.size := Heap.lt_size (N _ (.head _)).1
  obtain ⟨F2, N2⟩ := news_upd (pre := [(s.heap.objs.size, emptyDict)]) (post := news) (d := x) (o := excObj t) (o' := excWith t s.heap.objs.size) (f := fun o => { o with dict := some s.heap.objs.size }) F1 N1
    (by intro p hp; rw [List.mem_singleton.mp hp]; exact Nat.ne_of_gt hxl) hne rfl rfl
  refine wpAny_update (N1 _ (.tail _ (.head _))).1 ?_
  refine wpAny_pure ?_
  refine storeIn (pre := []) F2 N2 (fun _ hp => nomatch hp) (fun p hp => ?_) rfl rfl (Nat.le_of_ble_eq_true rfl) fun h' F3 N3 => ?_
  · rcases List.mem_cons.mp hp with rfl | hp
    · exact Nat.ne_of_lt hxl
    · exact Nat.ne_of_lt (hlt p hp)
  · exact h _ _ _ _ F3 N3 hlt hxl
theorem sig_set1 {t dx : Addr} {es es' : List DictEntry} {n n' : Nat} {name : Str} {v : Value} {Q : Unit → Shared → Prop} (F : Fr h₀ L s.heap m) (X : (Mine.hd.heap_39 w.params).In h₀) (N : News h₀ L s.heap ((dx, dictOf es n) :: (x, excWith t dx) :: news)) (hne : ∀ p ∈ news, p.1 ≠ dx) (hx : x ≠ dx) (ht : takerIn (Mine.hd.heap_39 w.params) 31 name = some none)
    (hl : (getL name es).isSome = true) (e : (putL name (PyData.keyHash w.params name) (.str name (s.toks + 1)) v es, putN name es n) = (es', n')) (hz : es'.length ≤ 1000)
    (h : ∀ h' tk', Fr h₀ L h' m → News h₀ L h' ((dx, dictOf es' n') :: (x, excWith t dx) :: news) → Q () { s with heap := h', toks := tk' }) :
    wpAny (model prog w) A (setAttr (.ref x) name v) Q E s := by
  have X' := X.keeps F.keep
  have I : InstAt s.heap x (excWith t dx) 31 (some (dictOf es n)) := ⟨(N _ (.tail _ (.head _))).1, rfl, rfl, (N _ (.head _)).1⟩
  refine set_plain X' I (by k_is) (sig_open (s := { s with toks := s.toks + 1 }) X' I ht fun b => ?_)
  refine wpAny_bind (wpAny_pure (wpAny_bind ?_))
  refine wpAny_bind (wpAny_loadPart I.at_ ?_)
  refine wpAny_bind (looks_clsIn X' (sigCls _) _ _ _ _ (fun _ _ e => e) ?_)
  refine wpAny_pure (a := some dx) ?_
  refine storeIn (s := { s with toks := s.toks + 1 }) (pre := []) F N (fun _ hp => nomatch hp) (fun p hp => ?_) hl e hz fun h' F3 N3 => h _ _ F3 N3
  rcases List.mem_cons.mp hp with rfl | hp
  · exact hx
  · exact hne p hp
end
end Mine
end

-- part G1
section
open PySem PySem.W PyProof.Rows PySem.Calls PyProof.V PySem.Spec
set_option maxRecDepth 100000
set_option maxHeartbeats 2000000
namespace Mine
section
variable {prog : Program} {w : World} {A : Around} {E : Value → Shared → Prop} {s : Shared} {env : Env} {h₀ : Heap} {x : Str} {body : List Stmt} {Q : Flow → Shared → Prop}
/-- a turn's end: the ledger may have grown; the iterator stands -/
noncomputable def TurnG (h₀ : Heap) (L : Addr) (J : (Str → Option Value) → List (Addr × Obj) → Prop) (I : Addr) (oI : Obj) (s₁ : Shared) (Q : Flow → Shared → Prop) (f : Flow) (s₂ : Shared) : Prop :=
  match f with
  | .ret v => Q (.ret v) s₂
  | .brk => Q .next s₂
  | _ => ∃ h' tk m' nx, s₂ = { s₁ with heap := h', toks := tk } ∧ Fr h₀ L h' m' ∧ News h₀ L h' ((I, oI) :: nx) ∧ (∀ p ∈ nx, p.1 ≠ I) ∧ J m' nx
theorem rangeG {r : Addr} {a₀ b₀ : Int} {t₀ u₀ v₀ : Tok} {n : Nat} {m₀ : Str → Option Value} {news : List (Addr × Obj)} (J : Nat → (Str → Option Value) → List (Addr × Obj) → Prop)
    (hh : A.handled = none) (hr : IsRange s.heap r a₀ b₀ 1 t₀ u₀ v₀) (hsmall : Builtin.Range.small a₀ b₀ 1 = true) (hn : Builtin.Range.rangeSize a₀ b₀ 1 = (n : Int)) (F : Fr h₀ env.locals s.heap m₀) (N : News h₀ env.locals s.heap news) (hj : J 0 m₀ news)
    (turn : ∀ i t m₁ nx h tk I oI, i < n → (∀ p ∈ nx, p.1 ≠ I) → J i m₁ nx → Fr h₀ env.locals h (fun y => if y = x then some (.int (a₀ + (i : Int)) t) else m₁ y) → News h₀ env.locals h ((I, oI) :: nx) →
      wpAny (model prog w) A (execs body env) (TurnG h₀ env.locals (J (i + 1)) I oI { s with heap := h, toks := tk } Q) E { s with heap := h, toks := tk })
    (done : ∀ m₁ nx h tk, J n m₁ nx → Fr h₀ env.locals h m₁ → News h₀ env.locals h nx → Q .next { s with heap := h, toks := tk }) :
    wpAny (model prog w) A (pyIter (.ref r)) (fun it s₂ => LoopAtV prog w A h₀ env x body Q E it s₂) E s := by
  refine wpAny_pyIter_range hr hsmall ?_
  have W : Walks prog w A s.heap.objs.size [s.heap.objs.size] [s.heap.objs.size] n (fun i v => i < n ∧ ∃ t, v = .int (a₀ + i * 1) t)
      (fun i h => IsRangeIter h s.heap.objs.size (a₀ + (i : Nat) * 1) ((n : Int) - (i : Nat)) 1) := (Walks.range hh _ a₀ 1 n).bound
  refine ⟨s.heap.objs.size, [s.heap.objs.size], [s.heap.objs.size], n, _, _, m₀, news, J, rfl, W, ?_, ?_, ?_, (by show IsRangeIter _ _ _ _ _; rw [hn]; simpa using Heap.get?_push_size _ rfl), F.push _, (fun p hp => ⟨Heap.get?_push_of_some _ (N p hp).1, (N p hp).2⟩), hj, ?_, ?_⟩
  · intro hm
    exact absurd F.ns.lt ((List.mem_singleton.mp hm) ▸ Nat.lt_irrefl _)
  · intro b hb
    rw [List.mem_singleton.mp hb]
    exact next_is_new F
  · intro p hp hI
    exact absurd (Heap.lt_size (N p hp).1) ((List.mem_singleton.mp hI) ▸ Nat.lt_irrefl _)
  · rintro i v m₁ nx s₁ own ⟨h', tk', rfl⟩ hi ⟨_, t, rfl⟩ hJ hoff hown hget hall hst F₁ N₁
    obtain ⟨oI, hI⟩ : ∃ oI, h'.get? s.heap.objs.size = some oI := ⟨_, hst⟩
    have hmem : (s.heap.objs.size, oI) ∈ own := hall _ (.head _) (next_is_new F) _ hI
    have hne : ∀ p ∈ nx, p.1 ≠ s.heap.objs.size := fun p hp q => hoff p hp (by rw [q]; exact .head _)
    simp only [Int.mul_one] at F₁
    refine wpAny_mono (turn i t m₁ nx h' tk' _ oI hi hne hJ F₁ fun p hp => ?_) (fun f s₂ p => ?_) fun _ _ e => e
    · rcases List.mem_cons.mp hp with rfl | hp
      · exact N₁ _ (List.mem_append_left _ hmem)
      · exact N₁ _ (List.mem_append_right _ hp)
    · have fin : (∃ h'' tk m' nx', s₂ = { s with heap := h'', toks := tk } ∧ Fr h₀ env.locals h'' m' ∧ News h₀ env.locals h'' ((s.heap.objs.size, oI) :: nx') ∧ (∀ p ∈ nx', p.1 ≠ s.heap.objs.size) ∧ J (i + 1) m' nx') →
          LoopStepU h₀ env.locals [s.heap.objs.size] own (J (i + 1)) { s with heap := h', toks := tk' } .next s₂ := by
        rintro ⟨h'', tk, m', nx', rfl, F', N', hne', hJ'⟩
        refine ⟨rfl, h'', tk, m', nx', rfl, F', fun q hq => ?_, fun q hq hb => hne' q hq (List.mem_singleton.mp hb), hJ'⟩
        rcases List.mem_append.mp hq with hq | hq
        · have e1 := hget q hq
          have e2 : q.1 = s.heap.objs.size := List.mem_singleton.mp (hown q hq)
          have e3 : q = (s.heap.objs.size, oI) := by
            obtain ⟨q1, q2⟩ := q
            dsimp only at e2 e1
            subst e2
            rw [hI] at e1
            cases e1
            rfl
          rw [e3]
          exact N' _ (.head _)
        · exact N' _ (.tail _ hq)
      cases f with
      | ret v => exact .ret p
      | brk => exact .brk p
      | next => exact .next (fin p)
      | cont => exact .cont (fin p)
  · rintro h' tk m' news' F' N' _ hJ
    exact done m' news' h' tk hJ F' N'
end
end Mine
end

-- part G2
section
open PySem PySem.W PyProof.Rows PySem.Calls PyProof.V PySem.Spec
set_option maxRecDepth 100000
set_option maxHeartbeats 2000000
namespace Mine
section
variable {prog : Program} {w : World} {A : Around} {E : Value → Shared → Prop} {s : Shared} {h₀ : Heap} {L : Addr} {m : Str → Option Value} {news : List (Addr × Obj)}
theorem rangeCall {n : Int} {tn : Tok} {Q : Value → Shared → Prop} (F : Fr h₀ L s.heap m) (N : News h₀ L s.heap news)
    (h : ∀ r t u h' tk, Fr h₀ L h' m → News h₀ L h' news → IsRange h' r 0 n 1 t tn u → Q (.ref r) { s with heap := h', toks := tk }) :
    wpAny (model prog w) A (call (.type "range") [.int n tn]) Q E s :=
  call_range_1 (h _ _ _ _ _ (F.push _) (fun p hp => ⟨Heap.get?_push_of_some _ (N p hp).1, (N p hp).2⟩) (Heap.get?_push_size _ rfl))
variable {env : Env} {elt : Expr} {x : Str} {scope : Scope} {cl : List (Str × Addr)}
theorem compInd {S : List (Addr × Obj) → Prop} {P : Nat → Value → Prop} {Fin : List Value → List (Addr × Obj) → Prop} {n : Nat} (J : List Value → List (Addr × Obj) → Prop) (j0 : J [] news)
    (turn : ∀ i ys nw v I oI C oC D m₂ h tk (E' : Value → Shared → Prop), J ys nw → P i v → LCg.NsObj oC m₂ → m₂ x = some v → Fr h₀ L h m → News h₀ L h ((I, oI) :: (C, oC) :: (D, LCg.lst ys) :: nw) → LCg.Off3 I C D nw → ((@Ne Nat I C) ∧ (@Ne Nat I D) ∧ (@Ne Nat C D)) →
      wpAny (model prog w) A (eval elt (compEnvC scope cl C env)) (LCg.CompEnd h₀ L m { s with heap := h, toks := tk } I oI C oC D (LCg.lst ys) S (fun y nw' => J (ys ++ [y]) nw')) E' { s with heap := h, toks := tk })
    (fin : ∀ ys nw, ys.length = n → J ys nw → Fin ys nw) : LCg.CompRest prog w A h₀ L m env elt x scope cl s S P Fin n 0 [] news := by
  have key : ∀ (k i : Nat) (ys : List Value) (nw : List (Addr × Obj)), ys.length + k = n → J ys nw → LCg.CompRest prog w A h₀ L m env elt x scope cl s S P Fin k i ys nw := by
    intro k
    induction k with
    | zero => exact fun i ys nw hl hj => LCg.CompRest.zero (fin ys nw (by omega) hj)
    | succ k ih =>
      intro i ys nw hl hj
      refine LCg.CompRest.succ ?_
      intro v I oI C oC D m₂ h tk E' hv hC hx F N off ne
      refine wpAny_mono (turn i ys nw v I oI C oC D m₂ h tk E' hj hv hC hx F N off ne) (fun y s₂ hq => ?_) fun _ _ e => e
      obtain ⟨h', tk', nw', e, F', N', off', hS, hj'⟩ := hq
      exact ⟨h', tk', nw', e, F', N', off', hS, ih (i + 1) _ _ (by rw [List.length_append, List.length_singleton]; omega) hj'⟩
  exact key n 0 [] news (by simp) j0
end
end Mine
end

-- part G3
section
open PySem PySem.W PyProof.Rows PySem.Calls PyProof.V PySem.Spec
set_option maxRecDepth 100000
set_option maxHeartbeats 2000000
namespace Mine
section
variable {prog : Program} {w : World} {A : Around} {E : Value → Shared → Prop} {s : Shared} {env : Env} {h₀ : Heap} {target : Expr} {body : List Stmt} {Q : Flow → Shared → Prop}
theorem itemsInd {I : Addr} {cls : String} {keep NL : List (Addr × Obj)} (J : (Str → Option Value) → Prop) (hkeep : SubL keep NL)
    (fin : ∀ m h tk, J m → Fr h₀ env.locals h m → News h₀ env.locals h NL → Q .next { s with heap := h, toks := tk }) :
    ∀ (vs : List Value) (_ : ∀ v m h tk oI NL', NL' = NL → v ∈ vs → J m → Fr h₀ env.locals h m → News h₀ env.locals h ((I, oI) :: NL') →
      wpAny (model prog w) A (assign target env v) (fun _ s₂ => wpAny (model prog w) A (execs body env) (UnrPostW h₀ env.locals { s with heap := h, toks := tk } [(I, oI)] (fun m' n' => n' = NL' ∧ J m') Q) E s₂) E { s with heap := h, toks := tk }) (m : Str → Option Value), J m → ItemsRest prog w A E h₀ env target body Q s [(I, cls)] keep (vs.map .val) m NL
  | [], _, m, hj => fun h tk F N => fin m h tk hj F N
  | v :: vs, turn, m, hj => by
    intro u h tk e F
    have e' : u = v := e
    subst e'
    intro oI _ N
    refine wpAny_mono (turn u m h tk oI NL rfl (.head _) hj F N) (fun _ s₂ h₂ => wpAny_mono h₂ (fun f s₃ p => ?_) fun _ _ e => e) fun _ _ e => e
    have key : UnrEndW h₀ env.locals { s with heap := h, toks := tk } [(I, oI)] (fun m' n' => n' = NL ∧ J m') s₃ → UnrEndW h₀ env.locals { s with heap := h, toks := tk } [(I, oI)] (fun m' n' => SubL keep n' ∧ ItemsRest prog w A E h₀ env target body Q s [(I, cls)] keep (vs.map .val) m' n') s₃ := by
      rintro ⟨h', tk', m', news', e, F', N', off, rfl, hj'⟩
      exact ⟨h', tk', m', news', e, F', N', off, hkeep, itemsInd J hkeep fin vs (fun v m h tk oI NL' e hv => turn v m h tk oI NL' e (.tail _ hv)) m' hj'⟩
    cases f with
    | ret v => exact p
    | brk => exact p
    | next => exact key p
    | cont => exact key p
end
end Mine
end

-- part L0
section
open PySem PySem.W PyProof.Rows PySem.Calls
set_option maxRecDepth 100000
namespace Mine
theorem joinFl (fl : List Nat) : Txt.join ("" : Str) (List.map (fun c : Nat => (⟨#[c]⟩ : Str)) fl) = ⟨fl.toArray⟩ := by
  have e := join_nil_signs ⟨fl.toArray⟩
  have e2 : signs ⟨fl.toArray⟩ = List.map (fun c : Nat => (⟨#[c]⟩ : Str)) fl := by simp [signs]
  rw [e2] at e
  exact (PySem.StrLaws.glued_eq_join _ _).trans e
theorem sumFl (fl : List Nat) (x : Str) (hx : x.length = 0) (h : fl.length ≤ 3) : (List.map (fun y : Str => y.length) (List.map (fun c : Nat => (⟨#[c]⟩ : Str)) fl)).sum + (List.map (fun c : Nat => (⟨#[c]⟩ : Str)) fl).length * x.length ≤ 16777216 := by
  have e : (List.map (fun y : Str => y.length) (List.map (fun c : Nat => (⟨#[c]⟩ : Str)) fl)).sum = fl.length := by
    induction fl with
    | nil => rfl
    | cons a r ih =>
      simp only [List.map_cons, List.sum_cons, List.length_cons]
      rw [ih (by simp only [List.length_cons] at h; omega)]
      show 1 + _ = _
      omega
  rw [e, hx]
  omega
noncomputable def fieldT (n : Int) : Str := if 0 < n then Str.ofString (toString n) ++ "$" else ""
noncomputable def widthT (n : Int) : Str := if 0 < n then Str.ofString (toString n) else ""
noncomputable def sizeT (n : Int) : Str := if 0 ≤ n then "." ++ Str.ofString (toString n) else ""
theorem decLen : ∀ d : Nat, d < 100 → (Str.ofString (toString ((d : Nat) : Int))).length ≤ 2 := by decide +kernel
theorem decLenI {n : Int} (h0 : 0 ≤ n) (h1 : n < 100) : (Str.ofString (toString n)).length ≤ 2 := by
  obtain ⟨d, rfl⟩ := Int.eq_ofNat_of_zero_le h0
  exact decLen d (by omega)
theorem fieldLen {n : Int} (h1 : n < 100) : (fieldT n).length ≤ 3 := by
  unfold fieldT
  split
  · rw [Str.length_append]
    have := decLenI (n := n) (by omega) h1
    have e : ("$" : Str).length = 1 := rfl
    omega
  · exact Nat.zero_le _
theorem widthLen {n : Int} (h1 : n < 100) : (widthT n).length ≤ 2 := by
  unfold widthT
  split
  · exact decLenI (by omega) h1
  · exact Nat.zero_le _
theorem sizeLen {n : Int} (h1 : n < 100) : (sizeT n).length ≤ 3 := by
  unfold sizeT
  split
  · rw [Str.length_append]
    have := decLenI (n := n) (by omega) h1
    have e : ("." : Str).length = 1 := rfl
    omega
  · exact Nat.zero_le _
end Mine
end

-- what follows shares these lines
section
open PySem PySem.W PyProof.Rows Mine
local macro_rules | `(tactic| k_all) => `(tactic| assumption)
local macro_rules | `(tactic| k_mem) => `(tactic| first | assumption | exact List.Mem.head _ | (refine' List.Mem.tail _ ?_; k_mem))
local macro_rules | `(tactic| k_room) => `(tactic| (((try simp only [depth_under_make, depth_under_kw, depth_in1, depth_deeper, depth_caller]); (try dsimp only [ktrTop]); (simp only [recursionLimit] at *); omega)))
local macro_rules | `(tactic| units_room) => `(tactic| ((simp only [units_in1, units_deeper, Around.mark_units]); (try dsimp only [ktrTop]); omega))
local macro_rules | `(tactic| walk_at "subscriptTail Name Name ref int") => `(tactic| (k_here; k_dflt (refine my_subI (by k_asm) (by k_mem) (by with_reducible assumption) (by omega) (by omega) (by assumption) ?_ (by with_unfolding_all rfl)); intro _))
local macro_rules | `(tactic| walk_at "ite") => `(tactic| (k_here; first
  | (refine PySem.W.ite_pos ?hc ?_; (case hc => ((try simp only [decide_eq_true_eq, beq_iff_eq, bne_iff_ne, ne_eq]); omega)))
  | (refine PySem.W.ite_neg ?hc ?_; (case hc => ((try simp only [decide_eq_true_eq, beq_iff_eq, bne_iff_ne, ne_eq]); omega)))))
local macro_rules | `(tactic| walk_at "call builtin:len") => `(tactic| (k_here; k_dflt (refine my_len (by k_asm) (by k_mem) (by with_reducible assumption) (by omega) ?_); intro _ _; try dsimp only))
local macro_rules | `(tactic| walk_at "compareOp Eq ref ref") => `(tactic| (k_here; k_dflt (refine my_eq_nil (by k_asm) (by k_mem) (by k_mem) (by with_reducible assumption) (by units_room) ?_)))

namespace Mine
theorem flushD1 {M : PySem.Model} {A : PySem.Around} {E : PySem.Value → PySem.Shared → Prop} {s : PySem.Shared} {Q : PySem.Flow → PySem.Shared → Prop} {pos : PySem.Pos} {env : PySem.Env} (h : Q .next s) : PySem.wpAny M A (PySem.exec (PySem.Stmt.Pass pos) env) Q E s := by
  walk1
  exact h
end Mine

-- part D1
section
open PySem PySem.W PyProof.Rows
set_option maxRecDepth 100000
set_option maxHeartbeats 2000000
namespace Mine
local macro_rules | `(tactic| walk_at "subscriptTail Name Constant ref int") => `(tactic| (k_here; k_dflt (refine my_sub0 (by k_asm) (by k_mem) ?_ (by with_unfolding_all rfl))))
local macro_rules | `(tactic| walk_at "compareOp NotEq ref ref") => `(tactic| (k_here; k_dflt (refine my_ne_nil (by k_asm) (by k_mem) (by k_mem) (by with_reducible assumption) (by units_room) ?_)))
local macro_rules | `(tactic| walk_at "call builtin:list.pop") => `(tactic| (k_here; k_dflt (refine my_pop0 (by k_asm) (by k_asm) (by k_upd) (by assumption) ?_); intro h' F' N'; (try k_sweep)))
local macro_rules | `(tactic| walk_at "binaryOp FloorDiv int int") => `(tactic| (k_here; refine my_fdiv (by assumption) (by assumption) ?_; intro _; try dsimp only))
local macro_rules | `(tactic| walk_at "binaryOp Mod int int") => `(tactic| (k_here; refine my_mod (by assumption) ?_; intro _; try dsimp only))
theorem draw1 {w : World} {pv : Program} {lo : List Str} {mg mb : Str → Option Value} {mean : ExcName → Option Value} {dp un : Nat} {gd : Option (List Code)} {cn : Str} {cs : Scope} {a : Addr} {ccd : Value} {cl : List (Str × Addr)} {outer : List Env} {A₀ : Around} {base h₀ : Heap} {L : Addr} {m : Str → Option Value} {news : List (Addr × Obj)} {s : Shared} {Q E : Value → Shared → Prop}
  {d : Addr} {vs : List Value} {ns : List Int} {n : Nat} {many : Int} {tk : Tok}
  (B : Below A₀ base outer h₀) (F : Fr h₀ L s.heap m) (X : (Mine.hd.heap_39 w.params).In h₀) (N : News h₀ L s.heap ((d, listOf vs.toArray n) :: news)) (T : Top pv lo mean mg mb h₀) (hk : cs.kind = .function)
  (hd : ∀ p ∈ news, p.1 ≠ d) (hi : IntsAre vs ns) (hpos : ∀ x ∈ ns, 0 ≤ x ∧ x < 10 ^ 30) (hlen : ns.length ≤ 63) (hm0 : 0 < many) (hm1 : many < 10 ^ 30)
  (hdp : dp + 10 < recursionLimit) (hun : un + 200 < cLine)
  (ret : ∀ r t h' tk' vs' ns' n', Fr h₀ L h' m → News h₀ L h' ((d, listOf vs'.toArray n') :: news) → IntsAre vs' ns' → (∀ x ∈ ns', 0 ≤ x ∧ x < 10 ^ 30) → ns'.length ≤ 63 → 0 ≤ r → r < many → Q (.int r t) { s with heap := h', toks := tk' }) :
  wpAny (model PR w) (ktrTop dp un gd cn cs L a ccd cl outer) (call (.ref 102) [.ref d, .int many tk]) Q E s := by
  refine wpAny_call ?_
  k_dflt cell_enter
  clear F B N T X
  (rename Fr _ _ _ _ => F1); (rename News _ _ _ _ => N1)
  refine wpAny_execs_cons ?_
  refine While_inv2 (fun k m₁ nx => m₁ "deck" = some (.ref d) ∧ m₁ "many" = some (.int many tk) ∧ ∃ vs' ns' n', nx = (d, listOf vs'.toArray n') :: news ∧ IntsAre vs' ns' ∧ (∀ x ∈ ns', 0 ≤ x ∧ x < 10 ^ 30) ∧ ns'.length ≤ 63 ∧ k = ns'.length) F1 N1 ⟨rfl, rfl, vs, ns, n, rfl, hi, hpos, hlen, rfl⟩ ?_
  intro k m₁ nx h₁ tk₁ F2 N2 hJ
  refine Classical.byContradiction fun hng => ?_
  obtain ⟨e1, e2, vs', ns', n', rfl, hi', hpos', hlen', rfl⟩ := hJ
  refine hng ?_
  clear hng
  replace F2 := frOv F2 [("deck", .ref d), ("many", .int many tk)] (by simp [e1, e2])
  clear F1 N1 hi hpos hlen
  dsimp only [kstB] at F2
  clear e1 e2
  with_reducible show wpAny _ _ _ _ _ _
  k_fold
  cases hi' with
  | nil =>
    have hi' := IntsAre.nil
    (repeat' (first | (k_unfold; (try dsimp only)) | walk1 | (dsimp only; walk1) | (dsimp only; k_unfold; (try dsimp only)) | fail "no step"))
    (rename Fr _ _ _ _ => F3); (rename News _ _ _ _ => N3)
    refine leaveK_ F3 N3 ?_
    intro F4 N4
    exact ret 0 _ _ _ [] [] _ F4 (newsTl (newsTl N4)) hi' hpos' hlen' (by omega) (by omega)
  | @cons x xt vr nr hr =>
    have hi' := IntsAre.cons x xt hr
    have hx0 : 0 ≤ x := (hpos' x (.head _)).1
    have hx1 : x < 10 ^ 30 := (hpos' x (.head _)).2
    have hlr : vr.length ≤ 62 := by have := hr.length; simp only [List.length_cons] at hlen'; omega
    (repeat' (first | (k_unfold; (try dsimp only)) | walk1 | (dsimp only; walk1) | (dsimp only; k_unfold; (try dsimp only)) | fail "no step"))
    · (rename Fr _ _ _ _ => F3); (rename News _ _ _ _ => N3)
      refine leaveK_ F3 N3 ?_
      intro F4 N4
      exact ret 0 _ _ _ _ _ _ F4 (newsTl (newsTl N4)) hi' hpos' hlen' (by omega) (by omega)
    · (rename Fr _ _ _ _ => F3); (rename News _ _ _ _ => N3)
      exact ⟨_, _, _, _, nr.length, rfl, F3, newsTl N3, by simp, rfl, rfl, vr, nr, _, rfl, hr, fun y hy => hpos' y (.tail _ hy), by simp only [List.length_cons] at hlen'; omega, rfl⟩
    · (rename Fr _ _ _ _ => F3); (rename News _ _ _ _ => N3)
      refine leaveK_ F3 N3 ?_
      intro F4 N4
      (rename IntsAre (List.set _ _ _) (List.set _ _ _) => hi3)
      have hq0 : 0 ≤ x / many := Int.ediv_nonneg hx0 (by omega)
      have hq1 : x / many < 10 ^ 30 := by
        have := Int.ediv_le_self many hx0
        omega
      exact ret _ _ _ _ _ ((x / many) :: nr) _ F4 (newsTl (newsTl N4)) hi3 (fun y hy => by
        rcases List.mem_cons.mp hy with rfl | hy
        · exact ⟨hq0, hq1⟩
        · exact hpos' y (.tail _ hy)) hlen' (Int.emod_nonneg _ (by omega)) (Int.emod_lt_of_pos _ hm0)
theorem draw2 {w : World} {pv : Program} {lo : List Str} {mg mb : Str → Option Value} {mean : ExcName → Option Value} {dp un : Nat} {gd : Option (List Code)} {cn : Str} {cs : Scope} {a : Addr} {ccd : Value} {cl : List (Str × Addr)} {outer : List Env} {A₀ : Around} {base h₀ : Heap} {L : Addr} {m : Str → Option Value} {news : List (Addr × Obj)} {g : Obj → List (Addr × Obj)} {s : Shared} {Q E : Value → Shared → Prop}
  {d : Addr} {vs : List Value} {ns : List Int} {n : Nat} {many : Int} {tk : Tok}
  (B : Below A₀ base outer h₀) (F : Fr h₀ L s.heap m) (X : (Mine.hd.heap_39 w.params).In h₀) (N : News h₀ L s.heap news) (T : Top pv lo mean mg mb h₀) (hk : cs.kind = .function)
  (U : UpdF d (listOf vs.toArray n) news g) (hi : IntsAre vs ns) (hpos : ∀ x ∈ ns, 0 ≤ x ∧ x < 10 ^ 30) (hlen : ns.length ≤ 63) (hm0 : 0 < many) (hm1 : many < 10 ^ 30)
  (hdp : dp + 10 < recursionLimit) (hun : un + 200 < cLine)
  (ret : ∀ r t h' tk' vs' ns' n', Fr h₀ L h' m → News h₀ L h' (g (listOf vs'.toArray n')) → IntsAre vs' ns' → (∀ x ∈ ns', 0 ≤ x ∧ x < 10 ^ 30) → ns'.length ≤ 63 → 0 ≤ r → r < many → Q (.int r t) { s with heap := h', toks := tk' }) :
  wpAny (model PR w) (ktrTop dp un gd cn cs L a ccd cl outer) (call (.ref 102) [.ref d, .int many tk]) Q E s := by
  obtain ⟨rest, hne, N', _, _, back⟩ := newsOfUpd U N
  exact draw1 B F X N' T hk hne hi hpos hlen hm0 hm1 hdp hun fun r t h' tk' vs' ns' n' F' N'' => ret r t h' tk' vs' ns' n' F' (back _ _ N'')
end Mine
end

namespace Mine
theorem flushX2 {M : PySem.Model} {A : PySem.Around} {E : PySem.Value → PySem.Shared → Prop} {s : PySem.Shared} {Q : PySem.Flow → PySem.Shared → Prop} {pos : PySem.Pos} {env : PySem.Env} (h : Q .next s) : PySem.wpAny M A (PySem.exec (PySem.Stmt.Pass pos) env) Q E s := by
  walk1
  exact h
end Mine

-- part X2
section
open PySem PySem.W PyProof.Rows
set_option maxRecDepth 100000
set_option maxHeartbeats 2000000
namespace Mine
theorem sigMade {w : World} {pv : Program} {lo : List Str} {mg mb : Str → Option Value} {mean : ExcName → Option Value} {A A₀ : Around} {env : Env} {outer : List Env} {base h₀ : Heap} {L : Addr} {m : Str → Option Value} {news : List (Addr × Obj)} {s : Shared} {Q E : Value → Shared → Prop} {k : Tok} {lm : Addr}
  (B : Below A₀ base outer h₀) (F : Fr h₀ L s.heap m) (X : (Mine.hd.heap_39 w.params).In h₀) (N : News h₀ L s.heap news) (T : Top pv lo mean mg mb h₀) (hA : A.frames = some (env :: outer)) (hf : env.frame = some L) (hke : env.scope.kind = .function) (hroom : A.depth + 5 < recursionLimit)
  (h : ∀ e dx t es h' tk', Fr h₀ L h' m → News h₀ L h' ((dx, dictOf es 2) :: (e, excWith t dx) :: (t, tupleOf [.str "error" k, .ref lm]) :: news) → getL "symbol" es = some (some (.str "error" k)) → (∀ p ∈ news, p.1 < t) → t < e → e < dx → Q (.ref e) { s with heap := h', toks := tk' }) :
  wpAny (model PR w) A (call (.ref 31) [.str "error" k, .ref lm]) Q E s := by
  refine wpAny_call (makeSigN F X N (by size_fits) fun e t h₁ F1 N1 l1 l2 => ?_)
  refine' code_def B F1 X N1 T ?kA hf hke ?k6 ?k7 ?k8 ?k9 ?kB ?_ ?c2 ?c3 ?c4 ?c5
  (case kA => exact hA)
  (case k6 => k_is)
  (case k7 => k_is)
  (case k8 => k_room)
  (case k9 => exact BindsTo.of_eq rfl)
  (case kB => exact locs rfl)
  (case c2 => exact rfl)
  (case c3 => exact rfl)
  (case c4 => exact rfl)
  (case c5 => decide)
  intro g' L' h2 FG' F' N' B' X' T'
  dsimp only
  clear F B N T X F1 N1
  replace F' := frOv F' [("self", .ref e), ("symbol", .str "error" k), ("data", .ref lm)] (by intro p hp; simp only [List.mem_cons, List.not_mem_nil, or_false] at hp; rcases hp with rfl | rfl | rfl <;> rfl)
  dsimp only [kstB] at F'
  (repeat' (first | (k_unfold; (try dsimp only)) | ((fail_if_success (with_reducible show wpAny _ _ (PySem.setAttr _ _ _) _ _ _)); first | walk1 | (dsimp only; walk1) | (dsimp only; k_unfold; (try dsimp only))) | fail "no step"))
  refine sig_set0 F' X' N' (fun p hp => ?_) (by k_is) fun dx k1 h3 tk3 F3 N3 l3 l4 => ?_
  · rcases List.mem_cons.mp hp with rfl | hp
    · exact Nat.ne_of_lt l2
    · exact Nat.ne_of_lt (Nat.lt_trans (l1 p hp) l2)
  clear F' N'
  (repeat' (first | (k_unfold; (try dsimp only)) | ((fail_if_success (with_reducible show wpAny _ _ (PySem.setAttr _ _ _) _ _ _)); first | walk1 | (dsimp only; walk1) | (dsimp only; k_unfold; (try dsimp only))) | fail "no step"))
  refine sig_set1 F3 X' N3 (fun p hp => Nat.ne_of_lt (l3 p hp)) (Nat.ne_of_lt l4) (by k_is) rfl rfl (Nat.le_of_ble_eq_true rfl) fun h4 tk4 F4 N4 => ?_
  clear F3 N3
  (repeat' (first | (k_unfold; (try dsimp only)) | ((fail_if_success (with_reducible show wpAny _ _ (PySem.setAttr _ _ _) _ _ _)); first | walk1 | (dsimp only; walk1) | (dsimp only; k_unfold; (try dsimp only))) | fail "no step"))
  refine leaveK_ F4 N4 ?_
  intro F5 N5
  refine ⟨rfl, ?_⟩
  exact h _ _ _ _ _ _ F5 N5 rfl l1 l2 l4
end Mine
end

namespace Mine
theorem flushX3 {M : PySem.Model} {A : PySem.Around} {E : PySem.Value → PySem.Shared → Prop} {s : PySem.Shared} {Q : PySem.Flow → PySem.Shared → Prop} {pos : PySem.Pos} {env : PySem.Env} (h : Q .next s) : PySem.wpAny M A (PySem.exec (PySem.Stmt.Pass pos) env) Q E s := by
  walk1
  exact h
end Mine

-- part X3
section
open PySem PySem.W PyProof.Rows
set_option maxRecDepth 100000
set_option maxHeartbeats 2000000
namespace Mine
/-- a tree that turns no object's own dict -/
noncomputable def Safe {α : Type} : Sem α → Prop
  | .pure _ | .raise _ | .unsupported _ | .finish _ | .register _ _ | .yield .. | .fork .. | .await .. => True
  | .rule _ k | .at _ k | .point _ k => Safe (k ())
  | .load _ _ k => ∀ o, Safe (k o)
  | .update _ _ f k => (∀ o, (f o).dict = o.dict) ∧ Safe (k ())
  | .loadIfAlive _ k => ∀ o, Safe (k o)
  | .alloc _ k => ∀ a, Safe (k a)
  | .fresh k => ∀ t, Safe (k t)
  | .ask k => ∀ x, Safe (k x)
  | .choose _ _ k => ∀ n, Safe (k n)
  | .os _ _ k => ∀ r, Safe (k r)
  | .handled _ k => ∀ v, Safe (k v)
  | .genState _ k => ∀ x, Safe (k x)
  | .newGen _ k => ∀ n, Safe (k n)
  | .stack k => ∀ l, Safe (k l)
  | .thread k => ∀ n, Safe (k n)
  | .call .. | .resume .. => False
noncomputable def DictAt (e dx : Addr) (s : Shared) : Prop := e < s.heap.objs.size ∧ ∀ o, s.heap.get? e = some o → o.dict = some dx
theorem DictAt.update {e dx a : Addr} {f : Obj → Obj} {s : Shared} (d : DictAt e dx s) (hf : ∀ o, (f o).dict = o.dict) (hs : (s.heap.get? a).isSome) : DictAt e dx { s with heap := s.heap.update a f } := by
  refine ⟨by show e < (s.heap.update a f).objs.size; rw [Heap.size_after_update]; exact d.1, fun o' g => ?_⟩
  by_cases q : a = e
  · subst q
    obtain ⟨o, ho⟩ := Option.isSome_iff_exists.mp hs
    obtain ⟨e1, _⟩ := Heap.get?_some_iff.mp ho
    obtain ⟨e2, _⟩ := Heap.get?_some_iff.mp g
    have : (s.heap.update a f).objs = s.heap.objs.modify a f := rfl
    simp only at e2
    rw [this, Array.getElem?_modify, if_pos rfl, e1] at e2
    rw [← Option.some.inj e2, hf]
    exact d.2 o ho
  · have g' : s.heap.get? e = some o' := (Heap.get?_update_other s.heap f q).symm.trans g
    exact d.2 _ g'
theorem DictAt.push {e dx : Addr} {o : Obj} {s : Shared} (d : DictAt e dx s) : DictAt e dx { s with heap := s.heap.push o } := by
  refine ⟨by show e < (s.heap.push o).objs.size; rw [Heap.size_push]; exact Nat.lt_succ_of_lt d.1, fun o' g => d.2 o' ?_⟩
  obtain ⟨e1, e2⟩ := Heap.get?_some_iff.mp g
  refine Heap.get?_some_iff.mpr ⟨?_, e2⟩
  have : (s.heap.push o).objs = s.heap.objs.push o := rfl
  simp only at e1
  rw [this, Array.getElem?_push, if_neg (Nat.ne_of_lt d.1)] at e1
  exact e1
theorem safe_bind {α β : Type} {m : Sem α} {f : α → Sem β} (h1 : Safe m) (h2 : ∀ a, Safe (f a)) : Safe (m >>= f) := by
  show Safe (m.bind f)
  induction m <;> first
    | exact True.intro
    | exact h2 _
    | exact (show False from h1).elim
    | (rename_i ih; first | exact ih _ h1 | exact fun o => ih o (h1 o) | exact ⟨h1.1, ih _ h1.2⟩)
theorem wp_safe {α : Type} {M : Model} {Γ : Ctx} {e dx : Addr} {t : Sem α} {Q : α → Pos → Shared → Prop} {E : Value → Pos → Shared → Prop} {p : Pos} {s : Shared} (h : Sem.wp M Γ t Q E p s) (hs : Safe t) (hd : DictAt e dx s) :
    Sem.wp M Γ t (fun a p s' => Q a p s' ∧ DictAt e dx s') (fun v p s' => E v p s' ∧ DictAt e dx s') p s := by
  induction t generalizing p s
  case pure => exact ⟨h, hd⟩
  case raise => exact ⟨h, hd⟩
  case load ih => obtain ⟨o, ho, h⟩ := h; exact ⟨o, ho, ih o h (hs o) hd⟩
  case update ih => exact ⟨h.1, ih () h.2 hs.2 (hd.update hs.1 h.1)⟩
  case alloc ih => exact ih _ h (hs _) hd.push
  case choose ih => exact ⟨h.1, ih _ h.2 (hs _) hd⟩
  case genState ih => obtain ⟨st, e, h⟩ := h; exact ⟨st, e, ih _ h (hs _) hd⟩
  all_goals first
    | (rename_i ih; first | exact ih _ h hs hd | exact ih _ h (hs _) hd)
    | exact (show False from hs).elim
    | exact (show False from h).elim
    | exact h
    | exact True.intro
theorem wpAny_safe {α : Type} {M : Model} {A : Around} {e dx : Addr} {t : Sem α} {Q : α → Shared → Prop} {E : Value → Shared → Prop} {s : Shared} (h : wpAny M A t Q E s) (hs : Safe t) (hd : DictAt e dx s) :
    wpAny M A t (fun a s' => Q a s' ∧ DictAt e dx s') (fun v s' => E v s' ∧ DictAt e dx s') s := fun Γ p hΓ => wp_safe (h Γ p hΓ) hs hd
theorem safe_load {a : Addr} : Safe (load a) := fun _ => trivial
theorem safe_update {a : Addr} {f : Obj → Obj} (h : ∀ o, (f o).dict = o.dict) : Safe (update a f) := ⟨h, trivial⟩
theorem mapFields_dict (f : Array Value → Array Value) (o : Obj) : (Obj.mapFields f o).dict = o.dict := by
  obtain ⟨_, _, d, _⟩ := o
  cases d <;> rfl
theorem safe_field (v : Value) (i : Nat) : Safe (field v i) := by
  unfold field fieldsOf
  refine safe_bind ?_ fun vs => ?_
  · split
    · refine safe_bind safe_load fun o => ?_
      split <;> exact trivial
    · exact trivial
  · split <;> exact trivial
theorem safe_setField (v : Value) (i : Nat) (x : Value) : Safe (setField v i x) := by
  unfold setField
  split
  · unfold updateField
    refine safe_bind safe_load fun o => ?_
    split
    · split
      · exact safe_update (mapFields_dict _)
      · exact trivial
    · exact trivial
  · exact trivial
theorem safe_setFlight (e : Value) (fr : Option Addr) : Safe (setFlight e fr) := by
  unfold setFlight
  refine safe_bind (safe_field _ _) fun tb => ?_
  split
  · exact safe_setField _ _ _
  · exact trivial
theorem safe_ready : ∀ l : List Env, Safe (readyFrames l)
  | [] => trivial
  | env :: outer => by
    unfold readyFrames
    split
    · refine safe_bind safe_load fun o => ?_
      split
      · exact trivial
      · refine safe_bind ?_ fun im => safe_bind ?_ fun back => safe_bind (safe_update fun _ => rfl) fun _ => safe_ready outer
        · unfold behindIsImport
          split
          · exact trivial
          · split
            · exact trivial
            · exact safe_bind (safe_field _ _) fun _ => trivial
        · unfold keptBack
          split
          · split
            · exact trivial
            · exact safe_bind (safe_bind (fun _ => trivial) fun _ => trivial) fun _ => trivial
          · exact trivial
    · exact trivial
theorem safe_frameOf (env : Env) : Safe (PySem.frameOf env) := by
  unfold PySem.frameOf frameEnvs
  refine safe_bind (safe_bind (fun _ => trivial) fun _ => trivial) fun l => safe_bind ?_ fun o => ?_
  · unfold frameObject
    split
    · exact trivial
    · exact safe_bind (safe_ready _) fun _ => trivial
  · split <;> exact trivial
theorem safe_entry (head fr a b c : Value) (pl : List Value) : Safe (EntryCells.newEntry head fr a b c pl) := by
  unfold EntryCells.newEntry newFields newObj
  have one : ∀ d : Data, Safe (newObjAsIs (.type "traceback") d) := fun d => by
    unfold newObjAsIs
    exact safe_bind (fun _ => trivial) fun _ => trivial
  generalize ([head, fr, a, b, c] ++ if pl.isEmpty = true then List.replicate 6 Value.none else pl).toArray = arr
  dsimp only
  by_cases hz : arr.size > sizeLine + 2
  · rw [if_pos hz]; exact safe_bind trivial fun _ => one _
  · rw [if_neg hz]; exact one _
theorem safe_noteFrame (e : Value) (env : Env) : Safe (noteFrame e env) := by
  unfold noteFrame
  split
  · refine safe_bind (safe_field _ _) fun head => ?_
    have tail : ∀ d : Addr, Safe (do let a ← PySem.frameOf env; let pl ← entryPlaceOf d (head != .none); let b ← EntryCells.newEntry head a .none (rawInt d) .none pl; setField e 1 b) := fun d => by
      refine safe_bind (safe_frameOf _) fun _ => safe_bind ?_ fun _ => safe_bind (safe_entry _ _ _ _ _ _) fun _ => safe_setField _ _ _
      unfold entryPlaceOf
      refine safe_bind (fun _ => trivial) fun l => ?_
      split <;> exact trivial
    split
    · refine safe_bind (safe_field _ _) fun _ => ?_
      split
      · exact trivial
      · exact safe_bind (safe_setField _ _ _) fun _ => tail _
    · exact tail _
  · exact trivial
theorem safe_leaving (env : Env) (e : Value) : Safe (leaving env e) := safe_bind (safe_noteFrame _ _) fun _ => safe_setFlight _ _
end Mine
end

namespace Mine
theorem flushX4 {M : PySem.Model} {A : PySem.Around} {E : PySem.Value → PySem.Shared → Prop} {s : PySem.Shared} {Q : PySem.Flow → PySem.Shared → Prop} {pos : PySem.Pos} {env : PySem.Env} (h : Q .next s) : PySem.wpAny M A (PySem.exec (PySem.Stmt.Pass pos) env) Q E s := by
  walk1
  exact h
end Mine

-- part X4
section
open PySem PySem.W PyProof.Rows
set_option maxRecDepth 100000
set_option maxHeartbeats 2000000
namespace Mine
/-- an own exception on its way out -/
structure Flight (g H : Heap) (l : List Env) (news : List (Addr × Obj)) (e dx : Addr) (s : Shared) : Prop where
  kept : ∀ b o, g.get? b = some o → b ∉ l.filterMap (·.frame) → H.get? b = some o
  led : ∀ p ∈ news, H.get? p.1 = some p.2
  sym : ∃ es k, H.get? dx = some (dictOf es 2) ∧ getL "symbol" es = some (some (.str "error" k))
  fly : ∃ a0, Heap.FlyingW H l e (.ref 31) a0 s.heap
  own : DictAt e dx s
  up : g.UpToSlots s.heap
  newD : g.get? dx = none
section
variable {M : Model} {A : Around} {E : Value → Shared → Prop} {s : Shared} {g g2 g3 H base : Heap} {l : List Env} {news : List (Addr × Obj)} {e dx L : Addr} {env : Env} {m : Str → Option Value} {Q : Unit → Shared → Prop}
theorem self_none {h : Heap} (F : Fr g L h m) : g.get? L = none := by
  cases q : g.get? L with
  | none => rfl
  | some o => exact absurd (Nat.lt_of_lt_of_le (Heap.lt_size q) F.above) (Nat.lt_irrefl _)
theorem notIn {b : Addr} (hf : env.frame = some L) (h1 : b ≠ L) (h2 : b ∉ l.filterMap (·.frame)) : b ∉ (env :: l).filterMap (·.frame) := by
  rw [List.filterMap_cons, hf]
  intro h
  rcases List.mem_cons.mp h with h | h
  · exact h1 h
  · exact h2 h
theorem Flight.leave (hfr : A.frames = some (env :: l)) (hf : env.frame = some L) (x : Flight g3 H (env :: l) news e dx s) (FG : Fr g2 L g3 m)
    (hQ : ∀ h', Flight g2 H l news e dx { s with heap := h' } → Q () { s with heap := h' }) : wpAny M A (leaving env (.ref e)) Q E s := by
  obtain ⟨a0, hfl⟩ := x.fly
  refine wpAny_mono (wpAny_safe (Q := fun _ s' => ∃ h', s' = { s with heap := h' } ∧ Heap.FlyingW H l e (.ref 31) a0 h' ∧ s.heap.UpToSlots h') (E := E) (wpAny_leaves_onW hfr hf hfl fun h' x1 x2 => ⟨h', rfl, x1, x2⟩) (safe_leaving _ _) x.own) (fun _ s' h => ?_) fun _ _ h => h.1
  obtain ⟨⟨h', rfl, h1, h2⟩, h3⟩ := h
  exact hQ h' ⟨fun b o hb hn => x.kept b o (FG.keep b o hb) (notIn hf (fun q => by rw [q, self_none FG] at hb; cases hb) hn), x.led, x.sym, ⟨a0, h1⟩, h3, ((Heap.UpToSlots.of_keeps FG.keep).trans x.up).trans h2, kts_none FG.keep x.newD⟩
theorem Flight.less (x : Flight g H l news e dx s) {news' : List (Addr × Obj)} (hs : ∀ p ∈ news', p ∈ news) : Flight g H l news' e dx s := { x with led := fun p hp => x.led p (hs p hp) }
theorem sigLeaves {A₀ : Around} {a : Addr} {cn : Str} {cs : Scope} {ccd : Value} {cl : List (Str × Addr)} {t : Addr} {es : List DictEntry} {k : Tok} (B : Below A₀ base l g) (F : Fr g L s.heap m) (N : News g L s.heap ((dx, dictOf es 2) :: (e, excWith t dx) :: news))
    (hn : ∀ p ∈ news, p.1 < e) (hed : e < dx) (hs : getL "symbol" es = some (some (.str "error" k))) (hke : cs.kind = .function)
    (hQ : ∀ H h', Flight g H l news e dx { s with heap := h' } → Q () { s with heap := h' }) :
    wpAny M (A₀.deeper (envX cn cs L a ccd cl)) (leaving (envX cn cs L a ccd cl) (.ref e)) Q E s := by
  have B' := pushX (env := envX cn cs L a ccd cl) B F rfl hke
  have he := (N _ (.tail _ (.head _))).1
  have hin : ∀ env ∈ (envX cn cs L a ccd cl :: l), ∀ b, env.frame = some b → b ∈ e :: (envX cn cs L a ccd cl :: l).filterMap (·.frame) := fun env he b hb => .tail _ (List.mem_filterMap.mpr ⟨env, he, hb⟩)
  have hff := funFrames_hide B'.frames hin
  have hen : (hideAll s.heap (e :: (envX cn cs L a ccd cl :: l).filterMap (·.frame))).get? e = none := hideAll_none _ (.head _)
  have hst : (hideAll s.heap (e :: (envX cn cs L a ccd cl :: l).filterMap (·.frame))).StaysIn s.heap := fun b o q => of_hideAll _ q
  have inG : ∀ b ∈ l.filterMap (·.frame), ∃ o, g.get? b = some o := fun b hb => by
    obtain ⟨o, ho, _⟩ := (B.frames.mem hb).2
    exact ⟨o, ho⟩
  have out : ∀ b, g.get? b = none → b ≠ L → b ∉ (envX cn cs L a ccd cl :: l).filterMap (·.frame) := fun b hb h1 => notIn rfl h1 fun hm => by
    obtain ⟨o, ho⟩ := inG b hm
    rw [hb] at ho; cases ho
  refine wpAny_mono (wpAny_safe (dx := dx) (Q := fun _ s' => ∃ h', s' = { s with heap := h' } ∧ Heap.FlyingW (hideAll s.heap (e :: (envX cn cs L a ccd cl :: l).filterMap (·.frame))) l e (.ref 31) (.ref t) h' ∧ s.heap.UpToSlots h') (E := E)
    (wpAny_leaving_firstW (a0 := .ref t) B'.stack hff rfl he hst hen rfl rfl rfl fun h' hL => ?_) (safe_leaving _ _) ⟨Heap.lt_size he, fun o ho => ?_⟩) (fun _ s' h => ?_) fun _ _ h => h.1
  · obtain ⟨k1, ⟨_, _, k2⟩, k3, k4⟩ := hL
    exact ⟨h', rfl, ⟨k1, hen, k2, k3⟩, k4⟩
  · rw [he] at ho; cases ho; rfl
  · obtain ⟨⟨h', rfl, h1, h2⟩, h3⟩ := h
    refine hQ _ h' ⟨fun b o hb hn => ?_, fun p hp => ?_, ⟨es, k, ?_, hs⟩, ⟨_, h1⟩, h3, (Heap.UpToSlots.of_keeps F.keep).trans h2, (N _ (List.Mem.head _)).2.2⟩
    · refine hideAll_get _ (F.keep b o hb) fun hm => ?_
      rcases List.mem_cons.mp hm with q | hm
      · rw [q, (N _ (.tail _ (.head _))).2.2] at hb; cases hb
      · exact notIn rfl (fun q => by rw [q, self_none F] at hb; cases hb) hn hm
    · have n := N p (.tail _ (.tail _ hp))
      refine hideAll_get _ n.1 fun hm => ?_
      rcases List.mem_cons.mp hm with q | hm
      · exact absurd q (Nat.ne_of_lt (hn p hp))
      · exact out _ n.2.2 n.2.1 hm
    · have n := N _ (List.Mem.head _)
      refine hideAll_get _ n.1 fun hm => ?_
      rcases List.mem_cons.mp hm with q | hm
      · exact absurd q (Nat.ne_of_gt hed)
      · exact out _ n.2.2 n.2.1 hm
end
end Mine
end

namespace Mine
theorem flushS1 {M : PySem.Model} {A : PySem.Around} {E : PySem.Value → PySem.Shared → Prop} {s : PySem.Shared} {Q : PySem.Flow → PySem.Shared → Prop} {pos : PySem.Pos} {env : PySem.Env} (h : Q .next s) : PySem.wpAny M A (PySem.exec (PySem.Stmt.Pass pos) env) Q E s := by
  walk1
  exact h
end Mine

-- part S1
section
open PySem PySem.W PyProof.Rows
set_option maxRecDepth 100000
set_option maxHeartbeats 2000000
namespace Mine
noncomputable def freshSV : SV := ⟨-1, false, false, false, false, false, 0, -1, Str.ofString ""⟩
theorem mkspec {w : World} {pv : Program} {lo : List Str} {mg mb : Str → Option Value} {mean : ExcName → Option Value} {A A₀ : Around} {env : Env} {outer : List Env} {base h₀ : Heap} {L : Addr} {m : Str → Option Value} {news : List (Addr × Obj)} {s : Shared} {Q E : Value → Shared → Prop}
  (B : Below A₀ base outer h₀) (F : Fr h₀ L s.heap m) (X : (Mine.hd.heap_39 w.params).In h₀) (N : News h₀ L s.heap news) (T : Top pv lo mean mg mb h₀) (hA : A.frames = some (env :: outer)) (hf : env.frame = some L) (hke : env.scope.kind = .function) (hroom : A.depth + 5 < recursionLimit)
  (h : ∀ x dx es h' tk', Fr h₀ L h' m → News h₀ L h' ((x, instObj 51 dx) :: (dx, dictOf es 9) :: news) → SpecIs w.params es freshSV → (∀ p ∈ news, p.1 < dx) → dx < x → Q (.ref x) { s with heap := h', toks := tk' }) :
  wpAny (model PR w) A (call (.ref 51) []) Q E s := by
  refine' call_cls (K := Mine.hd.heap_39 w.params) (fI := 48) F X N (by k_is) (by k_is) (by k_is) ?_
  intro x dx h₁ F1 N1 l1 l2
  refine' code_def B F1 X N1 T ?kA hf hke ?k6 ?k7 ?k8 ?k9 ?kB ?_ ?c2 ?c3 ?c4 ?c5
  (case kA => exact hA)
  (case k6 => k_is)
  (case k7 => k_is)
  (case k8 => k_room)
  (case k9 => exact BindsTo.of_eq rfl)
  (case kB => exact locs rfl)
  (case c2 => exact rfl)
  (case c3 => exact rfl)
  (case c4 => exact rfl)
  (case c5 => decide)
  intro g' L' h2 FG' F' N' B' X' T'
  dsimp only
  clear F B N T X F1 N1
  replace F' := frOv F' [("self", .ref x)] (by intro p hp; simp only [List.mem_cons, List.not_mem_nil, or_false] at hp; subst hp; rfl)
  dsimp only [kstB] at F'
  have hne : ∀ p ∈ news, p.1 ≠ dx := fun p hp => Nat.ne_of_lt (l1 p hp)
  have hxd : x ≠ dx := Nat.ne_of_gt l2
  (repeat' (first | (k_unfold; (try dsimp only)) | walk1 | (dsimp only; walk1) | (dsimp only; k_unfold; (try dsimp only)) | fail "no step"))
  (rename Fr _ _ _ _ => F3); (rename News _ _ _ _ => N3)
  refine leaveK_ F3 N3 ?_
  intro F4 N4
  refine ⟨rfl, ?_⟩
  exact h _ _ _ _ _ F4 N4 (specI rfl) l1 l2
end Mine
end

namespace Mine
theorem flushX5 {M : PySem.Model} {A : PySem.Around} {E : PySem.Value → PySem.Shared → Prop} {s : PySem.Shared} {Q : PySem.Flow → PySem.Shared → Prop} {pos : PySem.Pos} {env : PySem.Env} (h : Q .next s) : PySem.wpAny M A (PySem.exec (PySem.Stmt.Pass pos) env) Q E s := by
  walk1
  exact h
end Mine

-- part X5
section
open PySem PySem.W PyProof.Rows PySem.Calls Builtin Builtin.ObjectAttr Builtin.Getset_descriptor
set_option maxRecDepth 100000
set_option maxHeartbeats 2000000
namespace Mine
section
variable {prog : Program} {w : World} {A : Around} {E : Value → Shared → Prop} {s : Shared}
theorem sigFind {P : Params} {es : List DictEntry} {n : Nat} {v : Value} (hs : getL "symbol" es = some (some v)) : findObj (Mine.hd.heap_39 P) 31 (some (dictOf es n)) "symbol" = some (.value v) := by
  have h1 : findIn (Mine.hd.heap_39 P) (.ref 31) "symbol" = some none := by k_is
  have h2 := sigCls P
  have h3 : W.ownOf { name := "LispSignal", bases := [.type "Exception"], mro := [.ref 31, .type "Exception", .type "BaseException", .type "object"], ns := 30, qualname := "LispSignal" } (some (dictOf es n)) "symbol" = some (some v) := by
    unfold W.ownOf
    rw [if_pos (by rfl)]
    exact hs
  unfold findObj
  rw [h2, Option.bind_some, h1, Option.bind_some]
  dsimp only
  rw [Option.bind_some, Option.bind_some]
  dsimp only
  rw [h3]
  rfl
theorem sigSym {e : Addr} {oe : Obj} {es : List DictEntry} {n : Nat} {v : Value} {expr : Bool} {Q : Value → Shared → Prop} (X : (Mine.hd.heap_39 w.params).In s.heap) (I : InstAt s.heap e oe 31 (some (dictOf es n)))
    (hs : getL "symbol" es = some (some v)) (hv : handedIn v = true) (h : Q v { s with toks := s.toks + 1 }) : wpAny (model prog w) A (getAttr (.ref e) "symbol" expr) Q E s := by
  obtain ⟨hh, g, d, t, os⟩ := s
  have FX := PySem.F.attr_Exception
  have L0 := I.type (M := model prog w)
  have L1 : Looks (model prog w) hh (typeLookup (.ref 31) "__getattribute__") (some (.builtin "BaseException.__getattribute__")) := looks_findIn X (by k_is)
  have L2 : Looks (model prog w) hh (typeLookup (.ref 31) "__getattr__") none := looks_findIn X (by k_is)
  have L3 : Looks (model prog w) hh (find (.ref e) (.ref 31) "symbol") (.value v) := looks_find X I (sigFind hs)
  have sub : Looks (model prog w) hh (isInstance (.ref e) (.type "BaseException")) true := I.type.andThen (looks_mroIn X (by k_is))
  have hx0 : (expr && onTheHeap (Value.builtin "BaseException.__getattribute__")) = false := by cases expr <;> rfl
  have hx2 : (Value.builtin "BaseException.__getattribute__" == Value.builtin "object.__getattribute__") = false := by decide +kernel
  have hx1 : (onTheHeap (Value.ref 31) && Value.builtin "BaseException.__getattribute__" == Value.builtin "object.__getattribute__") = false := by rw [hx2]; rfl
  have hk : builtinKind "BaseException.__getattribute__" = some .slot := by decide +kernel
  have hsplit : splitId "BaseException.__getattribute__" = some ("BaseException", "__getattribute__") := by decide +kernel
  have f3 := FX.ga.bind (.ref e)
  unfold getAttr getAttrBy
  refine wpAny_bind (wpAny_mkText (wpAny_holding (wpAny_bind (L0.at (wpAny_bind (L1.at ?_))))))
  dsimp only
  rw [hx1]
  simp only [Bool.false_eq_true, if_false]
  unfold getAttrByItsOwn hookBefore callGetattribute
  rw [hx0]
  simp only [Bool.false_eq_true, if_false]
  rw [if_pos (by rfl)]
  refine wpAny_bind (L2.at ?_)
  refine wpAny_bind (wpAny_attempt (wpAny_holding ?_))
  unfold boundAndCalled
  rw [f3]
  refine wpAny_bind (wpAny_pure ?_)
  dsimp only
  refine wpAny_call ?_
  refine codeAny_call_builtin FX.ga.plain F.entry_bexc_ga (@check_slot (model prog w) _ _ _ "BaseException.__getattribute__" "BaseException" "__getattribute__" (.ref e) [.str "symbol" t] [] _ hk hsplit sub (F.args_bexc_ga (.ref e) (.str "symbol" t)) ?_)
  have hsl : slotArgs "__getattribute__" 1 ⟨[.ref e, .str "symbol" t], []⟩ = pure (.ref e, [.str "symbol" t]) := by rfl
  unfold «object.__getattribute__»
  simp only [List.cons_append, List.nil_append]
  rw [hsl]
  refine wpAny_bind (wpAny_pure ?_)
  dsimp only
  refine wpAny_bind (wpAny_pure ?_)
  refine wpAny_bind (L0.at (wpAny_bind (L3.at ?_)))
  dsimp only
  refine wpAny_pure ?_
  dsimp only
  rw [handedOut_of hv]
  exact wpAny_pure h
end
end Mine
end

namespace Mine
theorem flushX6 {M : PySem.Model} {A : PySem.Around} {E : PySem.Value → PySem.Shared → Prop} {s : PySem.Shared} {Q : PySem.Flow → PySem.Shared → Prop} {pos : PySem.Pos} {env : PySem.Env} (h : Q .next s) : PySem.wpAny M A (PySem.exec (PySem.Stmt.Pass pos) env) Q E s := by
  walk1
  exact h
end Mine

-- part X6
section
open PySem PySem.W PyProof.Rows PySem.Calls
set_option maxRecDepth 100000
set_option maxHeartbeats 2000000
namespace Mine
section
variable {prog : Program} {w : World} {A₀ A : Around} {s : Shared} {base h₀ g₀ : Heap} {outer : List Env} {L a : Addr} {m : Str → Option Value} {cn : Str} {cs : Scope} {ccd : Value} {cl : List (Str × Addr)} {news : List (Addr × Obj)} {K : Frag} {p : Program} {loose : List Str} {mean : ExcName → Option Value} {pv : Program} {lo : List Str} {mg mb : Str → Option Value}
    {R : Result → Shared → Prop} {name qual : Str} {params : Arguments} {body : List Stmt} {scope : Scope} {dV kV doc pm cdv ct oc : Value} {an od : Option Addr} {osl : Array (Option Value)} {f : Addr} {args : Args} {binds : List (Str × Value)}
theorem kx_mem {env : Env} {L b : Addr} {outer : List Env} (hf : env.frame = some L) (hm : b ∈ (env :: outer).filterMap (·.frame)) : b = L ∨ b ∈ outer.filterMap (·.frame) := by
  rw [List.filterMap_cons, hf] at hm
  exact List.mem_cons.mp hm
theorem kx_enter (B : Below A₀ base outer h₀) (F : Fr h₀ L s.heap m) (N : News h₀ L s.heap news) (hA : A.frames = some (envX cn cs L a ccd cl :: outer)) (hck : cs.kind = .function) :
    ∃ oL es ep, (hideAll s.heap (news.map (·.1))).get? L = some oL ∧ oL.data = .dict es ep ∧ (∀ h', h'.get? L = some oL → Heap.Ns h' L m) ∧ (∀ (sl : Array (Option Value)) h', h'.get? L = some { oL with slots := sl } → Heap.Ns h' L m) ∧
      h₀.StaysIn (hideAll s.heap (news.map (·.1))) ∧ Below A base (envX cn cs L a ccd cl :: outer) (hideAll s.heap (news.map (·.1))) := by
  have nm : ∀ b o, h₀.get? b = some o → b ∉ news.map (·.1) := fun b o e q => by
    obtain ⟨p, hp, rfl⟩ := List.mem_map.mp q
    rw [(N p hp).2.2] at e; cases e
  have st : h₀.StaysIn (hideAll s.heap (news.map (·.1))) := fun b o e => hideAll_get _ (F.keep b o e) (nm b o e)
  obtain ⟨oL, es, ep, hL, hLd, hLk, hLf⟩ := F.ns
  have nL : L ∉ news.map (·.1) := fun q => by
    obtain ⟨p, hp, e⟩ := List.mem_map.mp q
    exact (N p hp).2.1 e
  have hLg := hideAll_get (news.map (·.1)) hL nL
  have B₁ := pushX (env := envX cn cs L a ccd cl) B F rfl hck
  exact ⟨oL, es, ep, hLg, hLd, fun h' e => ⟨oL, es, ep, e, hLd, hLk, hLf⟩, fun sl h' e => ⟨_, es, ep, e, hLd, hLk, hLf⟩, st, ⟨hA, fun b o e => st b o (B.stays b o e), funFrames_hideAll B₁.frames fun env he b hb hf => by
    cases he with
    | head => exact nL ((Option.some.inj hf : L = b) ▸ hb)
    | tail _ he =>
      obtain ⟨L₁, o₁, hf₁, ho₁⟩ := funFrames_in B.frames env he
      rw [hf₁] at hf
      exact nm L₁ o₁ ho₁ ((Option.some.inj hf : L₁ = b) ▸ hb)⟩⟩
theorem code_tryX (B : Below A₀ base [] h₀) (F : Fr h₀ L s.heap m) (X₀ : K.In h₀) (N : News h₀ L s.heap news) (T : Top p loose mean mg mb h₀) (hA : A.frames = some [envX cn cs L a ccd cl])
    (ho : K.lookup f = some ⟨oc, od, .func (fnOf name qual params body scope dV kV doc pm an cdv ct), osl⟩) (hcd : codeIn K cdv qual = true) (hroom : A.depth < recursionLimit)
    (hbind : BindsTo s (fnOf name qual params body scope dV kV doc pm an cdv ct) args binds) (hloc : ∀ y ∈ binds, scope.names.lookup y.1 = some .local)
    (h : ∀ g L' h₁, Fr h₀ L g m → Fr g L' h₁ (fun y => binds.reverse.lookup y) → News g L' h₁ news → Below A h₀ [envX cn cs L a ccd cl] g → K.In g → Top p loose mean mg mb g → KtsDicts ([envX cn cs L a ccd cl].filterMap (·.frame)) g →
      wpAny (model prog w) (A.deeper (envOf qual scope L' f cdv)) (execs body (envOf qual scope L' f cdv))
        (fun fl s' => LeaveS0 ([envX cn cs L a ccd cl].filterMap (·.frame)) h₀ L m g R (match fl with | .ret v => v | _ => .none) s')
        (fun e s' => wpAny (model prog w) (A.deeper (envOf qual scope L' f cdv)) (leaving (envOf qual scope L' f cdv) e) (fun _ s'' => R (.error e) s'') (fun e' s'' => R (.error e') s'') s')
        { s with heap := h₁, toks := s.toks + binds.length })
    (hck : cs.kind = .function) (hco : scope.isCoroutine = false) (hgen : scope.isGenerator = false) (hk : scope.kind = .function)
    (hcell : ∀ x ∈ scope.names, x.2 ≠ .cell) : codeAny (model prog w) A (.call (.ref f) args) R s := by
  have B : Below A₀ h₀ [] h₀ := ⟨B.stack, fun _ _ e => e, True.intro⟩
  have X := X₀.keeps F.keep
  refine codeAny_call_def (fd := fnOf name qual params body scope dV kV doc pm an cdv ct) (body := body) (binds := binds) hroom (X _ _ ho) rfl (T.nolimit.keeps F.keep) (codeRec_of X hcd) rfl hbind hcell hloc (fun h₁ hns hk₁ => ?_) hco hgen hk
  obtain ⟨oL, es, ep, hLg, hLd, hN, hNs, st, B₂⟩ := kx_enter B F N hA hck
  refine wpAny_mono (h _ s.heap.objs.size h₁ ⟨hN _ hLg, st, F.above⟩ ⟨hns, fun b o e => hk₁ b o (of_hideAll _ e), Nat.le_of_eq (hideAll_size _ _)⟩
    (fun p hp => ⟨hk₁ _ _ (N p hp).1, Nat.ne_of_lt (Heap.lt_size (N p hp).1), hideAll_none _ (List.mem_map_of_mem hp)⟩) B₂ (X₀.keeps st) (T.keeps st) (fun b hb => by
      rcases kx_mem rfl hb with rfl | z
      · exact ⟨oL, es, ep, hLg, hLd⟩
      · simp at z)) (fun fl s' hl => ?_) fun _ _ y => y
  obtain ⟨g', L', m', news', T', F', N', k⟩ := hl
  have nL₀ : h₀.get? L = none := kts_self F
  obtain ⟨sl, hs⟩ := T'.up hLg
  refine k ⟨hNs sl _ (F'.keep _ _ hs), fun b o e => F'.keep b o (T'.other b o (st b o e) (fun q => by
    rcases kx_mem rfl q with z | z
    · rw [z, nL₀] at e
      cases e
    · simp at z)), F.above⟩ fun p hp => ⟨(N' p hp).1, fun q => ?_, ?_⟩
  · have := (N' p hp).2.2; rw [q, hs] at this; cases this
  · cases q : h₀.get? p.1 with
    | none => rfl
    | some o =>
      obtain ⟨sl', hs'⟩ := T'.up (st _ _ q)
      have := (N' p hp).2.2
      rw [hs'] at this
      cases this
end
section
variable {w : World} {A₀ : Around} {E : Value → Shared → Prop} {s' : Shared} {base g g₀ G H : Heap} {outer : List Env} {L a e dx : Addr} {m : Str → Option Value} {name : Str} {scope : Scope} {cd : Value}
  {n : Str} {b₀ : Stmt} {suite : List Stmt} {pos np : Pos} {rest : List ExceptHandler} {Q : Flow → Shared → Prop} {news : List (Addr × Obj)}
  {mean : ExcName → Option Value} {pv : Program} {lo : List Str} {mg mb : Str → Option Value}
/-- what is caught: the exception, its dictionary, the ledger -/
noncomputable def GotSig (news₂ : List (Addr × Obj)) (news : List (Addr × Obj)) (e dx : Addr) : Prop :=
  ∃ oe es k ws, news₂ = (e, oe) :: (dx, dictOf es 2) :: news ∧ oe.cls = .ref 31 ∧ oe.data = .fields ws ∧ oe.dict = some dx ∧ getL "symbol" es = some (some (.str "error" k))
theorem caughtSig (x : Flight G H (envOf name scope L a cd :: outer) news e dx s') (F : Fr g L G m) (K : Below A₀ base outer g) (NG : ∀ p ∈ news, g.get? p.1 = none) (XB : (Mine.hd.heap_39 w.params).In base) (TB : Top pv lo mean mg mb base)
    (k : ∀ h' g' news₂ tk, KtsTurn (outer.filterMap (·.frame)) g g' → Fr g' L h' (fun y => if y = n then some (.ref e) else m y) → News g' L h' news₂ → GotSig news₂ news e dx → Below A₀ base outer g' → (Mine.hd.heap_39 w.params).In g' → Top pv lo mean mg mb g' →
      wpAny (model PR w) ((A₀.deeper (envOf name scope L a cd)).mark (some (.ref e))) (execs (b₀ :: suite) (envOf name scope L a cd))
        (fun f s₄ => wpAny (model PR w) (A₀.deeper (envOf name scope L a cd)) (do bindName (envOf name scope L a cd) n .none; unbindBehindTheSuite (envOf name scope L a cd) n pos) (fun _ s₅ => Q f s₅) E s₄)
        (AsSuiteRaised (model PR w) ((A₀.deeper (envOf name scope L a cd)).mark (some (.ref e))) (envOf name scope L a cd) n pos (notedBy (model PR w) ((A₀.deeper (envOf name scope L a cd)).mark (some (.ref e))) (envOf name scope L a cd) (cameBackBy (model PR w) (A₀.deeper (envOf name scope L a cd)) (envOf name scope L a cd) E)))
        { s' with heap := h', toks := tk })
    (hk : scope.kind = .function := by rfl) (hlo : (envOf name scope L a cd).kindOf n = some .local := by rfl) (hx : (envOf name scope L a cd).kindOf "LispSignal" = some .globalImplicit := by rfl) :
    wpAny (model PR w) (A₀.deeper (envOf name scope L a cd)) (noteFrame (.ref e) (envOf name scope L a cd))
      (fun _ s₂ => wpAny (model PR w) (A₀.deeper (envOf name scope L a cd)) (setFlight (.ref e) none) (fun _ s₃ =>
        wpAny (model PR w) (A₀.deeper (envOf name scope L a cd)) (handleBy (.ref e) (envOf name scope L a cd) (.ExceptHandler (some (.Name "LispSignal" np)) (some n) (b₀ :: suite) pos :: rest)) Q E s₃) E s₂) E s' := by
  obtain ⟨a0, hfl⟩ := x.fly
  have hBG := x.kept
  have hsm := x.up
  have hL : H.get? L = none := by
    obtain ⟨_, ⟨L', _, hf, hn', _⟩, _⟩ := hfl.2.2.1
    obtain rfl : L = L' := Option.some.inj hf
    exact hn'
  refine wpAny_mono (wpAny_safe (Q := fun _ s₂ => ∃ h₄, s₂ = { s' with heap := h₄ } ∧ Heap.HeldW H (envOf name scope L a cd :: outer) e (.ref 31) a0 L h₄ ∧ s'.heap.UpToSlots h₄) (E := fun _ _ => False)
    (wpAny_looks_onW (Around.frames_deeper K.stack) rfl hfl fun h₄ k1 k2 => ⟨h₄, rfl, k1, k2⟩) (safe_noteFrame _ _) x.own) (fun _ s₂ hs₂ => ?_) fun _ _ h => h.1.elim
  obtain ⟨⟨h₄, rfl, hheld₄, hsm₄⟩, d₄⟩ := hs₂
  refine wpAny_mono (wpAny_safe (Q := fun _ s₃ => ∃ h₅, s₃ = { s' with heap := h₅ } ∧ Heap.FlyingW H (envOf name scope L a cd :: outer) e (.ref 31) a0 h₅ ∧ h₄.UpToSlots h₅) (E := fun _ _ => False)
    (wpAny_landsW hheld₄ fun h₅ k1 k2 => ⟨h₅, rfl, k1, k2⟩) (safe_setFlight _ _) d₄) (fun _ s₃ hs₃ => ?_) fun _ _ h => h.1.elim
  obtain ⟨⟨h₅, rfl, hheld, hsm₅'⟩, d₅⟩ := hs₃
  have hsm₅ := hsm₄.trans hsm₅'
  obtain ⟨g₅, T₅, F₅, K₅⟩ := kts_ground K F hBG hheld.1 (hsm.trans hsm₅)
  have X₅ : (Mine.hd.heap_39 w.params).In g₅ := XB.keeps K₅.stays
  have P₅ : TopRead pv lo mg mb g₅ := topRead_of (TB.keeps K₅.stays)
  obtain ⟨ob, hob, hobc⟩ := hheld.there
  have hC := X₅ 31 _ (by k_is)
  have hC₅ := F₅.keep _ _ hC
  refine wpAny_handleBy_cons (codeAny_handlers_test (name_K F₅ X₅ P₅ (by k_is) ?_ hk hx (by decide))) (by intro q; cases q)
  refine wpAny_excMatches_sub_self hC₅ hob hobc (by rfl) (codeAny_handlers_suite_as ?_)
  refine wpAny_mono (wpAny_safe (Q := fun _ s₃ => ∃ h₆, s₃ = { s' with heap := h₆ } ∧ Heap.FlyingW H (envOf name scope L a cd :: outer) e (.ref 31) a0 h₆ ∧ h₅.UpToSlots h₆) (E := fun _ _ => False)
    (lands_againW hheld fun h₆ k1 k2 => ⟨h₆, rfl, k1, k2⟩) (safe_setFlight _ _) d₅) (fun _ s₃ hs₃ => ?_) fun _ _ h => h.1.elim
  obtain ⟨⟨h₆, rfl, hfl₆, hsm₆⟩, d₆⟩ := hs₃
  obtain ⟨g₆, T₆, F₆, K₆⟩ := kts_ground K F hBG hfl₆.1 ((hsm.trans hsm₅).trans hsm₆)
  obtain ⟨oe, ws, hoe, hoec, hoed, hoe0⟩ := hfl₆.first
  have ne₆ : g₆.get? e = none := T₆.none_ _ (kts_fresh F hBG hfl₆.2.1 fun o ho m => by
    obtain ⟨_, o', ho', hd⟩ := K.frames.mem m
    rw [ho] at ho'
    cases ho'
    obtain ⟨sl, hs⟩ := ((hsm.trans hsm₅).trans hsm₆) _ _ (F.keep _ _ ho) hd
    rw [hoe] at hs
    cases hs
    exact hd _ hoed)
  have N₁ := News.more F₆ News.nil hoe (fun es n q => by rw [hoed] at q; cases q) ne₆
  obtain ⟨es, k', hes, hsym⟩ := x.sym
  have nd₆ : g₆.get? dx = none := T₆.none_ _ (kts_none F.keep x.newD)
  have N₆ : News g₆ L h₆ ((e, oe) :: (dx, dictOf es 2) :: news) := by
    intro p hp
    rcases List.mem_cons.mp hp with rfl | hp
    · exact N₁ _ (.head _)
    · rcases List.mem_cons.mp hp with rfl | hp
      · exact ⟨hfl₆.1 _ _ hes, (fun z => by have z : dx = L := z; rw [z, hL] at hes; cases hes), nd₆⟩
      · exact ⟨hfl₆.1 _ _ (x.led p hp), (fun z => by have := x.led p hp; rw [z, hL] at this; cases this), T₆.none_ _ (NG p hp)⟩
  refine stN F₆ N₆ (fun h₇ F₇ N₇ => ?_) hk hlo
  exact k h₇ g₆ _ _ T₆ F₇ N₇ ⟨oe, es, k', ws, rfl, hoec, hoed, d₆.2 _ hoe, hsym⟩ K₆ (XB.keeps K₆.stays) (TB.keeps K₆.stays)
end
end Mine
end

namespace Mine
theorem flushD2 {M : PySem.Model} {A : PySem.Around} {E : PySem.Value → PySem.Shared → Prop} {s : PySem.Shared} {Q : PySem.Flow → PySem.Shared → Prop} {pos : PySem.Pos} {env : PySem.Env} (h : Q .next s) : PySem.wpAny M A (PySem.exec (PySem.Stmt.Pass pos) env) Q E s := by
  walk1
  exact h
end Mine

-- part D2
section
open PySem PySem.W PyProof.Rows
set_option maxRecDepth 100000
set_option maxHeartbeats 2000000
namespace Mine
/-- figures from a place on: what they are worth, the place behind them; none where it is too much -/
noncomputable def numP : List Int → Int → Nat → Option (Int × Nat)
  | [], acc, p => some (acc, p)
  | c :: r, acc, p => if 48 ≤ c ∧ c ≤ 57 then (if 10 * acc + c - 48 > 65536 then none else numP r (10 * acc + c - 48) (p + 1)) else some (acc, p)
theorem ownRaisable {w : World} {E : Value → Shared → Prop} {s : Shared} {h₀ : Heap} {L e t dx : Addr} {m : Str → Option Value} {od : Obj} {news : List (Addr × Obj)} (X : (Mine.hd.heap_39 w.params).In h₀) (F : Fr h₀ L s.heap m) (N : News h₀ L s.heap ((dx, od) :: (e, excWith t dx) :: news)) (h : E (.ref e) s) : OwnRaisable w E (.ref e) s :=
  ⟨e, excWith t dx, some od, t, rfl, X.keeps F.keep, ⟨(N _ (.tail _ (.head _))).1, rfl, rfl, (N _ (.head _)).1⟩, rfl, h⟩
theorem numfrom1 {w : World} {pv : Program} {lo : List Str} {mg mb : Str → Option Value} {mean : ExcName → Option Value} {dp un : Nat} {gd : Option (List Code)} {cn : Str} {cs : Scope} {a : Addr} {ccd : Value} {cl : List (Str × Addr)} {outer : List Env} {A₀ : Around} {base h₀ : Heap} {L : Addr} {m : Str → Option Value} {news : List (Addr × Obj)} {s : Shared} {Q E : Value → Shared → Prop}
  {l : Addr} {vs : List Value} {ns : List Int} {n : Nat} {i : Int} {at₀ : Nat} {tk : Tok}
  (B : Below A₀ base outer h₀) (F : Fr h₀ L s.heap m) (X : (Mine.hd.heap_39 w.params).In h₀) (N : News h₀ L s.heap news) (T : Top pv lo mean mg mb h₀) (hk : cs.kind = .function)
  (hl : (l, listOf vs.toArray n) ∈ news) (hi : IntsAre vs ns) (hlen : ns.length ≤ 1000) (hi0 : i = (at₀ : Int)) (hat : at₀ ≤ ns.length)
  (hdp : dp + 10 < recursionLimit) (hun : un + 200 < cLine)
  (ret : ∀ v p, numP (ns.drop at₀) 0 at₀ = some (v, p) → ∀ tp t1 t2 h' tk', Fr h₀ L h' m → News h₀ L h' ((tp, tupleOf [.int v t1, .int (p : Int) t2]) :: news) → (∀ p ∈ news, p.1 < tp) → Q (.ref tp) { s with heap := h', toks := tk' })
  (err : numP (ns.drop at₀) 0 at₀ = none → ∀ g H e dx h' tk', Fr h₀ L g m → Flight g H (envX cn cs L a ccd cl :: outer) news e dx { s with heap := h', toks := tk' } → E (.ref e) { s with heap := h', toks := tk' }) :
  wpAny (model PR w) (ktrTop dp un gd cn cs L a ccd cl outer) (call (.ref 62) [.ref l, .int i tk]) Q E s := by
  subst hi0
  refine wpAny_call ?_
  k_dflt cell_enter
  clear F B N T X
  (rename Fr _ _ _ _ => F1); (rename News _ _ _ _ => N1)
  (rename Below _ _ _ _ => B1)
  (rename Fr h₀ L _ m => FG1)
  refine wpAny_execs_cons ?_
  replace F1 := frOv F1 [("codes", .ref l), ("at", .int (at₀ : Int) tk)] (by intro p hp; simp only [List.mem_cons, List.not_mem_nil, or_false] at hp; rcases hp with rfl | rfl <;> rfl)
  dsimp only [kstB] at F1
  (repeat' (first | (k_unfold; (try dsimp only)) | ((fail_if_success (with_reducible show wpAny _ _ (PySem.exec (PySem.Stmt.While _ _ _ _) _) _ _ _)); (fail_if_success (with_reducible show wpAny _ _ (PySem.exec (PySem.Stmt.Raise _ _ _) _) _ _ _)); (fail_if_success (with_reducible show wpAny _ _ (PySem.call (Value.ref 31) _ _) _ _ _)); first | walk1 | (dsimp only; walk1) | (dsimp only; k_unfold; (try dsimp only))) | fail "no step"))
  (rename Fr _ _ _ _ => F2); (rename News _ _ _ _ => N2)
  refine While_inv2 (fun kk m₁ nx => nx = news ∧ ∃ pre suf acc t1 t2, kk = suf.length ∧ ns = pre ++ suf ∧ m₁ "codes" = some (.ref l) ∧ m₁ "found" = some (.int acc t1) ∧ m₁ "at" = some (.int (pre.length : Int) t2) ∧ numP suf acc pre.length = numP (ns.drop at₀) 0 at₀) F2 N2
    ⟨rfl, ns.take at₀, ns.drop at₀, 0, _, _, rfl, (List.take_append_drop _ _).symm, rfl, rfl, by rw [List.length_take, Nat.min_eq_left hat]; rfl, by rw [List.length_take, Nat.min_eq_left hat]⟩ ?_
  generalize numP (ns.drop at₀) 0 at₀ = res at ret err
  intro kk m₁ nx h₁ tk₁ F3 N3 hJ
  refine Classical.byContradiction fun hng => ?_
  obtain ⟨rfl, pre, suf, acc, t1, t2, rfl, hns, e1, e2, e3, hr'⟩ := hJ
  refine hng ?_
  clear hng
  replace F3 := frOv F3 [("codes", .ref l), ("found", .int acc t1), ("at", .int (pre.length : Int) t2)] (by simp [e1, e2, e3])
  dsimp only [kstB] at F3
  clear F2 N2 e1 e2 e3
  have hlp : pre.length + suf.length = ns.length := by rw [hns, List.length_append]
  with_reducible show wpAny _ _ _ _ _ _
  k_fold
  cases suf with
  | nil =>
    simp only [numP] at hr'
    simp only [List.length_nil] at hlp
    (repeat' (first | (k_unfold; (try dsimp only)) | ((fail_if_success (with_reducible show wpAny _ _ (PySem.exec (PySem.Stmt.While _ _ _ _) _) _ _ _)); (fail_if_success (with_reducible show wpAny _ _ (PySem.exec (PySem.Stmt.Raise _ _ _) _) _ _ _)); (fail_if_success (with_reducible show wpAny _ _ (PySem.call (Value.ref 31) _ _) _ _ _)); first | walk1 | (dsimp only; walk1) | (dsimp only; k_unfold; (try dsimp only))) | fail "no step"))
    (rename Fr _ _ _ _ => F3); (rename News _ _ _ _ => N3)
    refine leaveK_ F3 N3 ?_
    intro F4 N4
    exact ret _ _ hr'.symm _ _ _ _ _ F4 N4 (by assumption)
  | cons c r =>
    have hx0 : ns[((pre.length : Nat) : Int).toNat]? = some c := by rw [hns]; simp
    simp only [List.length_cons] at hlp
    by_cases hd : 48 ≤ c ∧ c ≤ 57
    · simp only [numP, if_pos hd] at hr'
      by_cases hbig : 10 * acc + c - 48 > 65536
      · rw [if_pos hbig] at hr'
        (repeat' (first | (k_unfold; (try dsimp only)) | ((fail_if_success (with_reducible show wpAny _ _ (PySem.exec (PySem.Stmt.While _ _ _ _) _) _ _ _)); (fail_if_success (with_reducible show wpAny _ _ (PySem.exec (PySem.Stmt.Raise _ _ _) _) _ _ _)); (fail_if_success (with_reducible show wpAny _ _ (PySem.call (Value.ref 31) _ _) _ _ _)); first | walk1 | (dsimp only; walk1) | (dsimp only; k_unfold; (try dsimp only))) | fail "no step"))
        refine raiseOwn rfl ?_
        (repeat' (first | (k_unfold; (try dsimp only)) | ((fail_if_success (with_reducible show wpAny _ _ (PySem.exec (PySem.Stmt.While _ _ _ _) _) _ _ _)); (fail_if_success (with_reducible show wpAny _ _ (PySem.exec (PySem.Stmt.Raise _ _ _) _) _ _ _)); (fail_if_success (with_reducible show wpAny _ _ (PySem.call (Value.ref 31) _ _) _ _ _)); first | walk1 | (dsimp only; walk1) | (dsimp only; k_unfold; (try dsimp only))) | fail "no step"))
        (rename Fr _ _ _ _ => F3); (rename News _ _ _ _ => N3)
        refine sigMade B1 F3 (by assumption) N3 (by assumption) rfl rfl rfl (by k_room) fun e dx t es h5 tk5 F5 N5 hs l1 l2 l3 => ?_
        refine ownRaisable (by assumption) F5 N5 ?_
        refine sigLeaves B1 F5 N5 ?_ l3 hs rfl fun H h' fl => ?_
        · intro p hp
          rcases List.mem_cons.mp hp with rfl | hp
          · exact l2
          · exact Nat.lt_trans (l1 p hp) l2
        · exact err hr'.symm _ _ _ _ _ _ FG1 (fl.less fun p hp => .tail _ (.tail _ (.tail _ hp)))
      rw [if_neg hbig] at hr'
      (repeat' (first | (k_unfold; (try dsimp only)) | ((fail_if_success (with_reducible show wpAny _ _ (PySem.exec (PySem.Stmt.While _ _ _ _) _) _ _ _)); (fail_if_success (with_reducible show wpAny _ _ (PySem.exec (PySem.Stmt.Raise _ _ _) _) _ _ _)); (fail_if_success (with_reducible show wpAny _ _ (PySem.call (Value.ref 31) _ _) _ _ _)); first | walk1 | (dsimp only; walk1) | (dsimp only; k_unfold; (try dsimp only))) | fail "no step"))
      (rename Fr _ _ _ _ => F3); (rename News _ _ _ _ => N3)
      exact ⟨_, _, _, _, r.length, rfl, F3, newsTl N3, by simp, rfl, pre ++ [c], r, _, _, _, rfl, by rw [hns]; simp, rfl, rfl, by rw [show (((pre ++ [c]).length : Nat) : Int) = (pre.length : Int) + 1 by simp]; rfl, by rw [← hr']; simp⟩
    · simp only [numP, if_neg hd] at hr'
      (repeat' (first | (k_unfold; (try dsimp only)) | ((fail_if_success (with_reducible show wpAny _ _ (PySem.exec (PySem.Stmt.While _ _ _ _) _) _ _ _)); (fail_if_success (with_reducible show wpAny _ _ (PySem.exec (PySem.Stmt.Raise _ _ _) _) _ _ _)); (fail_if_success (with_reducible show wpAny _ _ (PySem.call (Value.ref 31) _ _) _ _ _)); first | walk1 | (dsimp only; walk1) | (dsimp only; k_unfold; (try dsimp only))) | fail "no step"))
      all_goals (
        (rename Fr _ _ _ _ => F3); (rename News _ _ _ _ => N3)
        refine leaveK_ F3 N3 ?_
        intro F4 N4
        exact ret _ _ hr'.symm _ _ _ _ _ F4 N4 (by assumption))
end Mine
end

namespace Mine
theorem flushD3 {M : PySem.Model} {A : PySem.Around} {E : PySem.Value → PySem.Shared → Prop} {s : PySem.Shared} {Q : PySem.Flow → PySem.Shared → Prop} {pos : PySem.Pos} {env : PySem.Env} (h : Q .next s) : PySem.wpAny M A (PySem.exec (PySem.Stmt.Pass pos) env) Q E s := by
  walk1
  exact h
end Mine

-- part D3
section
open PySem PySem.W PyProof.Rows
set_option maxRecDepth 100000
set_option maxHeartbeats 2000000
namespace Mine
theorem flags1 {w : World} {pv : Program} {lo : List Str} {mg mb : Str → Option Value} {mean : ExcName → Option Value} {dp un : Nat} {gd : Option (List Code)} {cn : Str} {cs : Scope} {a : Addr} {ccd : Value} {cl : List (Str × Addr)} {outer : List Env} {A₀ : Around} {base h₀ : Heap} {L : Addr} {m : Str → Option Value} {news : List (Addr × Obj)} {s : Shared} {Q E : Value → Shared → Prop}
  {l x dx : Addr} {vs : List Value} {ns : List Int} {n : Nat} {i : Int} {at₀ : Nat} {tk : Tok} {es : List DictEntry} {v : SV}
  (B : Below A₀ base outer h₀) (F : Fr h₀ L s.heap m) (X : (Mine.hd.heap_39 w.params).In h₀) (N : News h₀ L s.heap ((dx, dictOf es 9) :: news)) (T : Top pv lo mean mg mb h₀) (hk : cs.kind = .function)
  (hx : (x, instObj 51 dx) ∈ news) (hl : (l, listOf vs.toArray n) ∈ news) (hne : ∀ p ∈ news, p.1 ≠ dx) (hv : SpecIs w.params es v) (hi : IntsAre vs ns) (hlen : ns.length ≤ 1000) (hi0 : i = (at₀ : Int)) (hat : at₀ ≤ ns.length)
  (hdp : dp + 10 < recursionLimit) (hun : un + 200 < cLine)
  (ret : ∀ t1 h' tk' es', Fr h₀ L h' m → News h₀ L h' ((dx, dictOf es' 9) :: news) → SpecIs w.params es' (flagsP (ns.drop at₀) v at₀).1 → Q (.int ((flagsP (ns.drop at₀) v at₀).2 : Int) t1) { s with heap := h', toks := tk' }) :
  wpAny (model PR w) (ktrTop dp un gd cn cs L a ccd cl outer) (call (.ref 69) [.ref x, .ref l, .int i tk]) Q E s := by
  subst hi0
  refine wpAny_call ?_
  k_dflt cell_enter
  clear F B N T X
  (rename Fr _ _ _ _ => F1); (rename News _ _ _ _ => N1)
  refine wpAny_execs_cons ?_
  cases hq : flagsP (ns.drop at₀) v at₀ with | _ vf pf =>
  rw [hq] at ret
  refine While_inv2 (fun kk m₁ nx => ∃ pre suf es₁ v₁ t2, kk = suf.length ∧ ns = pre ++ suf ∧ nx = (dx, dictOf es₁ 9) :: news ∧ SpecIs w.params es₁ v₁ ∧ m₁ "spec" = some (.ref x) ∧ m₁ "codes" = some (.ref l) ∧ m₁ "at" = some (.int (pre.length : Int) t2) ∧ flagsP suf v₁ pre.length = (vf, pf)) F1 N1
    ⟨ns.take at₀, ns.drop at₀, es, v, _, rfl, (List.take_append_drop _ _).symm, rfl, hv, rfl, rfl, by rw [List.length_take, Nat.min_eq_left hat]; rfl, by rw [List.length_take, Nat.min_eq_left hat]; exact hq⟩ ?_
  intro kk m₁ nx h₁ tk₁ F3 N3 hJ
  refine Classical.byContradiction fun hng => ?_
  obtain ⟨pre, suf, es₁, v₁, t2, rfl, hns, rfl, ⟨k0, k1, k2, k3, k4, k5, k6, k7, k8, t0, t6, t7, t8, rfl⟩, e1, e2, e3, hr'⟩ := hJ
  refine hng ?_
  clear hng
  replace F3 := frOv F3 [("spec", .ref x), ("codes", .ref l), ("at", .int (pre.length : Int) t2)] (by simp [e1, e2, e3])
  dsimp only [kstB] at F3
  clear F1 N1 e1 e2 e3 hv
  have hlp : pre.length + suf.length = ns.length := by rw [hns, List.length_append]
  with_reducible show wpAny _ _ _ _ _ _
  k_fold
  cases suf with
  | nil =>
    simp only [flagsP, Prod.mk.injEq] at hr'
    obtain ⟨rfl, rfl⟩ := hr'
    simp only [List.length_nil] at hlp
    (repeat' (first | (k_unfold; (try dsimp only)) | ((fail_if_success (with_reducible show wpAny _ _ (PySem.exec (PySem.Stmt.While _ _ _ _) _) _ _ _)); (fail_if_success (with_reducible show wpAny _ _ (PySem.exec (PySem.Stmt.For _ _ _ _ _) _) _ _ _)); (fail_if_success (with_reducible show wpAny _ _ (PySem.eval (PySem.Expr.BoolOp _ _ _) _) _ _ _)); first | walk1 | (dsimp only; walk1) | (dsimp only; k_unfold; (try dsimp only))) | fail "no step"))
    (rename Fr _ _ _ _ => F3); (rename News _ _ _ _ => N3)
    refine leaveK_ F3 N3 ?_
    intro F4 N4
    exact ret _ _ _ _ F4 N4 (specI rfl)
  | cons c r =>
    have hx0 : ns[((pre.length : Nat) : Int).toNat]? = some c := by rw [hns]; simp
    simp only [List.length_cons] at hlp
    by_cases hd : c = 45 ∨ c = 43 ∨ c = 32 ∨ c = 48 ∨ c = 35
    · simp only [flagsP, if_pos hd] at hr'
      have hany : ([45, 43, 32, 48, 35].any fun x => x == c) = true := by
        rcases hd with rfl | rfl | rfl | rfl | rfl <;> decide
      (repeat' (first | (k_unfold; (try dsimp only)) | ((fail_if_success (with_reducible show wpAny _ _ (PySem.exec (PySem.Stmt.While _ _ _ _) _) _ _ _)); (fail_if_success (with_reducible show wpAny _ _ (PySem.exec (PySem.Stmt.For _ _ _ _ _) _) _ _ _)); (fail_if_success (with_reducible show wpAny _ _ (PySem.eval (PySem.Expr.BoolOp _ _ _) _) _ _ _)); first | walk1 | (dsimp only; walk1) | (dsimp only; k_unfold; (try dsimp only))) | fail "no step"))
      ((rename Fr _ _ _ _ => kF'); (rename News _ _ _ _ => kN'); refine my_or2 v₁.left (c == 45) kF' kN' ?h1 ?h2 ?_; (case h1 => ((repeat' (first | (k_unfold; (try dsimp only)) | ((fail_if_success (with_reducible show wpAny _ _ (PySem.exec (PySem.Stmt.While _ _ _ _) _) _ _ _)); (fail_if_success (with_reducible show wpAny _ _ (PySem.exec (PySem.Stmt.For _ _ _ _ _) _) _ _ _)); (fail_if_success (with_reducible show wpAny _ _ (PySem.eval (PySem.Expr.BoolOp _ _ _) _) _ _ _)); first | walk1 | (dsimp only; walk1) | (dsimp only; k_unfold; (try dsimp only))) | fail "no step")); exact ⟨rfl, _, _, rfl, by k_asm, by k_asm⟩)); (case h2 => (clear kF' kN'; intro _ _ kF' kN'; (repeat' (first | (k_unfold; (try dsimp only)) | ((fail_if_success (with_reducible show wpAny _ _ (PySem.exec (PySem.Stmt.While _ _ _ _) _) _ _ _)); (fail_if_success (with_reducible show wpAny _ _ (PySem.exec (PySem.Stmt.For _ _ _ _ _) _) _ _ _)); (fail_if_success (with_reducible show wpAny _ _ (PySem.eval (PySem.Expr.BoolOp _ _ _) _) _ _ _)); first | walk1 | (dsimp only; walk1) | (dsimp only; k_unfold; (try dsimp only))) | fail "no step")); exact ⟨rfl, _, _, rfl, by k_asm, by k_asm⟩)); clear kF' kN'; intro _ _ kF' kN'; (repeat' (first | (k_unfold; (try dsimp only)) | ((fail_if_success (with_reducible show wpAny _ _ (PySem.exec (PySem.Stmt.While _ _ _ _) _) _ _ _)); (fail_if_success (with_reducible show wpAny _ _ (PySem.exec (PySem.Stmt.For _ _ _ _ _) _) _ _ _)); (fail_if_success (with_reducible show wpAny _ _ (PySem.eval (PySem.Expr.BoolOp _ _ _) _) _ _ _)); first | walk1 | (dsimp only; walk1) | (dsimp only; k_unfold; (try dsimp only))) | fail "no step")))
      (rename News _ _ _ _ => N3)
      replace N3 : News _ _ _ (_ :: (dx, dictOf (specEs w.params _ _ _ _ _ _ _ _ _ _ _ _ _ { v₁ with left := v₁.left || c == 45 }) 9) :: news) := N3
      ((rename Fr _ _ _ _ => kF'); (rename News _ _ _ _ => kN'); refine my_or2 v₁.plus (c == 43) kF' kN' ?h1 ?h2 ?_; (case h1 => ((repeat' (first | (k_unfold; (try dsimp only)) | ((fail_if_success (with_reducible show wpAny _ _ (PySem.exec (PySem.Stmt.While _ _ _ _) _) _ _ _)); (fail_if_success (with_reducible show wpAny _ _ (PySem.exec (PySem.Stmt.For _ _ _ _ _) _) _ _ _)); (fail_if_success (with_reducible show wpAny _ _ (PySem.eval (PySem.Expr.BoolOp _ _ _) _) _ _ _)); first | walk1 | (dsimp only; walk1) | (dsimp only; k_unfold; (try dsimp only))) | fail "no step")); exact ⟨rfl, _, _, rfl, by k_asm, by k_asm⟩)); (case h2 => (clear kF' kN'; intro _ _ kF' kN'; (repeat' (first | (k_unfold; (try dsimp only)) | ((fail_if_success (with_reducible show wpAny _ _ (PySem.exec (PySem.Stmt.While _ _ _ _) _) _ _ _)); (fail_if_success (with_reducible show wpAny _ _ (PySem.exec (PySem.Stmt.For _ _ _ _ _) _) _ _ _)); (fail_if_success (with_reducible show wpAny _ _ (PySem.eval (PySem.Expr.BoolOp _ _ _) _) _ _ _)); first | walk1 | (dsimp only; walk1) | (dsimp only; k_unfold; (try dsimp only))) | fail "no step")); exact ⟨rfl, _, _, rfl, by k_asm, by k_asm⟩)); clear kF' kN'; intro _ _ kF' kN'; (repeat' (first | (k_unfold; (try dsimp only)) | ((fail_if_success (with_reducible show wpAny _ _ (PySem.exec (PySem.Stmt.While _ _ _ _) _) _ _ _)); (fail_if_success (with_reducible show wpAny _ _ (PySem.exec (PySem.Stmt.For _ _ _ _ _) _) _ _ _)); (fail_if_success (with_reducible show wpAny _ _ (PySem.eval (PySem.Expr.BoolOp _ _ _) _) _ _ _)); first | walk1 | (dsimp only; walk1) | (dsimp only; k_unfold; (try dsimp only))) | fail "no step")))
      (rename News _ _ _ _ => N3)
      replace N3 : News _ _ _ (_ :: (dx, dictOf (specEs w.params _ _ _ _ _ _ _ _ _ _ _ _ _ { v₁ with left := v₁.left || c == 45, plus := v₁.plus || c == 43 }) 9) :: news) := N3
      ((rename Fr _ _ _ _ => kF'); (rename News _ _ _ _ => kN'); refine my_or2 v₁.blank (c == 32) kF' kN' ?h1 ?h2 ?_; (case h1 => ((repeat' (first | (k_unfold; (try dsimp only)) | ((fail_if_success (with_reducible show wpAny _ _ (PySem.exec (PySem.Stmt.While _ _ _ _) _) _ _ _)); (fail_if_success (with_reducible show wpAny _ _ (PySem.exec (PySem.Stmt.For _ _ _ _ _) _) _ _ _)); (fail_if_success (with_reducible show wpAny _ _ (PySem.eval (PySem.Expr.BoolOp _ _ _) _) _ _ _)); first | walk1 | (dsimp only; walk1) | (dsimp only; k_unfold; (try dsimp only))) | fail "no step")); exact ⟨rfl, _, _, rfl, by k_asm, by k_asm⟩)); (case h2 => (clear kF' kN'; intro _ _ kF' kN'; (repeat' (first | (k_unfold; (try dsimp only)) | ((fail_if_success (with_reducible show wpAny _ _ (PySem.exec (PySem.Stmt.While _ _ _ _) _) _ _ _)); (fail_if_success (with_reducible show wpAny _ _ (PySem.exec (PySem.Stmt.For _ _ _ _ _) _) _ _ _)); (fail_if_success (with_reducible show wpAny _ _ (PySem.eval (PySem.Expr.BoolOp _ _ _) _) _ _ _)); first | walk1 | (dsimp only; walk1) | (dsimp only; k_unfold; (try dsimp only))) | fail "no step")); exact ⟨rfl, _, _, rfl, by k_asm, by k_asm⟩)); clear kF' kN'; intro _ _ kF' kN'; (repeat' (first | (k_unfold; (try dsimp only)) | ((fail_if_success (with_reducible show wpAny _ _ (PySem.exec (PySem.Stmt.While _ _ _ _) _) _ _ _)); (fail_if_success (with_reducible show wpAny _ _ (PySem.exec (PySem.Stmt.For _ _ _ _ _) _) _ _ _)); (fail_if_success (with_reducible show wpAny _ _ (PySem.eval (PySem.Expr.BoolOp _ _ _) _) _ _ _)); first | walk1 | (dsimp only; walk1) | (dsimp only; k_unfold; (try dsimp only))) | fail "no step")))
      (rename News _ _ _ _ => N3)
      replace N3 : News _ _ _ (_ :: (dx, dictOf (specEs w.params _ _ _ _ _ _ _ _ _ _ _ _ _ { v₁ with left := v₁.left || c == 45, plus := v₁.plus || c == 43, blank := v₁.blank || c == 32 }) 9) :: news) := N3
      ((rename Fr _ _ _ _ => kF'); (rename News _ _ _ _ => kN'); refine my_or2 v₁.noughts (c == 48) kF' kN' ?h1 ?h2 ?_; (case h1 => ((repeat' (first | (k_unfold; (try dsimp only)) | ((fail_if_success (with_reducible show wpAny _ _ (PySem.exec (PySem.Stmt.While _ _ _ _) _) _ _ _)); (fail_if_success (with_reducible show wpAny _ _ (PySem.exec (PySem.Stmt.For _ _ _ _ _) _) _ _ _)); (fail_if_success (with_reducible show wpAny _ _ (PySem.eval (PySem.Expr.BoolOp _ _ _) _) _ _ _)); first | walk1 | (dsimp only; walk1) | (dsimp only; k_unfold; (try dsimp only))) | fail "no step")); exact ⟨rfl, _, _, rfl, by k_asm, by k_asm⟩)); (case h2 => (clear kF' kN'; intro _ _ kF' kN'; (repeat' (first | (k_unfold; (try dsimp only)) | ((fail_if_success (with_reducible show wpAny _ _ (PySem.exec (PySem.Stmt.While _ _ _ _) _) _ _ _)); (fail_if_success (with_reducible show wpAny _ _ (PySem.exec (PySem.Stmt.For _ _ _ _ _) _) _ _ _)); (fail_if_success (with_reducible show wpAny _ _ (PySem.eval (PySem.Expr.BoolOp _ _ _) _) _ _ _)); first | walk1 | (dsimp only; walk1) | (dsimp only; k_unfold; (try dsimp only))) | fail "no step")); exact ⟨rfl, _, _, rfl, by k_asm, by k_asm⟩)); clear kF' kN'; intro _ _ kF' kN'; (repeat' (first | (k_unfold; (try dsimp only)) | ((fail_if_success (with_reducible show wpAny _ _ (PySem.exec (PySem.Stmt.While _ _ _ _) _) _ _ _)); (fail_if_success (with_reducible show wpAny _ _ (PySem.exec (PySem.Stmt.For _ _ _ _ _) _) _ _ _)); (fail_if_success (with_reducible show wpAny _ _ (PySem.eval (PySem.Expr.BoolOp _ _ _) _) _ _ _)); first | walk1 | (dsimp only; walk1) | (dsimp only; k_unfold; (try dsimp only))) | fail "no step")))
      (rename News _ _ _ _ => N3)
      replace N3 : News _ _ _ (_ :: (dx, dictOf (specEs w.params _ _ _ _ _ _ _ _ _ _ _ _ _ { v₁ with left := v₁.left || c == 45, plus := v₁.plus || c == 43, blank := v₁.blank || c == 32, noughts := v₁.noughts || c == 48 }) 9) :: news) := N3
      ((rename Fr _ _ _ _ => kF'); (rename News _ _ _ _ => kN'); refine my_or2 v₁.marked (c == 35) kF' kN' ?h1 ?h2 ?_; (case h1 => ((repeat' (first | (k_unfold; (try dsimp only)) | ((fail_if_success (with_reducible show wpAny _ _ (PySem.exec (PySem.Stmt.While _ _ _ _) _) _ _ _)); (fail_if_success (with_reducible show wpAny _ _ (PySem.exec (PySem.Stmt.For _ _ _ _ _) _) _ _ _)); (fail_if_success (with_reducible show wpAny _ _ (PySem.eval (PySem.Expr.BoolOp _ _ _) _) _ _ _)); first | walk1 | (dsimp only; walk1) | (dsimp only; k_unfold; (try dsimp only))) | fail "no step")); exact ⟨rfl, _, _, rfl, by k_asm, by k_asm⟩)); (case h2 => (clear kF' kN'; intro _ _ kF' kN'; (repeat' (first | (k_unfold; (try dsimp only)) | ((fail_if_success (with_reducible show wpAny _ _ (PySem.exec (PySem.Stmt.While _ _ _ _) _) _ _ _)); (fail_if_success (with_reducible show wpAny _ _ (PySem.exec (PySem.Stmt.For _ _ _ _ _) _) _ _ _)); (fail_if_success (with_reducible show wpAny _ _ (PySem.eval (PySem.Expr.BoolOp _ _ _) _) _ _ _)); first | walk1 | (dsimp only; walk1) | (dsimp only; k_unfold; (try dsimp only))) | fail "no step")); exact ⟨rfl, _, _, rfl, by k_asm, by k_asm⟩)); clear kF' kN'; intro _ _ kF' kN'; (repeat' (first | (k_unfold; (try dsimp only)) | ((fail_if_success (with_reducible show wpAny _ _ (PySem.exec (PySem.Stmt.While _ _ _ _) _) _ _ _)); (fail_if_success (with_reducible show wpAny _ _ (PySem.exec (PySem.Stmt.For _ _ _ _ _) _) _ _ _)); (fail_if_success (with_reducible show wpAny _ _ (PySem.eval (PySem.Expr.BoolOp _ _ _) _) _ _ _)); first | walk1 | (dsimp only; walk1) | (dsimp only; k_unfold; (try dsimp only))) | fail "no step")))
      (rename News _ _ _ _ => N3)
      replace N3 : News _ _ _ (_ :: (dx, dictOf (specEs w.params _ _ _ _ _ _ _ _ _ _ _ _ _ { v₁ with left := v₁.left || c == 45, plus := v₁.plus || c == 43, blank := v₁.blank || c == 32, noughts := v₁.noughts || c == 48, marked := v₁.marked || c == 35 }) 9) :: news) := N3
      (rename Fr _ _ _ _ => F3); (rename News _ _ _ _ => N3)
      exact ⟨_, _, _, _, r.length, rfl, F3, newsTl N3, by simp, pre ++ [c], r, _, noteF v₁ c, _, rfl, by rw [hns]; simp, rfl, (specI rfl), rfl, rfl, by rw [show (((pre ++ [c]).length : Nat) : Int) = (pre.length : Int) + 1 by simp]; rfl, by rw [← hr']; simp⟩
    · simp only [flagsP, if_neg hd, Prod.mk.injEq] at hr'
      obtain ⟨rfl, rfl⟩ := hr'
      have hany : ([45, 43, 32, 48, 35].any fun x => x == c) = false := by
        simp only [List.any_cons, List.any_nil, Bool.or_false, Bool.or_eq_false_iff, beq_eq_false_iff_ne]
        omega
      (repeat' (first | (k_unfold; (try dsimp only)) | ((fail_if_success (with_reducible show wpAny _ _ (PySem.exec (PySem.Stmt.While _ _ _ _) _) _ _ _)); (fail_if_success (with_reducible show wpAny _ _ (PySem.exec (PySem.Stmt.For _ _ _ _ _) _) _ _ _)); (fail_if_success (with_reducible show wpAny _ _ (PySem.eval (PySem.Expr.BoolOp _ _ _) _) _ _ _)); first | walk1 | (dsimp only; walk1) | (dsimp only; k_unfold; (try dsimp only))) | fail "no step"))
      (rename Fr _ _ _ _ => F3); (rename News _ _ _ _ => N3)
      refine leaveK_ F3 N3 ?_
      intro F4 N4
      exact ret _ _ _ _ F4 (newsTl N4) (specI rfl)
theorem flags2 {w : World} {pv : Program} {lo : List Str} {mg mb : Str → Option Value} {mean : ExcName → Option Value} {dp un : Nat} {gd : Option (List Code)} {cn : Str} {cs : Scope} {a : Addr} {ccd : Value} {cl : List (Str × Addr)} {outer : List Env} {A₀ : Around} {base h₀ : Heap} {L : Addr} {m : Str → Option Value} {news : List (Addr × Obj)} {g : Obj → List (Addr × Obj)} {s : Shared} {Q E : Value → Shared → Prop}
  {l x dx : Addr} {vs : List Value} {ns : List Int} {n : Nat} {i : Int} {at₀ : Nat} {tk : Tok} {es : List DictEntry} {v : SV}
  (B : Below A₀ base outer h₀) (F : Fr h₀ L s.heap m) (X : (Mine.hd.heap_39 w.params).In h₀) (N : News h₀ L s.heap news) (T : Top pv lo mean mg mb h₀) (hk : cs.kind = .function) (U : UpdF dx (dictOf es 9) news g)
  (hx : (x, instObj 51 dx) ∈ news) (hxd : x ≠ dx) (hl : (l, listOf vs.toArray n) ∈ news) (hld : l ≠ dx) (hv : SpecIs w.params es v) (hi : IntsAre vs ns) (hlen : ns.length ≤ 1000) (hi0 : i = (at₀ : Int)) (hat : at₀ ≤ ns.length)
  (hdp : dp + 10 < recursionLimit) (hun : un + 200 < cLine)
  (ret : ∀ t1 h' tk' es', Fr h₀ L h' m → News h₀ L h' (g (dictOf es' 9)) → SpecIs w.params es' (flagsP (ns.drop at₀) v at₀).1 → Q (.int ((flagsP (ns.drop at₀) v at₀).2 : Int) t1) { s with heap := h', toks := tk' }) :
  wpAny (model PR w) (ktrTop dp un gd cn cs L a ccd cl outer) (call (.ref 69) [.ref x, .ref l, .int i tk]) Q E s := by
  obtain ⟨rest, hne, N', _, sub, back⟩ := newsOfUpd U N
  exact flags1 B F X N' T hk (sub _ hx hxd) (sub _ hl hld) hne hv hi hlen hi0 hat hdp hun fun t1 h' tk' es' F' N'' hv' => ret t1 h' tk' es' F' (back _ _ N'') hv'
end Mine
end

namespace Mine
theorem flushD5 {M : PySem.Model} {A : PySem.Around} {E : PySem.Value → PySem.Shared → Prop} {s : PySem.Shared} {Q : PySem.Flow → PySem.Shared → Prop} {pos : PySem.Pos} {env : PySem.Env} (h : Q .next s) : PySem.wpAny M A (PySem.exec (PySem.Stmt.Pass pos) env) Q E s := by
  walk1
  exact h
end Mine

-- part D5
section
open PySem PySem.W PyProof.Rows
set_option maxRecDepth 100000
set_option maxHeartbeats 4000000
namespace Mine
noncomputable def chrOf (c : Int) : Str := if 32 ≤ c ∧ c < 127 then Str.mk #[c.toNat] else Str.ofString "?"
noncomputable def endP (ns : List Int) (v : SV) (q : Nat) : Option (SV × Nat) := match ns[q]? with
  | none => none
  | some c => some ({ v with letter := chrOf c }, q + 1)
noncomputable def precP (ns : List Int) (v : SV) (q : Nat) : Option (SV × Nat) := if ns[q]? = some 46 then (match numP (ns.drop (q + 1)) 0 (q + 1) with
    | none => none
    | some (pr, q') => endP ns { v with prec := pr } q') else endP ns v q
noncomputable def widthP (ns : List Int) (v : SV) (q : Nat) : Option (SV × Nat) := match numP (ns.drop q) 0 q with
  | none => none
  | some (wd, q') => precP ns { v with width := wd } q'
noncomputable def restP (ns : List Int) (v : SV) (q : Nat) : Option (SV × Nat) := widthP ns (flagsP (ns.drop q) v q).1 (flagsP (ns.drop q) v q).2
noncomputable def readP (ns : List Int) (p : Nat) : Option (SV × Nat) := match numP (ns.drop p) 0 p with
  | none => none
  | some (f, b) => if p < b ∧ ns[b]? = some 36 then (if f = 0 then none else restP ns { freshSV with field := f - 1 } (b + 1)) else restP ns freshSV p
theorem viaT5 {M : Model} {A : Around} {c : Sem Value} {E : Value → Shared → Prop} {s : Shared} {Q : Value → Shared → Prop} (x : Str) (h1 : ∀ Q' : Value → Shared → Prop, (∀ t tk', Q' (.str x t) { s with toks := tk' }) → wpAny M A c Q' E s) (h2 : ∀ t tk', Q (.str x t) { s with toks := tk' }) : wpAny M A c Q E s := h1 Q h2
theorem numP_le : ∀ {suf : List Int} {acc : Int} {p : Nat} {v : Int} {q : Nat}, numP suf acc p = some (v, q) → p ≤ q ∧ q ≤ p + suf.length
  | [], acc, p, v, q, h => by simp only [numP, Option.some.injEq, Prod.mk.injEq] at h; simp [h.2]
  | c :: r, acc, p, v, q, h => by
    simp only [numP] at h
    split at h
    · split at h
      · cases h
      · have := numP_le h
        simp only [List.length_cons]; omega
    · simp only [Option.some.injEq, Prod.mk.injEq] at h
      simp only [List.length_cons]; omega
theorem flagsP_le : ∀ (suf : List Int) (v : SV) (p : Nat), p ≤ (flagsP suf v p).2 ∧ (flagsP suf v p).2 ≤ p + suf.length
  | [], v, p => by simp [flagsP]
  | c :: r, v, p => by
    simp only [flagsP]
    split
    · have := flagsP_le r (noteF v c) (p + 1)
      simp only [List.length_cons]; omega
    · simp
/-- where the statements of read_spec meet -/
noncomputable def MeetRS (w : World) (g : Heap) (L : Addr) (news : List (Addr × Obj)) (s0 : Shared) (x l dx : Addr) (rel : SV → Nat → Prop) (f : Flow) (s' : Shared) : Prop :=
  f = .next ∧ ∃ h' tk' m' es v q t, s' = { s0 with heap := h', toks := tk' } ∧ Fr g L h' m' ∧ m' "spec" = some (.ref x) ∧ m' "codes" = some (.ref l) ∧ m' "at" = some (.int ((q : Nat) : Int) t) ∧ News g L h' ((x, instObj 51 dx) :: (dx, dictOf es 9) :: news) ∧ SpecIs w.params es v ∧ rel v q
theorem meetI {w : World} {g : Heap} {L : Addr} {news : List (Addr × Obj)} {s0 : Shared} {x l dx : Addr} {rel : SV → Nat → Prop} {s' : Shared} {h' : Heap} {tk' : Nat} {m' : Str → Option Value} {es : List DictEntry} (v : SV) (q : Nat) {t : Tok}
    (e : s' = { s0 with heap := h', toks := tk' }) (F : Fr g L h' m') (e1 : m' "spec" = some (.ref x)) (e2 : m' "codes" = some (.ref l)) (e3 : m' "at" = some (.int ((q : Nat) : Int) t)) (N : News g L h' ((x, instObj 51 dx) :: (dx, dictOf es 9) :: news)) (hs : SpecIs w.params es v) (hr : rel v q) : MeetRS w g L news s0 x l dx rel .next s' :=
  ⟨rfl, _, _, _, _, _, _, _, e, F, e1, e2, e3, N, hs, hr⟩
theorem read1 {w : World} {pv : Program} {lo : List Str} {mg mb : Str → Option Value} {mean : ExcName → Option Value} {dp un : Nat} {gd : Option (List Code)} {cn : Str} {cs : Scope} {a : Addr} {ccd : Value} {cl : List (Str × Addr)} {outer : List Env} {A₀ : Around} {base h₀ : Heap} {L : Addr} {m : Str → Option Value} {news : List (Addr × Obj)} {s : Shared} {Q E : Value → Shared → Prop}
  {l : Addr} {vs : List Value} {ns : List Int} {n : Nat} {i : Int} {at₀ : Nat} {tk : Tok}
  (B : Below A₀ base outer h₀) (F : Fr h₀ L s.heap m) (X : (Mine.hd.heap_39 w.params).In h₀) (N : News h₀ L s.heap news) (T : Top pv lo mean mg mb h₀) (hk : cs.kind = .function)
  (hl : (l, listOf vs.toArray n) ∈ news) (hi : IntsAre vs ns) (hlen : ns.length ≤ 1000) (hi0 : i = (at₀ : Int)) (hat : at₀ ≤ ns.length)
  (hdp : dp + 20 < recursionLimit) (hun : un + 300 < cLine)
  (ret : ∀ v p, readP ns at₀ = some (v, p) → ∀ tp x dx es t1 h' tk', Fr h₀ L h' m → News h₀ L h' ((tp, tupleOf [.ref x, .int (p : Int) t1]) :: (x, instObj 51 dx) :: (dx, dictOf es 9) :: news) → SpecIs w.params es v → (∀ p ∈ news, p.1 < dx) → dx < x → x < tp → Q (.ref tp) { s with heap := h', toks := tk' })
  (err : readP ns at₀ = none → ∀ g H e dx h' tk', Fr h₀ L g m → Flight g H (envX cn cs L a ccd cl :: outer) news e dx { s with heap := h', toks := tk' } → E (.ref e) { s with heap := h', toks := tk' }) :
  wpAny (model PR w) (ktrTop dp un gd cn cs L a ccd cl outer) (call (.ref 76) [.ref l, .int i tk]) Q E s := by
  subst hi0
  refine wpAny_call ?_
  refine' code_def B F X N T ?kA ?kF ?kK ?k6 ?k7 ?k8 ?k9 ?kB ?_ ?c2 ?c3 ?c4 ?c5
  (case kA => exact rfl)
  (case kF => exact rfl)
  (case kK => exact hk)
  (case k6 => k_is)
  (case k7 => k_is)
  (case k8 => k_room)
  (case k9 => exact BindsTo.of_eq rfl)
  (case kB => exact locs rfl)
  (case c2 => exact rfl)
  (case c3 => exact rfl)
  (case c4 => exact rfl)
  (case c5 => decide)
  intro g1 L1 h1 FG1 F1 N1 B1 X1 T1
  dsimp only
  (try k_fold)
  clear F B N T X
  refine wpAny_execs_cons ?_
  replace F1 := frOv F1 [("codes", .ref l), ("at", .int (at₀ : Int) tk)] (by intro p hp; simp only [List.mem_cons, List.not_mem_nil, or_false] at hp; rcases hp with rfl | rfl <;> rfl)
  dsimp only [kstB] at F1
  (repeat' (first | (k_unfold; (try dsimp only)) | ((fail_if_success (with_reducible show wpAny _ _ (PySem.exec (PySem.Stmt.If _ _ _ _) _) _ _ _)); (fail_if_success (with_reducible show wpAny _ _ (PySem.eval (PySem.Expr.IfExp _ _ _ _) _) _ _ _)); (fail_if_success (with_reducible show wpAny _ _ (PySem.exec (PySem.Stmt.Raise _ _ _) _) _ _ _)); (fail_if_success (with_reducible show wpAny _ _ (PySem.call (Value.ref 31) _ _) _ _ _)); (fail_if_success (with_reducible show wpAny _ _ (PySem.call (Value.ref 51) _ _) _ _ _)); (fail_if_success (with_reducible show wpAny _ _ (PySem.call (Value.ref 62) _ _) _ _ _)); (fail_if_success (with_reducible show wpAny _ _ (PySem.call (Value.ref 69) _ _) _ _ _)); first | walk1 | (dsimp only; walk1) | (dsimp only; k_unfold; (try dsimp only))) | fail "no step"))
  (rename Fr _ _ _ _ => F2); (rename News _ _ _ _ => N2)
  refine mkspec B1 F2 X1 N2 T1 rfl rfl rfl (by k_room) fun x dx es0 h2 tk2 F3 N3 hsv0 l1 l2 => ?_
  clear F2 N2
  (repeat' (first | (k_unfold; (try dsimp only)) | ((fail_if_success (with_reducible show wpAny _ _ (PySem.exec (PySem.Stmt.If _ _ _ _) _) _ _ _)); (fail_if_success (with_reducible show wpAny _ _ (PySem.eval (PySem.Expr.IfExp _ _ _ _) _) _ _ _)); (fail_if_success (with_reducible show wpAny _ _ (PySem.exec (PySem.Stmt.Raise _ _ _) _) _ _ _)); (fail_if_success (with_reducible show wpAny _ _ (PySem.call (Value.ref 31) _ _) _ _ _)); (fail_if_success (with_reducible show wpAny _ _ (PySem.call (Value.ref 51) _ _) _ _ _)); (fail_if_success (with_reducible show wpAny _ _ (PySem.call (Value.ref 62) _ _) _ _ _)); (fail_if_success (with_reducible show wpAny _ _ (PySem.call (Value.ref 69) _ _) _ _ _)); first | walk1 | (dsimp only; walk1) | (dsimp only; k_unfold; (try dsimp only))) | fail "no step"))
  (rename Fr _ _ _ _ => F2)
  refine numfrom1 (at₀ := at₀) B1 F2 X1 (by assumption) T1 rfl (.tail _ (.tail _ hl)) hi hlen rfl hat (by k_room) (by units_room) ?ret ?err
  case err =>
    intro hno g H e dx h' tk' FG fl
    refine fl.leave rfl rfl FG fun h'' fl' => ?_
    exact err (by unfold readP; rw [hno]) _ _ _ _ _ _ FG1 (fl'.less fun p hp => .tail _ (.tail _ hp))
  intro v p hnum tp t1 t2 h' tk' F3 N3 l3
  clear F2
  (repeat' (first | (k_unfold; (try dsimp only)) | ((fail_if_success (with_reducible show wpAny _ _ (PySem.exec (PySem.Stmt.If _ _ _ _) _) _ _ _)); (fail_if_success (with_reducible show wpAny _ _ (PySem.eval (PySem.Expr.IfExp _ _ _ _) _) _ _ _)); (fail_if_success (with_reducible show wpAny _ _ (PySem.exec (PySem.Stmt.Raise _ _ _) _) _ _ _)); (fail_if_success (with_reducible show wpAny _ _ (PySem.call (Value.ref 31) _ _) _ _ _)); (fail_if_success (with_reducible show wpAny _ _ (PySem.call (Value.ref 51) _ _) _ _ _)); (fail_if_success (with_reducible show wpAny _ _ (PySem.call (Value.ref 62) _ _) _ _ _)); (fail_if_success (with_reducible show wpAny _ _ (PySem.call (Value.ref 69) _ _) _ _ _)); first | walk1 | (dsimp only; walk1) | (dsimp only; k_unfold; (try dsimp only))) | fail "no step"))
  have hxd : x ≠ dx := Nat.ne_of_gt l2
  have htx := ltN (a := x) (b := tp) (l3 _ (.head _))
  have htd := ltN (a := dx) (b := tp) (l3 _ (.tail _ (.head _)))
  have hdx := ltN l2
  have hne : ∀ p ∈ news, p.1 ≠ dx := fun p hp => Nat.ne_of_lt (l1 p hp)
  have hld : l ≠ dx := hne _ hl
  have hle := numP_le hnum
  rw [List.length_drop] at hle
  refine wpAny_mono (Q := MeetRS w g1 L1 news s x l dx fun v q => readP ns at₀ = restP ns v q ∧ q ≤ ns.length) ?if1 ?after (fun _ _ z => z)
  case if1 =>
    with_reducible show wpAny _ _ _ _ _ _
    k_fold
    by_cases hc : at₀ < p ∧ ns[p]? = some 36
    · have hp2 : p < ns.length := by
        have := hc.2
        rw [List.getElem?_eq_some_iff] at this
        exact this.1
      have hx0 : ns[((p : Nat) : Int).toNat]? = some 36 := hc.2
      have hc1 := hc.1
      by_cases hf : v = 0
      · subst hf
        walk1
        (repeat' (first | (k_unfold; (try dsimp only)) | ((fail_if_success (with_reducible show wpAny _ _ (PySem.exec (PySem.Stmt.If _ _ _ _) _) _ _ _)); (fail_if_success (with_reducible show wpAny _ _ (PySem.eval (PySem.Expr.IfExp _ _ _ _) _) _ _ _)); (fail_if_success (with_reducible show wpAny _ _ (PySem.exec (PySem.Stmt.Raise _ _ _) _) _ _ _)); (fail_if_success (with_reducible show wpAny _ _ (PySem.call (Value.ref 31) _ _) _ _ _)); (fail_if_success (with_reducible show wpAny _ _ (PySem.call (Value.ref 51) _ _) _ _ _)); (fail_if_success (with_reducible show wpAny _ _ (PySem.call (Value.ref 62) _ _) _ _ _)); (fail_if_success (with_reducible show wpAny _ _ (PySem.call (Value.ref 69) _ _) _ _ _)); first | walk1 | (dsimp only; walk1) | (dsimp only; k_unfold; (try dsimp only))) | fail "no step"))
        walk1
        (repeat' (first | (k_unfold; (try dsimp only)) | ((fail_if_success (with_reducible show wpAny _ _ (PySem.exec (PySem.Stmt.If _ _ _ _) _) _ _ _)); (fail_if_success (with_reducible show wpAny _ _ (PySem.eval (PySem.Expr.IfExp _ _ _ _) _) _ _ _)); (fail_if_success (with_reducible show wpAny _ _ (PySem.exec (PySem.Stmt.Raise _ _ _) _) _ _ _)); (fail_if_success (with_reducible show wpAny _ _ (PySem.call (Value.ref 31) _ _) _ _ _)); (fail_if_success (with_reducible show wpAny _ _ (PySem.call (Value.ref 51) _ _) _ _ _)); (fail_if_success (with_reducible show wpAny _ _ (PySem.call (Value.ref 62) _ _) _ _ _)); (fail_if_success (with_reducible show wpAny _ _ (PySem.call (Value.ref 69) _ _) _ _ _)); first | walk1 | (dsimp only; walk1) | (dsimp only; k_unfold; (try dsimp only))) | fail "no step"))
        refine raiseOwn rfl ?_
        (repeat' (first | (k_unfold; (try dsimp only)) | ((fail_if_success (with_reducible show wpAny _ _ (PySem.exec (PySem.Stmt.If _ _ _ _) _) _ _ _)); (fail_if_success (with_reducible show wpAny _ _ (PySem.eval (PySem.Expr.IfExp _ _ _ _) _) _ _ _)); (fail_if_success (with_reducible show wpAny _ _ (PySem.exec (PySem.Stmt.Raise _ _ _) _) _ _ _)); (fail_if_success (with_reducible show wpAny _ _ (PySem.call (Value.ref 31) _ _) _ _ _)); (fail_if_success (with_reducible show wpAny _ _ (PySem.call (Value.ref 51) _ _) _ _ _)); (fail_if_success (with_reducible show wpAny _ _ (PySem.call (Value.ref 62) _ _) _ _ _)); (fail_if_success (with_reducible show wpAny _ _ (PySem.call (Value.ref 69) _ _) _ _ _)); first | walk1 | (dsimp only; walk1) | (dsimp only; k_unfold; (try dsimp only))) | fail "no step"))
        (rename Fr _ _ _ _ => F4); (rename News _ _ _ _ => N4)
        refine sigMade B1 F4 X1 N4 T1 rfl rfl rfl (by k_room) fun e dxe te ese h5 tk5 F5 N5 hs k1 k2 k3 => ?_
        refine ownRaisable X1 F5 N5 ?_
        refine sigLeaves B1 F5 N5 ?_ k3 hs rfl fun H h' fl => ?_
        · intro p hp
          rcases List.mem_cons.mp hp with rfl | hp
          · exact k2
          · exact Nat.lt_trans (k1 p hp) k2
        · exact err (by unfold readP; rw [hnum]; simp only [if_pos hc, if_true]) _ _ _ _ _ _ FG1 (fl.less fun p hp => .tail _ (.tail _ (.tail _ (.tail _ (.tail _ hp)))))
      · refine Classical.byContradiction fun hng => ?_
        obtain ⟨k0, k1, k2, k3, k4, k5, k6, k7, k8, t0, t6, t7, t8, rfl⟩ := hsv0
        refine hng ?_
        clear hng
        walk1
        (repeat' (first | (k_unfold; (try dsimp only)) | ((fail_if_success (with_reducible show wpAny _ _ (PySem.exec (PySem.Stmt.If _ _ _ _) _) _ _ _)); (fail_if_success (with_reducible show wpAny _ _ (PySem.eval (PySem.Expr.IfExp _ _ _ _) _) _ _ _)); (fail_if_success (with_reducible show wpAny _ _ (PySem.exec (PySem.Stmt.Raise _ _ _) _) _ _ _)); (fail_if_success (with_reducible show wpAny _ _ (PySem.call (Value.ref 31) _ _) _ _ _)); (fail_if_success (with_reducible show wpAny _ _ (PySem.call (Value.ref 51) _ _) _ _ _)); (fail_if_success (with_reducible show wpAny _ _ (PySem.call (Value.ref 62) _ _) _ _ _)); (fail_if_success (with_reducible show wpAny _ _ (PySem.call (Value.ref 69) _ _) _ _ _)); first | walk1 | (dsimp only; walk1) | (dsimp only; k_unfold; (try dsimp only))) | fail "no step"))
        walk1
        (repeat' (first | (k_unfold; (try dsimp only)) | ((fail_if_success (with_reducible show wpAny _ _ (PySem.exec (PySem.Stmt.If _ _ _ _) _) _ _ _)); (fail_if_success (with_reducible show wpAny _ _ (PySem.eval (PySem.Expr.IfExp _ _ _ _) _) _ _ _)); (fail_if_success (with_reducible show wpAny _ _ (PySem.exec (PySem.Stmt.Raise _ _ _) _) _ _ _)); (fail_if_success (with_reducible show wpAny _ _ (PySem.call (Value.ref 31) _ _) _ _ _)); (fail_if_success (with_reducible show wpAny _ _ (PySem.call (Value.ref 51) _ _) _ _ _)); (fail_if_success (with_reducible show wpAny _ _ (PySem.call (Value.ref 62) _ _) _ _ _)); (fail_if_success (with_reducible show wpAny _ _ (PySem.call (Value.ref 69) _ _) _ _ _)); first | walk1 | (dsimp only; walk1) | (dsimp only; k_unfold; (try dsimp only))) | fail "no step"))
        (rename Fr _ _ _ _ => F4); (rename News _ _ _ _ => N4)
        exact meetI ({ freshSV with field := v - 1 }) (p + 1) rfl F4 rfl rfl rfl (newsTl (newsTl N4)) (specI rfl) ⟨by unfold readP; rw [hnum]; simp only [if_pos hc, if_neg hf], hp2⟩
    · have key : readP ns at₀ = restP ns freshSV at₀ := by unfold readP; rw [hnum]; simp only [if_neg hc]
      by_cases h1 : at₀ < p
      · by_cases h2 : p < ns.length
        · have hx0 : ns[((p : Nat) : Int).toNat]? = some ns[p] := by simp [h2]
          have hc3 : ns[p] ≠ 36 := fun q => hc ⟨h1, by rw [List.getElem?_eq_getElem h2, q]⟩
          generalize ns[p] = c at hx0 hc3
          walk1
          (repeat' (first | (k_unfold; (try dsimp only)) | ((fail_if_success (with_reducible show wpAny _ _ (PySem.exec (PySem.Stmt.If _ _ _ _) _) _ _ _)); (fail_if_success (with_reducible show wpAny _ _ (PySem.eval (PySem.Expr.IfExp _ _ _ _) _) _ _ _)); (fail_if_success (with_reducible show wpAny _ _ (PySem.exec (PySem.Stmt.Raise _ _ _) _) _ _ _)); (fail_if_success (with_reducible show wpAny _ _ (PySem.call (Value.ref 31) _ _) _ _ _)); (fail_if_success (with_reducible show wpAny _ _ (PySem.call (Value.ref 51) _ _) _ _ _)); (fail_if_success (with_reducible show wpAny _ _ (PySem.call (Value.ref 62) _ _) _ _ _)); (fail_if_success (with_reducible show wpAny _ _ (PySem.call (Value.ref 69) _ _) _ _ _)); first | walk1 | (dsimp only; walk1) | (dsimp only; k_unfold; (try dsimp only))) | fail "no step"))
          (rename Fr _ _ _ _ => F4); (rename News _ _ _ _ => N4)
          exact meetI (freshSV) (at₀) rfl F4 rfl rfl rfl (newsTl N4) hsv0 ⟨key, hat⟩
        · walk1
          (repeat' (first | (k_unfold; (try dsimp only)) | ((fail_if_success (with_reducible show wpAny _ _ (PySem.exec (PySem.Stmt.If _ _ _ _) _) _ _ _)); (fail_if_success (with_reducible show wpAny _ _ (PySem.eval (PySem.Expr.IfExp _ _ _ _) _) _ _ _)); (fail_if_success (with_reducible show wpAny _ _ (PySem.exec (PySem.Stmt.Raise _ _ _) _) _ _ _)); (fail_if_success (with_reducible show wpAny _ _ (PySem.call (Value.ref 31) _ _) _ _ _)); (fail_if_success (with_reducible show wpAny _ _ (PySem.call (Value.ref 51) _ _) _ _ _)); (fail_if_success (with_reducible show wpAny _ _ (PySem.call (Value.ref 62) _ _) _ _ _)); (fail_if_success (with_reducible show wpAny _ _ (PySem.call (Value.ref 69) _ _) _ _ _)); first | walk1 | (dsimp only; walk1) | (dsimp only; k_unfold; (try dsimp only))) | fail "no step"))
          (rename Fr _ _ _ _ => F4); (rename News _ _ _ _ => N4)
          exact meetI (freshSV) (at₀) rfl F4 rfl rfl rfl (newsTl N4) hsv0 ⟨key, hat⟩
      · walk1
        (repeat' (first | (k_unfold; (try dsimp only)) | ((fail_if_success (with_reducible show wpAny _ _ (PySem.exec (PySem.Stmt.If _ _ _ _) _) _ _ _)); (fail_if_success (with_reducible show wpAny _ _ (PySem.eval (PySem.Expr.IfExp _ _ _ _) _) _ _ _)); (fail_if_success (with_reducible show wpAny _ _ (PySem.exec (PySem.Stmt.Raise _ _ _) _) _ _ _)); (fail_if_success (with_reducible show wpAny _ _ (PySem.call (Value.ref 31) _ _) _ _ _)); (fail_if_success (with_reducible show wpAny _ _ (PySem.call (Value.ref 51) _ _) _ _ _)); (fail_if_success (with_reducible show wpAny _ _ (PySem.call (Value.ref 62) _ _) _ _ _)); (fail_if_success (with_reducible show wpAny _ _ (PySem.call (Value.ref 69) _ _) _ _ _)); first | walk1 | (dsimp only; walk1) | (dsimp only; k_unfold; (try dsimp only))) | fail "no step"))
        (rename Fr _ _ _ _ => F4); (rename News _ _ _ _ => N4)
        exact meetI (freshSV) (at₀) rfl F4 rfl rfl rfl (newsTl N4) hsv0 ⟨key, hat⟩
  case after =>
    intro f s' hm
    refine Classical.byContradiction fun hng => ?_
    obtain ⟨rfl, h6, tk6, m6, es, v6, q, t6, rfl, F6, e1, e2, e3, N6, hsv, hrel, hq⟩ := hm
    refine hng ?_
    clear hng
    dsimp only
    replace F6 := frOv F6 [("spec", .ref x), ("codes", .ref l), ("at", .int ((q : Nat) : Int) t6)] (by simp [e1, e2, e3])
    dsimp only [kstB] at F6
    clear e1 e2 e3 hsv0 hnum hle l3 htx htd
    (repeat' (first | (k_unfold; (try dsimp only)) | ((fail_if_success (with_reducible show wpAny _ _ (PySem.exec (PySem.Stmt.If _ _ _ _) _) _ _ _)); (fail_if_success (with_reducible show wpAny _ _ (PySem.eval (PySem.Expr.IfExp _ _ _ _) _) _ _ _)); (fail_if_success (with_reducible show wpAny _ _ (PySem.exec (PySem.Stmt.Raise _ _ _) _) _ _ _)); (fail_if_success (with_reducible show wpAny _ _ (PySem.call (Value.ref 31) _ _) _ _ _)); (fail_if_success (with_reducible show wpAny _ _ (PySem.call (Value.ref 51) _ _) _ _ _)); (fail_if_success (with_reducible show wpAny _ _ (PySem.call (Value.ref 62) _ _) _ _ _)); (fail_if_success (with_reducible show wpAny _ _ (PySem.call (Value.ref 69) _ _) _ _ _)); first | walk1 | (dsimp only; walk1) | (dsimp only; k_unfold; (try dsimp only))) | fail "no step"))
    refine flags2 (at₀ := q) B1 F6 X1 N6 T1 rfl (UpdF.tail hxd (UpdF.head hne)) (.head _) hxd (.tail _ (.tail _ hl)) hld hsv hi hlen rfl hq (by k_room) (by units_room) fun t7 h7 tk7 es7 F7 N7 hsv7 => ?_
    (try dsimp only at N7)
    clear F6 N6 hsv
    have hq7 := flagsP_le (ns.drop q) v6 q
    rw [List.length_drop] at hq7
    have hrel7 : readP ns at₀ = widthP ns (flagsP (ns.drop q) v6 q).1 (flagsP (ns.drop q) v6 q).2 := hrel
    generalize (flagsP (ns.drop q) v6 q).1 = v7 at hsv7 hrel7
    generalize (flagsP (ns.drop q) v6 q).2 = q7 at hrel7 hq7 F7 N7
    (repeat' (first | (k_unfold; (try dsimp only)) | ((fail_if_success (with_reducible show wpAny _ _ (PySem.exec (PySem.Stmt.If _ _ _ _) _) _ _ _)); (fail_if_success (with_reducible show wpAny _ _ (PySem.eval (PySem.Expr.IfExp _ _ _ _) _) _ _ _)); (fail_if_success (with_reducible show wpAny _ _ (PySem.exec (PySem.Stmt.Raise _ _ _) _) _ _ _)); (fail_if_success (with_reducible show wpAny _ _ (PySem.call (Value.ref 31) _ _) _ _ _)); (fail_if_success (with_reducible show wpAny _ _ (PySem.call (Value.ref 51) _ _) _ _ _)); (fail_if_success (with_reducible show wpAny _ _ (PySem.call (Value.ref 62) _ _) _ _ _)); (fail_if_success (with_reducible show wpAny _ _ (PySem.call (Value.ref 69) _ _) _ _ _)); first | walk1 | (dsimp only; walk1) | (dsimp only; k_unfold; (try dsimp only))) | fail "no step"))
    (rename Fr _ _ _ _ => F6); (rename News _ _ _ _ => N6)
    (try clear F7); (try clear N7)
    refine numfrom1 (at₀ := q7) B1 F6 X1 N6 T1 rfl (.tail _ (.tail _ hl)) hi hlen rfl (by omega) (by k_room) (by units_room) ?ret2 ?err2
    case err2 =>
      intro hno g H e dx h' tk' FG fl
      refine fl.leave rfl rfl FG fun h'' fl' => ?_
      exact err (by rw [hrel7]; unfold widthP; rw [hno]) _ _ _ _ _ _ FG1 (fl'.less fun p hp => .tail _ (.tail _ hp))
    intro v p hnum tp t1 t2 h' tk' F7 N7 l3
    clear F6 N6
    have hle := numP_le hnum
    rw [List.length_drop] at hle
    have htx := ltN (a := x) (b := tp) (l3 _ (.head _))
    have htd := ltN (a := dx) (b := tp) (l3 _ (.tail _ (.head _)))
    have hrel8 : readP ns at₀ = precP ns { v7 with width := v } p := by rw [hrel7]; unfold widthP; rw [hnum]
    refine Classical.byContradiction fun hng => ?_
    obtain ⟨k0, k1, k2, k3, k4, k5, k6, k7, k8, t0, t6, t7, t8, rfl⟩ := hsv7
    refine hng ?_
    clear hng
    (repeat' (first | (k_unfold; (try dsimp only)) | ((fail_if_success (with_reducible show wpAny _ _ (PySem.exec (PySem.Stmt.If _ _ _ _) _) _ _ _)); (fail_if_success (with_reducible show wpAny _ _ (PySem.eval (PySem.Expr.IfExp _ _ _ _) _) _ _ _)); (fail_if_success (with_reducible show wpAny _ _ (PySem.exec (PySem.Stmt.Raise _ _ _) _) _ _ _)); (fail_if_success (with_reducible show wpAny _ _ (PySem.call (Value.ref 31) _ _) _ _ _)); (fail_if_success (with_reducible show wpAny _ _ (PySem.call (Value.ref 51) _ _) _ _ _)); (fail_if_success (with_reducible show wpAny _ _ (PySem.call (Value.ref 62) _ _) _ _ _)); (fail_if_success (with_reducible show wpAny _ _ (PySem.call (Value.ref 69) _ _) _ _ _)); first | walk1 | (dsimp only; walk1) | (dsimp only; k_unfold; (try dsimp only))) | fail "no step"))
    (rename News _ _ _ _ => N7w)
    replace N7w : News _ _ _ (_ :: (x, instObj 51 dx) :: (dx, dictOf (specEs w.params _ _ _ _ _ _ _ _ _ _ _ _ _ { v7 with width := v }) 9) :: news) := N7w
    refine wpAny_mono (Q := MeetRS w g1 L1 news s x l dx fun v q => readP ns at₀ = endP ns v q ∧ q ≤ ns.length) ?if2 ?after2 (fun _ _ z => z)
    case if2 =>
      with_reducible show wpAny _ _ _ _ _ _
      k_fold
      by_cases hc : ns[p]? = some 46
      · have hp2 : p < ns.length := by
          rw [List.getElem?_eq_some_iff] at hc
          exact hc.1
        have hx0 : ns[((p : Nat) : Int).toNat]? = some 46 := hc
        walk1
        (repeat' (first | (k_unfold; (try dsimp only)) | ((fail_if_success (with_reducible show wpAny _ _ (PySem.exec (PySem.Stmt.If _ _ _ _) _) _ _ _)); (fail_if_success (with_reducible show wpAny _ _ (PySem.eval (PySem.Expr.IfExp _ _ _ _) _) _ _ _)); (fail_if_success (with_reducible show wpAny _ _ (PySem.exec (PySem.Stmt.Raise _ _ _) _) _ _ _)); (fail_if_success (with_reducible show wpAny _ _ (PySem.call (Value.ref 31) _ _) _ _ _)); (fail_if_success (with_reducible show wpAny _ _ (PySem.call (Value.ref 51) _ _) _ _ _)); (fail_if_success (with_reducible show wpAny _ _ (PySem.call (Value.ref 62) _ _) _ _ _)); (fail_if_success (with_reducible show wpAny _ _ (PySem.call (Value.ref 69) _ _) _ _ _)); first | walk1 | (dsimp only; walk1) | (dsimp only; k_unfold; (try dsimp only))) | fail "no step"))
        (rename Fr _ _ _ _ => F6); (rename News _ _ _ _ => N6)
        refine numfrom1 (at₀ := p + 1) B1 F6 X1 N6 T1 rfl (.tail _ (.tail _ (.tail _ hl))) hi hlen rfl (by omega) (by k_room) (by units_room) ?ret3 ?err3
        case err3 =>
          intro hno g H e dx h' tk' FG fl
          refine fl.leave rfl rfl FG fun h'' fl' => ?_
          exact err (by rw [hrel8]; unfold precP; rw [if_pos hc, hno]) _ _ _ _ _ _ FG1 (fl'.less fun p hp => .tail _ (.tail _ (.tail _ hp)))
        intro v9 p9 hnum9 tp9 t19 t29 h9 tk9 F9 N9 l9
        clear F6 N6
        have hle9 := numP_le hnum9
        rw [List.length_drop] at hle9
        have htp9 := ltN (a := tp) (b := tp9) (l9 _ (.head _))
        have htx9 := ltN (a := x) (b := tp9) (l9 _ (.tail _ (.head _)))
        have htd9 := ltN (a := dx) (b := tp9) (l9 _ (.tail _ (.tail _ (.head _))))
        (repeat' (first | (k_unfold; (try dsimp only)) | ((fail_if_success (with_reducible show wpAny _ _ (PySem.exec (PySem.Stmt.If _ _ _ _) _) _ _ _)); (fail_if_success (with_reducible show wpAny _ _ (PySem.eval (PySem.Expr.IfExp _ _ _ _) _) _ _ _)); (fail_if_success (with_reducible show wpAny _ _ (PySem.exec (PySem.Stmt.Raise _ _ _) _) _ _ _)); (fail_if_success (with_reducible show wpAny _ _ (PySem.call (Value.ref 31) _ _) _ _ _)); (fail_if_success (with_reducible show wpAny _ _ (PySem.call (Value.ref 51) _ _) _ _ _)); (fail_if_success (with_reducible show wpAny _ _ (PySem.call (Value.ref 62) _ _) _ _ _)); (fail_if_success (with_reducible show wpAny _ _ (PySem.call (Value.ref 69) _ _) _ _ _)); first | walk1 | (dsimp only; walk1) | (dsimp only; k_unfold; (try dsimp only))) | fail "no step"))
        (rename Fr _ _ _ _ => F4); (rename News _ _ _ _ => N4)
        exact meetI ({ v7 with width := v, prec := v9 }) (p9) rfl F4 rfl rfl rfl (newsTl (newsTl N4)) (specI rfl) ⟨by rw [hrel8]; unfold precP; rw [if_pos hc, hnum9], by omega⟩
      · have key : readP ns at₀ = endP ns { v7 with width := v } p := by rw [hrel8]; unfold precP; rw [if_neg hc]
        by_cases h2 : p < ns.length
        · have hx0 : ns[((p : Nat) : Int).toNat]? = some ns[p] := by simp [h2]
          have hc3 : ns[p] ≠ 46 := fun q => hc (by rw [List.getElem?_eq_getElem h2, q])
          generalize ns[p] = c at hx0 hc3
          walk1
          (repeat' (first | (k_unfold; (try dsimp only)) | ((fail_if_success (with_reducible show wpAny _ _ (PySem.exec (PySem.Stmt.If _ _ _ _) _) _ _ _)); (fail_if_success (with_reducible show wpAny _ _ (PySem.eval (PySem.Expr.IfExp _ _ _ _) _) _ _ _)); (fail_if_success (with_reducible show wpAny _ _ (PySem.exec (PySem.Stmt.Raise _ _ _) _) _ _ _)); (fail_if_success (with_reducible show wpAny _ _ (PySem.call (Value.ref 31) _ _) _ _ _)); (fail_if_success (with_reducible show wpAny _ _ (PySem.call (Value.ref 51) _ _) _ _ _)); (fail_if_success (with_reducible show wpAny _ _ (PySem.call (Value.ref 62) _ _) _ _ _)); (fail_if_success (with_reducible show wpAny _ _ (PySem.call (Value.ref 69) _ _) _ _ _)); first | walk1 | (dsimp only; walk1) | (dsimp only; k_unfold; (try dsimp only))) | fail "no step"))
          (rename Fr _ _ _ _ => F4); (rename News _ _ _ _ => N4)
          exact meetI ({ v7 with width := v }) (p) rfl F4 rfl rfl rfl (newsTl N4) (specI rfl) ⟨key, by omega⟩
        · walk1
          (repeat' (first | (k_unfold; (try dsimp only)) | ((fail_if_success (with_reducible show wpAny _ _ (PySem.exec (PySem.Stmt.If _ _ _ _) _) _ _ _)); (fail_if_success (with_reducible show wpAny _ _ (PySem.eval (PySem.Expr.IfExp _ _ _ _) _) _ _ _)); (fail_if_success (with_reducible show wpAny _ _ (PySem.exec (PySem.Stmt.Raise _ _ _) _) _ _ _)); (fail_if_success (with_reducible show wpAny _ _ (PySem.call (Value.ref 31) _ _) _ _ _)); (fail_if_success (with_reducible show wpAny _ _ (PySem.call (Value.ref 51) _ _) _ _ _)); (fail_if_success (with_reducible show wpAny _ _ (PySem.call (Value.ref 62) _ _) _ _ _)); (fail_if_success (with_reducible show wpAny _ _ (PySem.call (Value.ref 69) _ _) _ _ _)); first | walk1 | (dsimp only; walk1) | (dsimp only; k_unfold; (try dsimp only))) | fail "no step"))
          (rename Fr _ _ _ _ => F4); (rename News _ _ _ _ => N4)
          exact meetI ({ v7 with width := v }) (p) rfl F4 rfl rfl rfl (newsTl N4) (specI rfl) ⟨key, by omega⟩
    case after2 =>
      intro f s' hm
      refine Classical.byContradiction fun hng => ?_
      obtain ⟨rfl, h6, tk6, m6, es, v6, q, t6, rfl, F6, e1, e2, e3, N6, hsv, hrel, hq⟩ := hm
      refine hng ?_
      clear hng
      dsimp only
      replace F6 := frOv F6 [("spec", .ref x), ("codes", .ref l), ("at", .int ((q : Nat) : Int) t6)] (by simp [e1, e2, e3])
      dsimp only [kstB] at F6
      clear e1 e2 e3
      (repeat' (first | (k_unfold; (try dsimp only)) | ((fail_if_success (with_reducible show wpAny _ _ (PySem.exec (PySem.Stmt.If _ _ _ _) _) _ _ _)); (fail_if_success (with_reducible show wpAny _ _ (PySem.eval (PySem.Expr.IfExp _ _ _ _) _) _ _ _)); (fail_if_success (with_reducible show wpAny _ _ (PySem.exec (PySem.Stmt.Raise _ _ _) _) _ _ _)); (fail_if_success (with_reducible show wpAny _ _ (PySem.call (Value.ref 31) _ _) _ _ _)); (fail_if_success (with_reducible show wpAny _ _ (PySem.call (Value.ref 51) _ _) _ _ _)); (fail_if_success (with_reducible show wpAny _ _ (PySem.call (Value.ref 62) _ _) _ _ _)); (fail_if_success (with_reducible show wpAny _ _ (PySem.call (Value.ref 69) _ _) _ _ _)); first | walk1 | (dsimp only; walk1) | (dsimp only; k_unfold; (try dsimp only))) | fail "no step"))
      by_cases h2 : q < ns.length
      · have hx0 : ns[((q : Nat) : Int).toNat]? = some ns[q] := by simp [h2]
        have key : readP ns at₀ = some ({ v6 with letter := chrOf ns[q] }, q + 1) := by rw [hrel]; unfold endP; rw [List.getElem?_eq_getElem h2]
        generalize ns[q] = c at hx0 key
        refine Classical.byContradiction fun hng => ?_
        obtain ⟨k0, k1, k2, k3, k4, k5, k6, k7, k8, t0, t6, t7, t8, rfl⟩ := hsv
        refine hng ?_
        clear hng
        walk1
        (repeat' (first | (k_unfold; (try dsimp only)) | ((fail_if_success (with_reducible show wpAny _ _ (PySem.exec (PySem.Stmt.If _ _ _ _) _) _ _ _)); (fail_if_success (with_reducible show wpAny _ _ (PySem.eval (PySem.Expr.IfExp _ _ _ _) _) _ _ _)); (fail_if_success (with_reducible show wpAny _ _ (PySem.exec (PySem.Stmt.Raise _ _ _) _) _ _ _)); (fail_if_success (with_reducible show wpAny _ _ (PySem.call (Value.ref 31) _ _) _ _ _)); (fail_if_success (with_reducible show wpAny _ _ (PySem.call (Value.ref 51) _ _) _ _ _)); (fail_if_success (with_reducible show wpAny _ _ (PySem.call (Value.ref 62) _ _) _ _ _)); (fail_if_success (with_reducible show wpAny _ _ (PySem.call (Value.ref 69) _ _) _ _ _)); first | walk1 | (dsimp only; walk1) | (dsimp only; k_unfold; (try dsimp only))) | fail "no step"))
        with_reducible refine viaT5 (chrOf c) (fun Q' hq => ?chr5) ?afchr5
        case chr5 =>
          by_cases hc : 32 ≤ c ∧ c < 127
          · have kc : chrOf c = Str.mk #[c.toNat] := by unfold chrOf; rw [if_pos hc]
            rw [kc] at hq
            walk1
            (repeat' (first | (k_unfold; (try dsimp only)) | ((fail_if_success (with_reducible show wpAny _ _ (PySem.exec (PySem.Stmt.If _ _ _ _) _) _ _ _)); (fail_if_success (with_reducible show wpAny _ _ (PySem.eval (PySem.Expr.IfExp _ _ _ _) _) _ _ _)); (fail_if_success (with_reducible show wpAny _ _ (PySem.exec (PySem.Stmt.Raise _ _ _) _) _ _ _)); (fail_if_success (with_reducible show wpAny _ _ (PySem.call (Value.ref 31) _ _) _ _ _)); (fail_if_success (with_reducible show wpAny _ _ (PySem.call (Value.ref 51) _ _) _ _ _)); (fail_if_success (with_reducible show wpAny _ _ (PySem.call (Value.ref 62) _ _) _ _ _)); (fail_if_success (with_reducible show wpAny _ _ (PySem.call (Value.ref 69) _ _) _ _ _)); first | walk1 | (dsimp only; walk1) | (dsimp only; k_unfold; (try dsimp only))) | fail "no step"))
            all_goals exact hq _ _
          · have kc : chrOf c = Str.ofString "?" := by unfold chrOf; rw [if_neg hc]
            rw [kc] at hq
            walk1
            (repeat' (first | (k_unfold; (try dsimp only)) | ((fail_if_success (with_reducible show wpAny _ _ (PySem.exec (PySem.Stmt.If _ _ _ _) _) _ _ _)); (fail_if_success (with_reducible show wpAny _ _ (PySem.eval (PySem.Expr.IfExp _ _ _ _) _) _ _ _)); (fail_if_success (with_reducible show wpAny _ _ (PySem.exec (PySem.Stmt.Raise _ _ _) _) _ _ _)); (fail_if_success (with_reducible show wpAny _ _ (PySem.call (Value.ref 31) _ _) _ _ _)); (fail_if_success (with_reducible show wpAny _ _ (PySem.call (Value.ref 51) _ _) _ _ _)); (fail_if_success (with_reducible show wpAny _ _ (PySem.call (Value.ref 62) _ _) _ _ _)); (fail_if_success (with_reducible show wpAny _ _ (PySem.call (Value.ref 69) _ _) _ _ _)); first | walk1 | (dsimp only; walk1) | (dsimp only; k_unfold; (try dsimp only))) | fail "no step"))
            all_goals exact hq _ _
        intro tchr tkchr
        (try dsimp only)
        (repeat' (first | (k_unfold; (try dsimp only)) | ((fail_if_success (with_reducible show wpAny _ _ (PySem.exec (PySem.Stmt.If _ _ _ _) _) _ _ _)); (fail_if_success (with_reducible show wpAny _ _ (PySem.eval (PySem.Expr.IfExp _ _ _ _) _) _ _ _)); (fail_if_success (with_reducible show wpAny _ _ (PySem.exec (PySem.Stmt.Raise _ _ _) _) _ _ _)); (fail_if_success (with_reducible show wpAny _ _ (PySem.call (Value.ref 31) _ _) _ _ _)); (fail_if_success (with_reducible show wpAny _ _ (PySem.call (Value.ref 51) _ _) _ _ _)); (fail_if_success (with_reducible show wpAny _ _ (PySem.call (Value.ref 62) _ _) _ _ _)); (fail_if_success (with_reducible show wpAny _ _ (PySem.call (Value.ref 69) _ _) _ _ _)); first | walk1 | (dsimp only; walk1) | (dsimp only; k_unfold; (try dsimp only))) | fail "no step"))
        (rename Fr _ _ _ _ => F4); (rename News _ _ _ _ => N4)
        (rename (_ ∧ _ ∧ AllLt _ _) => l9)
        refine leaveK_ F4 N4 ?_
        intro F5 N5
        exact ret _ _ key _ _ _ _ _ _ _ F5 N5 (specI rfl) l1 l2 l9.1
      · walk1
        (repeat' (first | (k_unfold; (try dsimp only)) | ((fail_if_success (with_reducible show wpAny _ _ (PySem.exec (PySem.Stmt.If _ _ _ _) _) _ _ _)); (fail_if_success (with_reducible show wpAny _ _ (PySem.eval (PySem.Expr.IfExp _ _ _ _) _) _ _ _)); (fail_if_success (with_reducible show wpAny _ _ (PySem.exec (PySem.Stmt.Raise _ _ _) _) _ _ _)); (fail_if_success (with_reducible show wpAny _ _ (PySem.call (Value.ref 31) _ _) _ _ _)); (fail_if_success (with_reducible show wpAny _ _ (PySem.call (Value.ref 51) _ _) _ _ _)); (fail_if_success (with_reducible show wpAny _ _ (PySem.call (Value.ref 62) _ _) _ _ _)); (fail_if_success (with_reducible show wpAny _ _ (PySem.call (Value.ref 69) _ _) _ _ _)); first | walk1 | (dsimp only; walk1) | (dsimp only; k_unfold; (try dsimp only))) | fail "no step"))
        refine raiseOwn rfl ?_
        (repeat' (first | (k_unfold; (try dsimp only)) | ((fail_if_success (with_reducible show wpAny _ _ (PySem.exec (PySem.Stmt.If _ _ _ _) _) _ _ _)); (fail_if_success (with_reducible show wpAny _ _ (PySem.eval (PySem.Expr.IfExp _ _ _ _) _) _ _ _)); (fail_if_success (with_reducible show wpAny _ _ (PySem.exec (PySem.Stmt.Raise _ _ _) _) _ _ _)); (fail_if_success (with_reducible show wpAny _ _ (PySem.call (Value.ref 31) _ _) _ _ _)); (fail_if_success (with_reducible show wpAny _ _ (PySem.call (Value.ref 51) _ _) _ _ _)); (fail_if_success (with_reducible show wpAny _ _ (PySem.call (Value.ref 62) _ _) _ _ _)); (fail_if_success (with_reducible show wpAny _ _ (PySem.call (Value.ref 69) _ _) _ _ _)); first | walk1 | (dsimp only; walk1) | (dsimp only; k_unfold; (try dsimp only))) | fail "no step"))
        (rename Fr _ _ _ _ => F4); (rename News _ _ _ _ => N4)
        refine sigMade B1 F4 X1 N4 T1 rfl rfl rfl (by k_room) fun e dxe te ese h5 tk5 F5 N5 hs k1 k2 k3 => ?_
        refine ownRaisable X1 F5 N5 ?_
        refine sigLeaves B1 F5 N5 ?_ k3 hs rfl fun H h' fl => ?_
        · intro p hp
          rcases List.mem_cons.mp hp with rfl | hp
          · exact k2
          · exact Nat.lt_trans (k1 p hp) k2
        · exact err (by rw [hrel]; unfold endP; rw [List.getElem?_eq_none (by omega)]) _ _ _ _ _ _ FG1 (fl.less fun p hp => .tail _ (.tail _ (.tail _ (.tail _ hp))))
end Mine
end

namespace Mine
theorem flushE1 {M : PySem.Model} {A : PySem.Around} {E : PySem.Value → PySem.Shared → Prop} {s : PySem.Shared} {Q : PySem.Flow → PySem.Shared → Prop} {pos : PySem.Pos} {env : PySem.Env} (h : Q .next s) : PySem.wpAny M A (PySem.exec (PySem.Stmt.Pass pos) env) Q E s := by
  walk1
  exact h
end Mine

-- part E1
section
open PySem PySem.W PyProof.Rows
set_option maxRecDepth 100000
set_option maxHeartbeats 4000000
namespace Mine
theorem flat_one (k : Nat) (x : Int) : (List.replicate k [x]).flatten = List.replicate k x := by
  induction k with
  | zero => rfl
  | succ k ih => rw [List.replicate_succ, List.flatten_cons, ih]; rfl
theorem max_zero (a : Int) : (if a > 0 then a else 0).toNat = a.toNat := by split <;> omega
theorem padded1 {w : World} {pv : Program} {lo : List Str} {mg mb : Str → Option Value} {mean : ExcName → Option Value} {dp un : Nat} {gd : Option (List Code)} {cn : Str} {cs : Scope} {a : Addr} {ccd : Value} {cl : List (Str × Addr)} {outer : List Env} {A₀ : Around} {base h₀ : Heap} {L : Addr} {m : Str → Option Value} {news : List (Addr × Obj)} {s : Shared} {Q E : Value → Shared → Prop}
  {l x dx : Addr} {vs : List Value} {ns : List Int} {n : Nat} {es : List DictEntry} {v : SV}
  (B : Below A₀ base outer h₀) (F : Fr h₀ L s.heap m) (X : (Mine.hd.heap_39 w.params).In h₀) (N : News h₀ L s.heap news) (T : Top pv lo mean mg mb h₀) (hk : cs.kind = .function)
  (hx : (x, instObj 51 dx) ∈ news) (hdx : (dx, dictOf es 9) ∈ news) (hl : (l, listOf vs.toArray n) ∈ news) (hv : SpecIs w.params es v) (hi : IntsAre vs ns) (hlen : ns.length ≤ 1000) (hw : 0 ≤ v.width) (hw1 : v.width < 1000)
  (hdp : dp + 20 < recursionLimit) (hun : un + 300 < cLine)
  (ret : ∀ t h' tk' vs' n', Fr h₀ L h' m → News h₀ L h' ((t, listOf vs'.toArray n') :: news) → (∀ p ∈ news, p.1 < t) → IntsAre vs' (if v.left then ns ++ List.replicate (v.width - ns.length).toNat 32 else List.replicate (v.width - ns.length).toNat 32 ++ ns) → Q (.ref t) { s with heap := h', toks := tk' }) :
  wpAny (model PR w) (ktrTop dp un gd cn cs L a ccd cl outer) (call (.ref 83) [.ref x, .ref l]) Q E s := by
  refine wpAny_call ?_
  refine' code_def B F X N T ?kA ?kF ?kK ?k6 ?k7 ?k8 ?k9 ?kB ?_ ?c2 ?c3 ?c4 ?c5
  (case kA => exact rfl)
  (case kF => exact rfl)
  (case kK => exact hk)
  (case k6 => k_is)
  (case k7 => k_is)
  (case k8 => k_room)
  (case k9 => exact BindsTo.of_eq rfl)
  (case kB => exact locs rfl)
  (case c2 => exact rfl)
  (case c3 => exact rfl)
  (case c4 => exact rfl)
  (case c5 => decide)
  intro g1 L1 h1 FG1 F1 N1 B1 X1 T1
  dsimp only
  (try k_fold)
  clear F B N T X
  replace F1 := frOv F1 [("spec", .ref x), ("codes", .ref l)] (by intro p hp; simp only [List.mem_cons, List.not_mem_nil, or_false] at hp; rcases hp with rfl | rfl <;> rfl)
  dsimp only [kstB] at F1
  refine Classical.byContradiction fun hng => ?_
  obtain ⟨k0, k1, k2, k3, k4, k5, k6, k7, k8, t0, t6, t7, t8, rfl⟩ := hv
  refine hng ?_
  clear hng
  (repeat' (first | (k_unfold; (try dsimp only)) | ((fail_if_success (with_reducible show wpAny _ _ (PySem.exec (PySem.Stmt.While _ _ _ _) _) _ _ _)); first | walk1 | (dsimp only; walk1) | (dsimp only; k_unfold; (try dsimp only))) | fail "no step"))
  all_goals (
    (rename Fr _ _ _ _ => F4); (rename News _ _ _ _ => N4)
    (rename (_ ∧ _ ∧ AllLt _ _) => l9)
    (rename IntsAre _ _ => hi9)
    (rename (SV.left _ = _) => hleft)
    dsimp only
    refine leaveK_ F4 N4 ?_
    intro F5 N5
    rw [flat_one, max_zero] at hi9
    exact ret _ _ _ _ _ F5 (newsBeh (newsBeh N5)) (fun p hp => ktn_ltOf l9.2.2 p hp) (by simpa [hleft] using hi9))
end Mine
end

namespace Mine
theorem flushE2 {M : PySem.Model} {A : PySem.Around} {E : PySem.Value → PySem.Shared → Prop} {s : PySem.Shared} {Q : PySem.Flow → PySem.Shared → Prop} {pos : PySem.Pos} {env : PySem.Env} (h : Q .next s) : PySem.wpAny M A (PySem.exec (PySem.Stmt.Pass pos) env) Q E s := by
  walk1
  exact h
end Mine

-- part E2
section
open PySem PySem.W PyProof.Rows
set_option maxRecDepth 100000
set_option maxHeartbeats 4000000
namespace Mine
theorem compOrd {prog : Program} {w : World} {A : Around} {E : Value → Shared → Prop} {s : Shared} {h₀ : Heap} {L : Addr} {m : Str → Option Value} {news : List (Addr × Obj)} {env : Env}
    {elt iter : Expr} {x : Str} {px : Pos} {scope : Scope} {cl : List (Str × Addr)} {pos : Pos} {Q : Value → Shared → Prop} {y : Str} {t : Tok}
    (F : Fr h₀ L s.heap m) (N : News h₀ L s.heap news) (hh : A.handled = none) (hclos : closureFor scope env = pure cl) (hcell : ∀ z ∈ scope.names, z.2 ≠ .cell) (hkind : scope.kind = .function)
    (hnames : ∀ z ∈ scope.names, z.2 = .local → scope.names.lookup z.1 = some .local) (hx : scope.names.lookup x = some .local)
    (hs : ∀ x, foldedSetIterable iter env x = pure x) (hsz : y.length ≤ sizeLine)
    (hi : ∀ {Q' : Value → Shared → Prop}, Q' (.str y t) s → wpAny (model prog w) A (eval iter env) Q' E s)
    (turn : ∀ C oC (c : Nat) (u : Tok) (s₃ : Shared) (m₂ : Str → Option Value) (E' : Value → Shared → Prop) (Q' : Value → Shared → Prop), LCg.NsObj oC m₂ → m₂ x = some (.str ⟨#[c]⟩ u) → Fr h₀ L s₃.heap m → News h₀ L s₃.heap ((C, oC) :: news) →
      (∀ t' tk', Q' (.int c t') { s₃ with toks := tk' }) → wpAny (model prog w) A (eval elt (compEnvC scope cl C env)) Q' E' s₃)
    (fin : ∀ D (ys : List Value) n' h' tk, Fr h₀ L h' m → News h₀ L h' ((D, listOf ys.toArray n') :: news) → (∀ p ∈ news, p.1 ≠ D) → IntsAre ys (List.map (fun c : Nat => (c : Int)) y.cps.toList) → Q (.ref D) { s with heap := h', toks := tk }) :
    wpAny (model prog w) A (eval (.ListComp elt [⟨.Name x px, iter, [], 0⟩] scope pos) env) Q E s := by
  refine wpAny_ListComp_free (fun _ => true) (fun v r => ∃ (c : Nat) (u t : Tok), v = .str ⟨#[c]⟩ u ∧ r = .int c t) hclos hcell hkind hnames hx (hi ?_) hs
  refine wpAny_pyIter_str fun o St W hst => ?_
  have up : ∀ (h' : Heap), (∀ b o', b ∉ [s.heap.objs.size] → (s.heap.push o).get? b = some o' → h'.get? b = some o') → ∀ b o', s.heap.get? b = some o' → h'.get? b = some o' :=
    fun h' hk b o' e => hk b o' (old_not_new e) (Heap.get?_push_of_some _ e)
  refine ⟨s.heap.objs.size, [s.heap.objs.size], [s.heap.objs.size], y.cps.size, SignAt y, St, rfl, W A hh, hsz, hst, ?_, ⟨?_, ?_⟩, ?_⟩
  · intro b hb
    show b < (s.heap.push o).objs.size
    rw [Heap.size_push, List.mem_singleton.mp hb]
    exact Nat.lt_succ_self _
  · intro C i v s₃ m₃ E' _ _ _ _ _ _
    exact wpAny_pure ⟨rfl, s₃.heap, s₃.toks, rfl, fun _ _ e => e⟩
  · rintro C i v s₃ m₃ E' hC ⟨c, u, hc, rfl⟩ _ hn hm hk htk
    obtain ⟨oC, eC, nC⟩ := LCg.ns_obj hn
    have hsz' : (s.heap.push o).objs.size = s.heap.objs.size + 1 := Heap.size_push _ _
    have fresh : s.heap.get? C = none := by
      cases e : s.heap.get? C with
      | none => rfl
      | some o' => exact absurd (Heap.lt_size e) (by rw [hsz'] at hC; exact Nat.not_lt.mpr (Nat.le_trans (Nat.le_succ _) hC))
    have up3 := up s₃.heap hk
    have hCL : C ≠ L := by
      rintro rfl
      obtain ⟨o', _, _, eL, _⟩ := F.ns
      rw [fresh] at eL; cases eL
    have hC0 : h₀.get? C = none := by
      cases e : h₀.get? C with
      | none => rfl
      | some o' => have e2 := F.keep _ _ e; rw [fresh] at e2; cases e2
    refine turn C oC c u s₃ m₃ E' _ nC hm (F.keeps up3) (fun p hp => ?_) fun t' tk' => ⟨⟨c, u, t', rfl, rfl⟩, s₃.heap, tk', rfl, fun _ _ e => e⟩
    rcases List.mem_cons.mp hp with rfl | hp
    · exact ⟨eC, hCL, hC0⟩
    · exact (N.grown up3) p hp
  · intro D h' tk ys vs hnew hlD hplD hlen hP hF hk
    obtain ⟨n', e⟩ := hplD
    have hD : ∀ b o', s.heap.get? b = some o' → b ≠ D := by
      rintro b o' e' rfl
      rw [Heap.get?_push_of_some _ e'] at hnew; cases hnew
    have F' : Fr h₀ L h' m := F.keeps (up h' hk)
    refine fin D ys.toList n' h' tk F' ?_ (fun p hp => hD _ _ (N p hp).1) ?_
    · intro p hp
      rcases List.mem_cons.mp hp with rfl | hp
      · refine ⟨by rw [Array.toArray_toList]; exact e, ?_, ?_⟩
        · obtain ⟨o', _, _, eL, _⟩ := F.ns
          exact (hD _ _ eL).symm
        · cases e : h₀.get? D with
          | none => rfl
          | some o' => exact absurd rfl (hD _ _ (F.keep _ _ e))
      · exact (N.grown (up h' hk)) p hp
    · have hv : vs.filter (fun _ => true) = vs := List.filter_eq_self.mpr fun _ _ => rfl
      rw [hv] at hF
      have key : ∀ (us : List Value) (rs : List Value) (cs : List Nat), us.length = cs.length → (∀ (j : Nat) (v : Value), us[j]? = some v → ∃ c u, cs[j]? = some c ∧ v = Value.str ⟨#[c]⟩ u) →
          Paired (fun (v : Value) (r : Value) => ∃ (c : Nat) (u t : Tok), v = .str ⟨#[c]⟩ u ∧ r = .int c t) us rs → IntsAre rs (List.map (fun c : Nat => (c : Int)) cs) := by
        intro us rs cs hl hg hp
        induction hp generalizing cs with
        | nil =>
          cases cs with
          | nil => exact .nil
          | cons _ _ => cases hl
        | cons h1 h2 ih =>
          cases cs with
          | nil => cases hl
          | cons c cs =>
            obtain ⟨c1, u1, t1, rfl, rfl⟩ := h1
            obtain ⟨c2, u2, e2, e3⟩ := hg 0 _ rfl
            simp only [List.getElem?_cons_zero, Option.some.injEq] at e2
            subst e2
            have e4 : c1 = c := by
              injection e3 with e5 _
              injection e5 with e6
              simpa using e6
            subst e4
            exact .cons _ _ (ih cs (by simpa using hl) fun (j : Nat) (u : Value) hu => by simpa using hg (j + 1) u (by simpa using hu))
      refine key vs _ _ (by rw [hlen]; simp) (fun j v hv => ?_) hF
      obtain ⟨c, u, hc, rfl⟩ := hP j v hv
      exact ⟨c, u, by simpa using hc, rfl⟩
theorem codes1 {w : World} {pv : Program} {lo : List Str} {mg mb : Str → Option Value} {mean : ExcName → Option Value} {dp un : Nat} {gd : Option (List Code)} {cn : Str} {cs : Scope} {a : Addr} {ccd : Value} {cl : List (Str × Addr)} {outer : List Env} {A₀ : Around} {base h₀ : Heap} {L : Addr} {m : Str → Option Value} {news : List (Addr × Obj)} {s : Shared} {Q E : Value → Shared → Prop}
  {x : Str} {tk : Tok}
  (B : Below A₀ base outer h₀) (F : Fr h₀ L s.heap m) (X : (Mine.hd.heap_39 w.params).In h₀) (N : News h₀ L s.heap news) (T : Top pv lo mean mg mb h₀) (hk : cs.kind = .function)
  (hlen : x.length ≤ 1000) 
  (hdp : dp + 20 < recursionLimit) (hun : un + 300 < cLine)
  (ret : ∀ t h' tk' vs' n', Fr h₀ L h' m → News h₀ L h' ((t, listOf vs'.toArray n') :: news) → (∀ p ∈ news, p.1 ≠ t) → IntsAre vs' (List.map (fun c : Nat => (c : Int)) x.cps.toList) → Q (.ref t) { s with heap := h', toks := tk' }) :
  wpAny (model PR w) (ktrTop dp un gd cn cs L a ccd cl outer) (call (.ref 114) [.str x tk]) Q E s := by
  refine wpAny_call ?_
  refine' code_def B F X N T ?kA ?kF ?kK ?k6 ?k7 ?k8 ?k9 ?kB ?_ ?c2 ?c3 ?c4 ?c5
  (case kA => exact rfl)
  (case kF => exact rfl)
  (case kK => exact hk)
  (case k6 => k_is)
  (case k7 => k_is)
  (case k8 => k_room)
  (case k9 => exact BindsTo.of_eq rfl)
  (case kB => exact locs rfl)
  (case c2 => exact rfl)
  (case c3 => exact rfl)
  (case c4 => exact rfl)
  (case c5 => decide)
  intro g1 L1 h1 FG1 F1 N1 B1 X1 T1
  dsimp only
  (try k_fold)
  clear F B N T X
  replace F1 := frOv F1 [("words", .str x tk)] (by intro p hp; simp only [List.mem_cons, List.not_mem_nil, or_false] at hp; subst hp; rfl)
  dsimp only [kstB] at F1
  walk1
  walk1
  refine compOrd (t := tk) F1 N1 (by rfl) rfl (by decide) rfl (by decide) rfl (fun _ => rfl) (Nat.le_trans hlen (by decide)) ?_ ?_ ?_
  · intro Q' hq
    (repeat' (first | (k_unfold; (try dsimp only)) | ((fail_if_success (with_reducible show wpAny _ _ (PySem.exec (PySem.Stmt.While _ _ _ _) _) _ _ _)); first | walk1 | (dsimp only; walk1) | (dsimp only; k_unfold; (try dsimp only))) | fail "no step"))
    exact hq
  · intro C oC c u s₃ m₂ E' Q' nC hm F3 N3 hq
    (repeat' (first | (k_unfold; (try dsimp only)) | ((fail_if_success (with_reducible show wpAny _ _ (PySem.exec (PySem.Stmt.While _ _ _ _) _) _ _ _)); first | walk1 | (dsimp only; walk1) | (dsimp only; k_unfold; (try dsimp only))) | fail "no step"))
    exact hq _ _
  · intro D ys n' h' tk F3 N3 hne hi
    (repeat' (first | (k_unfold; (try dsimp only)) | ((fail_if_success (with_reducible show wpAny _ _ (PySem.exec (PySem.Stmt.While _ _ _ _) _) _ _ _)); first | walk1 | (dsimp only; walk1) | (dsimp only; k_unfold; (try dsimp only))) | fail "no step"))
    refine leaveK_ F3 N3 ?_
    intro F4 N4
    exact ret _ _ _ _ _ F4 N4 hne hi
end Mine
end

namespace Mine
theorem flushE3 {M : PySem.Model} {A : PySem.Around} {E : PySem.Value → PySem.Shared → Prop} {s : PySem.Shared} {Q : PySem.Flow → PySem.Shared → Prop} {pos : PySem.Pos} {env : PySem.Env} (h : Q .next s) : PySem.wpAny M A (PySem.exec (PySem.Stmt.Pass pos) env) Q E s := by
  walk1
  exact h
end Mine

-- part E3, lemmas
section
open PySem PySem.W PyProof.Rows
set_option maxRecDepth 100000
set_option maxHeartbeats 4000000
namespace Mine
section
variable {prog : Program} {w : World} {A : Around} {E : Value → Shared → Prop} {s : Shared}
theorem fdivN {a b : Nat} {t u : Tok} {Q : Value → Shared → Prop} (hb : 0 < b) (hb1 : b < 10 ^ 30) (h : ∀ t', Q (.int ((a / b : Nat) : Int) t') { s with toks := s.toks + 1 }) :
    wpAny (model prog w) A (binaryOp .FloorDiv (.int (a : Int) t) (.int (b : Int) u)) Q E s :=
  my_fdiv (by omega) (by omega) h
theorem modN {a b : Nat} {t u : Tok} {Q : Value → Shared → Prop} (hb : 0 < b) (h : ∀ t', Q (.int ((a % b : Nat) : Int) t') { s with toks := s.toks + 1 }) :
    wpAny (model prog w) A (binaryOp .Mod (.int (a : Int) t) (.int (b : Int) u)) Q E s :=
  my_mod (by omega) h
noncomputable def lowC (d : Nat) : Nat := if d < 10 then 48 + d else 87 + d
theorem hexAt {x : Str} {d : Nat} {t u : Tok} {value slice : PySem.Expr} {Q : Value → Shared → Prop} (hd : d < 16) (hx : ∀ d, d < 16 → Txt.item x (d : Nat) = ⟨#[lowC d]⟩) (hl : x.length = 16) (h : ∀ t', Q (.str ⟨#[lowC d]⟩ t') { s with toks := s.toks + 1 })
    (hs : subscripted slice false (.str x t) (.int (d : Nat) u) = operate [.str x t, .int (d : Nat) u] (getItem (.str x t) (.int (d : Nat) u)) := by with_unfolding_all rfl)
    (ht : ∀ r, letTemporaryGo value (.str x t) r = pure () := by intro _; with_unfolding_all rfl) :
    wpAny (model prog w) A (subscriptTail value slice (.str x t) (.int (d : Nat) u)) Q E s :=
  item_str (fitsSsize_of (N := 9223372036854775808) (by omega) (by omega) (Int.le_refl _)) (by rw [hl]; omega) (by rw [hl]; omega) (fun _ => by rw [hx d hd]; exact h _) hs ht
end
end Mine
end

-- shared by E3 and E4
section
open PySem PySem.W PyProof.Rows Mine
local macro_rules | `(tactic| walk_at "binaryOp FloorDiv int int") => `(tactic| (k_here; refine fdivN (by first | assumption | omega) (by first | assumption | omega) ?_; intro _; try dsimp only))
local macro_rules | `(tactic| walk_at "binaryOp Mod int int") => `(tactic| (k_here; refine modN (by first | assumption | omega) ?_; intro _; try dsimp only))
local macro_rules | `(tactic| walk_at "subscriptTail Name BinOp str int") => `(tactic| (k_here; refine hexAt (by first | assumption | omega) (by decide) (by decide) ?_ (by with_unfolding_all rfl) (by intro _; with_unfolding_all rfl); intro _; try dsimp only))
local macro_rules | `(tactic| walk_at "binaryOp Add str str") => `(tactic| (k_here; refine P.add_str ?_ (by first | assumption | omega); intro _ _; try dsimp only))

-- part E3
section
open PySem PySem.W PyProof.Rows
set_option maxRecDepth 100000
set_option maxHeartbeats 4000000
namespace Mine
/-- the first j+1 figures of a number below r^(j+1), greatest first -/
noncomputable def dw (r : Nat) : Nat → Nat → List Nat
  | 0, _ => []
  | j + 1, n => (n / r ^ j) :: dw r j (n % r ^ j)
noncomputable def numT (l : List Nat) : Str := ⟨(l.map lowC).toArray⟩
theorem numT_snoc (l : List Nat) (d : Nat) : numT (l ++ [d]) = numT l ++ ⟨#[lowC d]⟩ := by
  refine PySem.Str.ext' (Array.toList_inj.mp ?_)
  rw [PySem.Str.cps_append, Array.toList_append]
  simp [numT]
noncomputable def unitOf (r : Nat) : Nat → Nat
  | 0 => 0
  | j + 1 => r ^ j
theorem unitOf_div {r : Nat} (hr : 2 ≤ r) : ∀ j, r ^ j / r = unitOf r j
  | 0 => by simp only [unitOf, Nat.pow_zero]; exact Nat.div_eq_of_lt (by omega)
  | j + 1 => by simp only [unitOf, Nat.pow_succ]; exact Nat.mul_div_cancel _ (by omega)
theorem pow_le_of {r i j : Nat} (hr : 2 ≤ r) (h : r ^ i ≤ r ^ j) : i ≤ j := (Nat.pow_le_pow_iff_right hr).mp h
theorem nums1 {w : World} {pv : Program} {lo : List Str} {mg mb : Str → Option Value} {mean : ExcName → Option Value} {dp un : Nat} {gd : Option (List Code)} {cn : Str} {cs : Scope} {a : Addr} {ccd : Value} {cl : List (Str × Addr)} {outer : List Env} {A₀ : Around} {base h₀ : Heap} {L : Addr} {m : Str → Option Value} {news : List (Addr × Obj)} {s : Shared} {Q E : Value → Shared → Prop}
  {r n : Nat} {tr tn : Tok}
  (B : Below A₀ base outer h₀) (F : Fr h₀ L s.heap m) (X : (Mine.hd.heap_39 w.params).In h₀) (N : News h₀ L s.heap news) (T : Top pv lo mean mg mb h₀) (hk : cs.kind = .function)
  (hr : r = 8 ∨ r = 10 ∨ r = 16) (hn : n < 10 ^ 17)
  (hdp : dp + 20 < recursionLimit) (hun : un + 300 < cLine)
  (ret : ∀ t h' tk' k, k < 60 → Fr h₀ L h' m → News h₀ L h' news → n < r ^ (k + 1) → (k = 0 ∨ r ^ k ≤ n) → Q (.str (numT (dw r (k + 1) n)) t) { s with heap := h', toks := tk' }) :
  wpAny (model PR w) (ktrTop dp un gd cn cs L a ccd cl outer) (call (.ref 121) [.int (n : Int) tn, .int (r : Int) tr]) Q E s := by
  refine wpAny_call ?_
  refine' code_def B F X N T ?kA ?kF ?kK ?k6 ?k7 ?k8 ?k9 ?kB ?_ ?c2 ?c3 ?c4 ?c5
  (case kA => exact rfl)
  (case kF => exact rfl)
  (case kK => exact hk)
  (case k6 => k_is)
  (case k7 => k_is)
  (case k8 => k_room)
  (case k9 => exact BindsTo.of_eq rfl)
  (case kB => exact locs rfl)
  (case c2 => exact rfl)
  (case c3 => exact rfl)
  (case c4 => exact rfl)
  (case c5 => decide)
  intro g1 L1 h1 FG1 F1 N1 B1 X1 T1
  dsimp only
  (try k_fold)
  clear F B N T X
  replace F1 := frOv F1 [("number", .int (n : Int) tn), ("radix", .int (r : Int) tr)] (by intro p hp; simp only [List.mem_cons, List.not_mem_nil, or_false] at hp; rcases hp with rfl | rfl <;> rfl)
  dsimp only [kstB] at F1
  (repeat' (first | (k_unfold; (try dsimp only)) | ((fail_if_success (with_reducible show wpAny _ _ (PySem.exec (PySem.Stmt.While _ _ _ _) _) _ _ _)); first | walk1 | (dsimp only; walk1) | (dsimp only; k_unfold; (try dsimp only))) | fail "no step"))
  (rename Fr _ _ _ _ => F2); (rename News _ _ _ _ => N2)
  have hr2 : 2 ≤ r := by omega
  refine While_inv2 (fun kk m₁ nx => nx = news ∧ ∃ k tu ts, kk = n + 1 - r ^ k ∧ (k = 0 ∨ r ^ k ≤ n) ∧ m₁ "number" = some (.int (n : Int) tn) ∧ m₁ "radix" = some (.int (r : Int) tr) ∧ m₁ "found" = some (.str ⟨#[]⟩ ts) ∧ m₁ "unit" = some (.int ((r ^ k : Nat) : Int) tu)) F2 (newsTl N2)
    ⟨rfl, 0, _, _, rfl, Or.inl rfl, rfl, rfl, rfl, rfl⟩ ?_
  intro kk m₁ nx h₁ tk₁ F3 N3 hJ
  refine Classical.byContradiction fun hng => ?_
  obtain ⟨rfl, k, tu, ts, rfl, hk0, e1, e2, e3, e4⟩ := hJ
  refine hng ?_
  clear hng
  replace F3 := frOv F3 [("number", .int (n : Int) tn), ("radix", .int (r : Int) tr), ("found", .str ⟨#[]⟩ ts), ("unit", .int ((r ^ k : Nat) : Int) tu)] (by simp [e1, e2, e3, e4])
  dsimp only [kstB] at F3
  clear F2 N2 e1 e2 e3 e4
  with_reducible show wpAny _ _ _ _ _ _
  k_fold
  have hup : 0 < r ^ k := Nat.pow_pos (by omega)
  have hsu : ((r ^ k : Nat) : Int) * (r : Int) = ((r ^ (k + 1) : Nat) : Int) := by rw [Nat.pow_succ]; push_cast; rfl
  generalize hu : r ^ k = u at *
  generalize hv : r ^ (k + 1) = v at *
  have hlt : u < v := by rw [← hu, ← hv]; exact Nat.pow_lt_pow_right (by omega) (Nat.lt_succ_self _)
  by_cases hgo : v ≤ n
  · (repeat' (first | (k_unfold; (try dsimp only)) | ((fail_if_success (with_reducible show wpAny _ _ (PySem.exec (PySem.Stmt.While _ _ _ _) _) _ _ _)); first | walk1 | (dsimp only; walk1) | (dsimp only; k_unfold; (try dsimp only))) | fail "no step"))
    (rename Fr _ _ _ _ => F4); (rename News _ _ _ _ => N4)
    exact ⟨_, _, _, _, n + 1 - v, rfl, F4, N4, by omega, rfl, k + 1, _, _, by rw [hv], Or.inr (by rw [hv]; exact hgo), rfl, rfl, rfl, by rw [hv, ← hsu]; rfl⟩
  · have hu1 : u ≤ n + 1 := by
      rcases hk0 with h0 | h0
      · subst h0; rw [← hu, Nat.pow_zero]; omega
      · omega
    have hk60 : k < 60 := by
      refine (Nat.pow_lt_pow_iff_right (a := 2) (by omega)).mp (Nat.lt_of_le_of_lt (Nat.pow_le_pow_left hr2 k) ?_)
      rw [hu]
      omega
    (repeat' (first | (k_unfold; (try dsimp only)) | ((fail_if_success (with_reducible show wpAny _ _ (PySem.exec (PySem.Stmt.While _ _ _ _) _) _ _ _)); first | walk1 | (dsimp only; walk1) | (dsimp only; k_unfold; (try dsimp only))) | fail "no step"))
    refine While_inv2 (fun kk m₁ nx' => nx' = nx ∧ ∃ fnd num t1 t2 t3, fnd.length + kk = k + 1 ∧ num < r ^ kk ∧ fnd ++ dw r kk num = dw r (k + 1) n ∧ m₁ "number" = some (.int ((num : Nat) : Int) t1) ∧ m₁ "radix" = some (.int (r : Int) tr) ∧ m₁ "found" = some (.str (numT fnd) t2) ∧ m₁ "unit" = some (.int ((unitOf r kk : Nat) : Int) t3)) F3 N3
      (n₀ := k + 1) ⟨rfl, [], n, _, _, _, Nat.zero_add _, by rw [hv]; omega, rfl, rfl, rfl, rfl, by simp only [unitOf, hu]; rfl⟩ ?_
    intro kk m₂ nx' h₂ tk₂ F5 N5 hJ
    refine Classical.byContradiction fun hng => ?_
    obtain ⟨rfl, fnd, num, t1, t2, t3, hkk, hnum, hrest, e1, e2, e3, e4⟩ := hJ
    refine hng ?_
    clear hng
    replace F5 := frOv F5 [("number", .int ((num : Nat) : Int) t1), ("radix", .int (r : Int) tr), ("found", .str (numT fnd) t2), ("unit", .int ((unitOf r kk : Nat) : Int) t3)] (by simp [e1, e2, e3, e4])
    dsimp only [kstB] at F5
    clear F3 N3 e1 e2 e3 e4
    with_reducible show wpAny _ _ _ _ _ _
    k_fold
    cases kk with
    | zero =>
      simp only [unitOf] at F5
      (repeat' (first | (k_unfold; (try dsimp only)) | ((fail_if_success (with_reducible show wpAny _ _ (PySem.exec (PySem.Stmt.While _ _ _ _) _) _ _ _)); first | walk1 | (dsimp only; walk1) | (dsimp only; k_unfold; (try dsimp only))) | fail "no step"))
      (rename Fr _ _ _ _ => F3); (rename News _ _ _ _ => N3)
      refine leaveK_ F3 N3 ?_
      intro F4 N4
      simp only [dw, List.append_nil] at hrest
      rw [hrest]
      exact ret _ _ _ k hk60 F4 N4 (by rw [hv]; omega) (by rw [hu]; exact hk0)
    | succ j =>
      simp only [unitOf] at F5
      have hqp : 0 < r ^ j := Nat.pow_pos (by omega)
      have hqr : r ^ j ≤ r ^ k := Nat.pow_le_pow_right (by omega) (by omega)
      have hud : unitOf r j = r ^ j / r := (unitOf_div hr2 j).symm
      have hsz : (numT fnd).length + (Str.mk #[lowC (num / r ^ j)]).length ≤ sizeLine := by
        have e1 : (numT fnd).length = fnd.length := by simp [numT, Str.length]
        have e2 : (Str.mk #[lowC (num / r ^ j)]).length = 1 := rfl
        rw [e1, e2, sizeLine_eq]
        omega
      have hq30 : r ^ j < 10 ^ 30 := by omega
      have hr30 : r < 10 ^ 30 := by omega
      have hr0 : 0 < r := by omega
      have hd0 : num / r ^ j < r := by rw [Nat.div_lt_iff_lt_mul hqp]; rw [Nat.mul_comm, ← Nat.pow_succ]; exact hnum
      have hd : num / r ^ j < 16 := by omega
      generalize hq : r ^ j = q at *
      (repeat' (first | (k_unfold; (try dsimp only)) | ((fail_if_success (with_reducible show wpAny _ _ (PySem.exec (PySem.Stmt.While _ _ _ _) _) _ _ _)); first | walk1 | (dsimp only; walk1) | (dsimp only; k_unfold; (try dsimp only))) | fail "no step"))
      (rename Fr _ _ _ _ => F3); (rename News _ _ _ _ => N3)
      exact ⟨_, _, _, _, j, rfl, F3, newsTl N3, by omega, rfl, fnd ++ [num / q], num % q, _, _, _, by rw [List.length_append, List.length_singleton]; omega, by rw [hq]; exact Nat.mod_lt _ hqp, by rw [← hrest]; simp only [dw, hq, List.append_assoc, List.cons_append, List.nil_append], rfl, rfl, by rw [numT_snoc]; rfl, by rw [hud]; rfl⟩
end Mine
end

namespace Mine
theorem flushP1 {M : PySem.Model} {A : PySem.Around} {E : PySem.Value → PySem.Shared → Prop} {s : PySem.Shared} {Q : PySem.Flow → PySem.Shared → Prop} {pos : PySem.Pos} {env : PySem.Env} (h : Q .next s) : PySem.wpAny M A (PySem.exec (PySem.Stmt.Pass pos) env) Q E s := by
  walk1
  exact h
end Mine

-- part P1
section
set_option maxRecDepth 100000
namespace Mine
/-- the figures of a number, least first -/
noncomputable def le (r n : Nat) : List Nat := if h : 2 ≤ r ∧ r ≤ n then n % r :: le r (n / r) else [n % r]
termination_by n
decreasing_by exact Nat.div_lt_self (by omega) (by omega)
theorem le_big {r n : Nat} (hr : 2 ≤ r) (h : r ≤ n) : le r n = n % r :: le r (n / r) := by
  rw [le, dif_pos ⟨hr, h⟩]
theorem le_small {r n : Nat} (h : n < r) : le r n = [n] := by
  rw [le, dif_neg (by omega), Nat.mod_eq_of_lt h]
theorem le_len {r : Nat} (hr : 2 ≤ r) : ∀ (k n : Nat), n < 2 ^ (k + 1) → (le r n).length ≤ k + 1
  | 0, n, h => by
    rw [le_small (by omega)]
    simp
  | k + 1, n, h => by
    by_cases hn : r ≤ n
    · rw [le_big hr hn]
      have := le_len hr k (n / r) (by
        rw [Nat.div_lt_iff_lt_mul (by omega)]
        have h2 : 2 ^ (k + 1 + 1) = 2 ^ (k + 1) * 2 := Nat.pow_succ 2 (k + 1)
        have h3 : 2 ^ (k + 1) * 2 ≤ 2 ^ (k + 1) * r := Nat.mul_le_mul_left _ hr
        omega)
      simp only [List.length_cons]
      omega
    · rw [le_small (by omega)]
      simp
theorem dw_snoc {r : Nat} (hr : 0 < r) : ∀ (j n : Nat), n < r ^ (j + 1) → dw r (j + 1) n = dw r j (n / r) ++ [n % r]
  | 0, n, h => by
    rw [Nat.mod_eq_of_lt (by simpa using h)]
    simp [dw]
  | j + 1, n, h => by
    have e1 : r ^ (j + 1) = r * r ^ j := by rw [Nat.pow_succ, Nat.mul_comm]
    have ih := dw_snoc hr j (n % r ^ (j + 1)) (Nat.mod_lt _ (Nat.pow_pos hr))
    rw [dw, ih, dw, e1, Nat.mod_mul_right_div_self, Nat.mod_mul_right_mod, Nat.div_div_eq_div_mul]
    simp
theorem dw_le {r : Nat} (hr : 2 ≤ r) : ∀ (k n : Nat), n < r ^ (k + 1) → (k = 0 ∨ r ^ k ≤ n) → dw r (k + 1) n = (le r n).reverse
  | 0, n, h, _ => by
    rw [le_small (by simpa using h)]
    simp [dw]
  | k + 1, n, h, h2 => by
    have h2 : r ^ (k + 1) ≤ n := h2.resolve_left (by omega)
    have hp : 0 < r ^ k := Nat.pow_pos (by omega)
    have hrn : r ≤ n := Nat.le_trans (by rw [Nat.pow_succ]; exact Nat.le_mul_of_pos_left r hp) h2
    have e : dw r (k + 1 + 1) n = dw r (k + 1) (n / r) ++ [n % r] := dw_snoc (by omega) (k + 1) n h
    rw [e, dw_le hr k (n / r) (by rw [Nat.div_lt_iff_lt_mul (by omega), ← Nat.pow_succ]; exact h) (Or.inr (by rw [Nat.le_div_iff_mul_le (by omega), ← Nat.pow_succ]; exact h2)), le_big hr hrn, List.reverse_cons]
/-- what is still to be said of a number, figures said being there -/
noncomputable def restF (r V : Nat) (F : List Nat) : List Nat := if V = 0 ∧ F ≠ [] then [] else le r V
theorem restF_nil (r V : Nat) : restF r V [] = le r V := by simp [restF]
theorem restF_done {r : Nat} {F : List Nat} (h : F ≠ []) : restF r 0 F = [] := by simp [restF, h]
theorem restF_turn {r V : Nat} {F : List Nat} (hr : 2 ≤ r) (h : ¬ (V = 0 ∧ F ≠ [])) : F ++ restF r V F = (F ++ [V % r]) ++ restF r (V / r) (F ++ [V % r]) := by
  have e : restF r V F = le r V := by simp only [restF, if_neg h]
  rw [e]
  by_cases hV : r ≤ V
  · have h0 : 0 < V / r := Nat.div_pos hV (by omega)
    rw [le_big hr hV, restF, if_neg (by omega)]
    simp
  · have h0 : V / r = 0 := Nat.div_eq_of_lt (by omega)
    rw [le_small (by omega), h0, restF_done (by simp), Nat.mod_eq_of_lt (by omega)]
    simp
end Mine
end

namespace Mine
theorem flushE4 {M : PySem.Model} {A : PySem.Around} {E : PySem.Value → PySem.Shared → Prop} {s : PySem.Shared} {Q : PySem.Flow → PySem.Shared → Prop} {pos : PySem.Pos} {env : PySem.Env} (h : Q .next s) : PySem.wpAny M A (PySem.exec (PySem.Stmt.Pass pos) env) Q E s := by
  walk1
  exact h
end Mine

-- part E4
section
open PySem PySem.W PyProof.Rows
set_option maxRecDepth 100000
set_option maxHeartbeats 4000000
namespace Mine
section
variable {prog : Program} {w : World} {A : Around} {E : Value → Shared → Prop} {s : Shared} {h₀ : Heap} {L : Addr} {m : Str → Option Value}
theorem newsLt {h : Heap} : ∀ {news : List (Addr × Obj)}, News h₀ L h news → AllLt h.objs.size news
  | [], _ => True.intro
  | p :: r, N => ⟨Heap.lt_size (N p (.head _)).1, newsLt (newsTl N)⟩
theorem divmodN {a b : Nat} {t u : Tok} {news : List (Addr × Obj)} {Q : Value → Shared → Prop} (F : Fr h₀ L s.heap m) (N : News h₀ L s.heap news) (hb : 0 < b) (hb1 : b < 10 ^ 30)
    (h : ∀ D h' t' u' tk', Fr h₀ L h' m → News h₀ L h' ((D, tupleOf [.int ((a / b : Nat) : Int) t', .int ((a % b : Nat) : Int) u']) :: news) → AllLt D news → Q (.ref D) { s with heap := h', toks := tk' }) :
    wpAny (model prog w) A (call (.builtin "divmod") [.int (a : Int) t, .int (b : Int) u]) Q E s := by
  refine divmod_N F N (by omega) (fun h' F' N' => ?_) (Or.inl (my_nopy (by omega) (by omega)))
  rw [Int.fdiv_eq_ediv_of_nonneg _ (by omega), Int.fmod_eq_emod_of_nonneg _ (by omega)] at N'
  exact h _ _ _ _ _ F' N' (newsLt N)
theorem my_rev {l : Addr} {news : List (Addr × Obj)} {value slice : PySem.Expr} {vs : List Value} {ns : List Int} {n : Nat} {t : Tok} {ops : List Value} {Q : Value → Shared → Prop} (F : Fr h₀ L s.heap m) (N : News h₀ L s.heap news) (hm : (l, listOf vs.toArray n) ∈ news) (hi : IntsAre vs ns) (hlen : ns.length ≤ 1000)
    (h : ∀ D ws h', Fr h₀ L h' m → News h₀ L h' ((D, listOf (List.toArray ws) 0) :: news) → (∀ p ∈ news, p.1 < D) → IntsAre ws ns.reverse → Q (.ref D) { s with heap := h' })
    (hs : subscripted slice false (.ref l) (.ref s.heap.objs.size) = operate ops (getItem (.ref l) (.ref s.heap.objs.size))) (ht : ∀ r, letTemporaryGo value (.ref l) r = pure ()) :
    wpAny (model prog w) A (subscriptTail value slice (.ref l) (.ref s.heap.objs.size)) Q E { s with heap := s.heap.push { cls := .type "slice", data := .fields #[.none, .none, .int (-1) t] } } :=
  krv_ints F N (PySem.IsL.isList (n := n) (N _ hm).1) (IsPart.int _ _) hi (fun D ws h' F' N' l1 hr _ => h D ws h' F' N' l1 hr) hs ht (by rw [List.size_toArray, hi.length, sizeLine_eq]; omega)
end
theorem viaI {M : Model} {A : Around} {c : Sem Value} {E : Value → Shared → Prop} {s : Shared} {Q : Value → Shared → Prop} (x : Int) (h1 : ∀ Q' : Value → Shared → Prop, (∀ t tk', Q' (.int x t) { s with toks := tk' }) → wpAny M A c Q' E s) (h2 : ∀ t tk', Q (.int x t) { s with toks := tk' }) : wpAny M A c Q E s := h1 Q h2
theorem viaB {M : Model} {A : Around} {c : Sem Bool} {E : Value → Shared → Prop} {s : Shared} {Q : Bool → Shared → Prop} (P : (Shared → Prop) → Prop) (h1 : ∀ (R : Shared → Prop) (R2 : Bool → Shared → Prop), P R → wpAny M A c (fun b s' => match b with | true => R s' | b => R2 b s') E s) (h2 : P (fun s' => Q true s')) : wpAny M A c Q E s :=
  wpAny_mono (h1 _ Q h2) (fun b s' h => by cases b <;> exact h) fun _ _ z => z
theorem viaN {M : Model} {A : Around} {c : Sem Flow} {E : Value → Shared → Prop} {s : Shared} {Q : Flow → Shared → Prop} (P : (Shared → Prop) → Prop) (h1 : ∀ (R : Shared → Prop) (R2 : Flow → Shared → Prop), P R → wpAny M A c (fun f s' => match f with | .next => R s' | f => R2 f s') E s) (h2 : P (fun s' => Q .next s')) : wpAny M A c Q E s :=
  wpAny_mono (h1 _ Q h2) (fun f s' h => by cases f <;> exact h) fun _ _ z => z
local macro_rules | `(tactic| walk_at "ite") => `(tactic| (k_here; first
  | (refine PySem.W.ite_pos ?hc ?_; (case hc => (first | ((try simp only [decide_eq_true_eq, beq_iff_eq]); omega) | (simp; done))))
  | (refine PySem.W.ite_neg ?hc ?_; (case hc => (first | ((try simp only [decide_eq_true_eq, beq_iff_eq]); omega) | (simp; done))))))
local macro_rules | `(tactic| walk_at "call builtin:divmod") => `(tactic| (k_here; (with_reducible show wpAny _ _ (call (Value.builtin _) [Value.int _ _, Value.int _ _]) _ _ _); k_dflt (refine' divmodN ?F ?N ?b ?c ?_; (case F => k_asm); (case N => k_asm); (case b => first | assumption | omega); (case c => first | assumption | omega); k_whole); intro _ _ _ _ _ _ _ _; (try k_sweep); (try dsimp only)))

theorem subNx {α : Type} {q : α} {a b : List α} : ∀ p ∈ q :: a, p ∈ q :: (a ++ b) := fun _ hp => (List.mem_cons.mp hp).elim (fun h => h ▸ .head _) fun h => .tail _ (List.mem_append_left _ h)
theorem subOwn {α : Type} {q : α} {a b : List α} : ∀ p ∈ b, p ∈ q :: (a ++ b) := fun _ hp => .tail _ (List.mem_append_right _ hp)
theorem intsSnoc {c : Int} {t : Tok} : ∀ {vs : List Value} {ns : List Int}, IntsAre vs ns → IntsAre (vs ++ [.int c t]) (ns ++ [c])
  | _, _, .nil => .cons _ _ .nil
  | _, _, .cons x u r => .cons x u (intsSnoc r)
noncomputable def codeF (up : Bool) (d : Nat) : Int := if d < 10 then 48 + d else (if up then 55 else 87) + d
theorem figs1 {w : World} {pv : Program} {lo : List Str} {mg mb : Str → Option Value} {mean : ExcName → Option Value} {dp un : Nat} {gd : Option (List Code)} {cn : Str} {cs : Scope} {a : Addr} {ccd : Value} {cl : List (Str × Addr)} {outer : List Env} {A₀ : Around} {base h₀ : Heap} {L : Addr} {m : Str → Option Value} {news : List (Addr × Obj)} {s : Shared} {Q E : Value → Shared → Prop}
  {r n : Nat} {letter : Str} {tl tn : Tok}
  (B : Below A₀ base outer h₀) (F : Fr h₀ L s.heap m) (X : (Mine.hd.heap_39 w.params).In h₀) (N : News h₀ L s.heap news) (T : Top pv lo mean mg mb h₀) (hk : cs.kind = .function)
  (hl : letter = "d" ∧ r = 10 ∨ letter = "o" ∧ r = 8 ∨ letter = "x" ∧ r = 16 ∨ letter = "X" ∧ r = 16) (hn : n < 10 ^ 17)
  (hdp : dp + 20 < recursionLimit) (hun : un + 300 < cLine)
  (ret : ∀ t h' tk' vs' n', Fr h₀ L h' m → News h₀ L h' ((t, listOf vs'.toArray n') :: news) → (∀ p ∈ news, p.1 < t) → IntsAre vs' ((le r n).map (codeF (decide (letter = "X")))).reverse → Q (.ref t) { s with heap := h', toks := tk' }) :
  wpAny (model PR w) (ktrTop dp un gd cn cs L a ccd cl outer) (call (.ref 90) [.int (n : Int) tn, .str letter tl]) Q E s := by
  refine wpAny_call ?_
  refine' code_def B F X N T ?kA ?kF ?kK ?k6 ?k7 ?k8 ?k9 ?kB ?_ ?c2 ?c3 ?c4 ?c5
  (case kA => exact rfl)
  (case kF => exact rfl)
  (case kK => exact hk)
  (case k6 => k_is)
  (case k7 => k_is)
  (case k8 => k_room)
  (case k9 => exact BindsTo.of_eq rfl)
  (case kB => exact locs rfl)
  (case c2 => exact rfl)
  (case c3 => exact rfl)
  (case c4 => exact rfl)
  (case c5 => decide)
  intro g1 L1 h1 FG1 F1 N1 B1 X1 T1
  dsimp only
  (try k_fold)
  clear F B N T X
  obtain ⟨m0, F1'⟩ : ∃ m0 : Str → Option Value, Fr g1 L1 h1 (kstB m0 [("number", .int (n : Int) tn), ("letter", .str letter tl)]) := ⟨_, frOv F1 [("number", .int (n : Int) tn), ("letter", .str letter tl)] (by intro p hp; simp only [List.mem_cons, List.not_mem_nil, or_false] at hp; rcases hp with rfl | rfl <;> rfl)⟩
  clear F1
  (rename Fr g1 L1 h1 _ => F1)
  dsimp only [kstB] at F1
  generalize s.toks + (List.length _) = tk0
  refine wpAny_execs_cons ?_
  with_reducible refine viaN (fun Q' => ∀ h' tk' m' t, Fr g1 L1 h' m' → m' "number" = some (.int (n : Int) tn) → m' "letter" = some (.str letter tl) → m' "radix" = some (.int ((r : Nat) : Int) t) → News g1 L1 h' news → Q' { s with heap := h', toks := tk' }) (fun Q' Q2 hq => ?st1) ?af1
  case st1 =>
    with_reducible show wpAny _ _ _ _ _ _
    k_fold
    (repeat' (first | (k_unfold; (try dsimp only)) | ((fail_if_success (with_reducible show wpAny _ _ (PySem.exec (PySem.Stmt.While _ _ _ _) _) _ _ _)); (fail_if_success (with_reducible show wpAny _ _ (PySem.exec (PySem.Stmt.For _ _ _ _ _) _) _ _ _)); (fail_if_success (with_reducible show wpAny _ _ (PySem.pyIter (Value.ref _)) _ _ _)); (fail_if_success (with_reducible show wpAny _ _ (PySem.eval (PySem.Expr.IfExp _ _ _ _) _) _ _ _)); (fail_if_success (with_reducible show wpAny _ _ (PySem.call (Value.builtin "list.append") _ _) _ _ _)); (fail_if_success (with_reducible show wpAny _ _ (subscriptTail _ _ (Value.ref _) _) _ _ _)); first | (walk1 <;> (try dsimp only)) | (dsimp only; walk1) | (dsimp only; k_unfold; (try dsimp only))) | fail "no step"))
    rcases hl with ⟨rfl, rfl⟩ | ⟨rfl, rfl⟩ | ⟨rfl, rfl⟩ | ⟨rfl, rfl⟩
    all_goals (
      walk1
      (repeat' (first | (k_unfold; (try dsimp only)) | ((fail_if_success (with_reducible show wpAny _ _ (PySem.exec (PySem.Stmt.While _ _ _ _) _) _ _ _)); (fail_if_success (with_reducible show wpAny _ _ (PySem.exec (PySem.Stmt.For _ _ _ _ _) _) _ _ _)); (fail_if_success (with_reducible show wpAny _ _ (PySem.pyIter (Value.ref _)) _ _ _)); (fail_if_success (with_reducible show wpAny _ _ (PySem.eval (PySem.Expr.IfExp _ _ _ _) _) _ _ _)); (fail_if_success (with_reducible show wpAny _ _ (PySem.call (Value.builtin "list.append") _ _) _ _ _)); (fail_if_success (with_reducible show wpAny _ _ (subscriptTail _ _ (Value.ref _) _) _ _ _)); first | (walk1 <;> (try dsimp only)) | (dsimp only; walk1) | (dsimp only; k_unfold; (try dsimp only))) | fail "no step"))
      (rename Fr _ _ _ _ => F3); (rename News _ _ _ _ => N3)
      exact hq _ _ _ _ F3 rfl rfl rfl (newsTl N3))
  intro h2 tk2 m2 t2 F2 e1 e2 e3 N2
  replace F2 := frOv F2 [("number", .int (n : Int) tn), ("letter", .str letter tl), ("radix", .int ((r : Nat) : Int) t2)] (by simp [e1, e2, e3])
  dsimp only [kstB] at F2
  clear F1 N1 e1 e2 e3
  (try dsimp only)
  refine wpAny_execs_cons ?_
  with_reducible refine viaN (fun Q' => ∀ h' tk' m' t t2 l n', Fr g1 L1 h' m' → m' "number" = some (.int (n : Int) tn) → m' "letter" = some (.str letter tl) → m' "radix" = some (.int ((r : Nat) : Int) t) → m' "chunk" = some (.int ((r ^ 8 : Nat) : Int) t2) → m' "found" = some (.ref l) → News g1 L1 h' ((l, listOf #[] n') :: news) → (∀ p ∈ news, p.1 < l) → Q' { s with heap := h', toks := tk' }) (fun Q' Q2 hq => ?st2) ?af2
  case st2 =>
    with_reducible show wpAny _ _ _ _ _ _
    k_fold
    rcases hl with ⟨rfl, rfl⟩ | ⟨rfl, rfl⟩ | ⟨rfl, rfl⟩ | ⟨rfl, rfl⟩
    all_goals (
      (repeat' (first | (k_unfold; (try dsimp only)) | ((fail_if_success (with_reducible show wpAny _ _ (PySem.exec (PySem.Stmt.While _ _ _ _) _) _ _ _)); (fail_if_success (with_reducible show wpAny _ _ (PySem.exec (PySem.Stmt.For _ _ _ _ _) _) _ _ _)); (fail_if_success (with_reducible show wpAny _ _ (PySem.pyIter (Value.ref _)) _ _ _)); (fail_if_success (with_reducible show wpAny _ _ (PySem.eval (PySem.Expr.IfExp _ _ _ _) _) _ _ _)); (fail_if_success (with_reducible show wpAny _ _ (PySem.call (Value.builtin "list.append") _ _) _ _ _)); (fail_if_success (with_reducible show wpAny _ _ (subscriptTail _ _ (Value.ref _) _) _ _ _)); first | (walk1 <;> (try dsimp only)) | (dsimp only; walk1) | (dsimp only; k_unfold; (try dsimp only))) | fail "no step"))
      (rename Fr _ _ _ _ => F3); (rename News _ _ _ _ => N3)
      exact hq _ _ _ _ _ _ _ F3 rfl rfl rfl rfl rfl (newsTl N3) (by assumption))
  intro h3 tk3 m3 t3 t4 l n3 F3 e1 e2 e3 e4 e5 N3 hl3
  (try dsimp only)
  clear F2 N2
  refine wpAny_execs_cons ?_
  refine While_inv2 (fun kk m₁ nx => ∃ V Fg vs n' tv, nx = (l, listOf vs.toArray n') :: news ∧ kk = 2 * V + (if Fg = [] then 1 else 0) ∧ IntsAre vs (Fg.map (codeF (decide (letter = "X")))) ∧ Fg ++ restF r V Fg = le r n ∧ V ≤ n ∧ m₁ "number" = some (.int ((V : Nat) : Int) tv) ∧ m₁ "letter" = some (.str letter tl) ∧ m₁ "radix" = some (.int ((r : Nat) : Int) t3) ∧ m₁ "chunk" = some (.int ((r ^ 8 : Nat) : Int) t4) ∧ m₁ "found" = some (.ref l)) F3 N3
    ⟨n, [], [], n3, tn, rfl, rfl, .nil, by rw [restF_nil]; rfl, Nat.le_refl _, e1, e2, e3, e4, e5⟩ ?_
  intro kk m₄ nx h₄ tk₄ F4 N4 hJ
  refine Classical.byContradiction fun hng => ?_
  obtain ⟨V, Fg, vs, n', tv, rfl, rfl, hi, hrest, hVn, e1, e2, e3, e4, e5⟩ := hJ
  refine hng ?_
  clear hng
  replace F4 := frOv F4 [("number", .int ((V : Nat) : Int) tv), ("letter", .str letter tl), ("radix", .int ((r : Nat) : Int) t3), ("chunk", .int ((r ^ 8 : Nat) : Int) t4), ("found", .ref l)] (by simp [e1, e2, e3, e4, e5])
  dsimp only [kstB] at F4
  clear F3 N3 e1 e2 e3 e4 e5
  with_reducible show wpAny _ _ _ _ _ _
  k_fold
  have hr2 : 2 ≤ r := by omega
  obtain ⟨hr81, hr80, hr82⟩ : r ^ 8 < 10 ^ 30 ∧ 0 < r ^ 8 ∧ 1 < r ^ 8 := by rcases hl with ⟨_, rfl⟩ | ⟨_, rfl⟩ | ⟨_, rfl⟩ | ⟨_, rfl⟩ <;> decide
  have hlF : Fg.length ≤ 57 := by
    have e1 := congrArg List.length hrest
    rw [List.length_append] at e1
    have e2 := le_len hr2 56 n (by omega)
    omega
  by_cases hgo : V = 0 ∧ Fg ≠ []
  · obtain ⟨rfl, hne⟩ := hgo
    rw [restF_done hne, List.append_nil] at hrest
    cases Fg with
    | nil => exact absurd rfl hne
    | cons f0 Fr0 =>
      rw [← hrest] at ret
      have hl1000 : (List.map (codeF (decide (letter = "X"))) (f0 :: Fr0)).length ≤ 1000 := by rw [List.length_map]; omega
      rw [List.map_cons] at hi ret hl1000
      generalize hc0 : codeF (decide (letter = "X")) f0 = c0 at *
      generalize hcs : List.map (codeF (decide (letter = "X"))) Fr0 = cs0 at *
      (repeat' (first | (k_unfold; (try dsimp only)) | ((fail_if_success (with_reducible show wpAny _ _ (PySem.exec (PySem.Stmt.While _ _ _ _) _) _ _ _)); (fail_if_success (with_reducible show wpAny _ _ (PySem.exec (PySem.Stmt.For _ _ _ _ _) _) _ _ _)); (fail_if_success (with_reducible show wpAny _ _ (PySem.pyIter (Value.ref _)) _ _ _)); (fail_if_success (with_reducible show wpAny _ _ (PySem.eval (PySem.Expr.IfExp _ _ _ _) _) _ _ _)); (fail_if_success (with_reducible show wpAny _ _ (PySem.call (Value.builtin "list.append") _ _) _ _ _)); (fail_if_success (with_reducible show wpAny _ _ (subscriptTail _ _ (Value.ref _) _) _ _ _)); first | (walk1 <;> (try dsimp only)) | (dsimp only; walk1) | (dsimp only; k_unfold; (try dsimp only))) | fail "no step"))
      refine' my_rev (s := ⟨_, _, _, _, _⟩) ?F ?N ?l ?i ?z ?_ ?s ?t
      (case F => k_asm)
      (case N => k_asm)
      (case l => k_mem)
      (case i => assumption)
      (case z => assumption)
      (case s => with_unfolding_all rfl)
      (case t => kmk_pure)
      intro D ws h' F' N' l1 hI
      (repeat' (first | (k_unfold; (try dsimp only)) | ((fail_if_success (with_reducible show wpAny _ _ (PySem.exec (PySem.Stmt.While _ _ _ _) _) _ _ _)); (fail_if_success (with_reducible show wpAny _ _ (PySem.exec (PySem.Stmt.For _ _ _ _ _) _) _ _ _)); (fail_if_success (with_reducible show wpAny _ _ (PySem.pyIter (Value.ref _)) _ _ _)); (fail_if_success (with_reducible show wpAny _ _ (PySem.eval (PySem.Expr.IfExp _ _ _ _) _) _ _ _)); (fail_if_success (with_reducible show wpAny _ _ (PySem.call (Value.builtin "list.append") _ _) _ _ _)); (fail_if_success (with_reducible show wpAny _ _ (subscriptTail _ _ (Value.ref _) _) _ _ _)); first | (walk1 <;> (try dsimp only)) | (dsimp only; walk1) | (dsimp only; k_unfold; (try dsimp only))) | fail "no step"))
      refine leaveK_ F' N' ?_
      intro F5 N5
      exact ret _ _ _ _ _ F5 (newsBeh (newsBeh N5)) (fun p hp => l1 p (.tail _ (.tail _ hp))) hI
  · have hgo2 : 0 < V ∨ (V = 0 ∧ Fg = []) := by
      by_cases h0 : V = 0
      · exact Or.inr ⟨h0, Classical.byContradiction fun h1 => hgo ⟨h0, h1⟩⟩
      · exact Or.inl (by omega)
    with_reducible refine viaB (fun R => ∀ h' tk' m', Fr g1 L1 h' m' → m' "number" = some (.int ((V : Nat) : Int) tv) → m' "letter" = some (.str letter tl) → m' "radix" = some (.int ((r : Nat) : Int) t3) → m' "chunk" = some (.int ((r ^ 8 : Nat) : Int) t4) → m' "found" = some (.ref l) → News g1 L1 h' ((l, listOf vs.toArray n') :: news) → R { s with heap := h', toks := tk' }) (fun R R2 hq => ?cond) ?afc
    case cond =>
      rcases hgo2 with hV | ⟨rfl, rfl⟩
      · (repeat' (first | (k_unfold; (try dsimp only)) | ((fail_if_success (with_reducible show wpAny _ _ (PySem.exec (PySem.Stmt.While _ _ _ _) _) _ _ _)); (fail_if_success (with_reducible show wpAny _ _ (PySem.exec (PySem.Stmt.For _ _ _ _ _) _) _ _ _)); (fail_if_success (with_reducible show wpAny _ _ (PySem.pyIter (Value.ref _)) _ _ _)); (fail_if_success (with_reducible show wpAny _ _ (PySem.eval (PySem.Expr.IfExp _ _ _ _) _) _ _ _)); (fail_if_success (with_reducible show wpAny _ _ (PySem.call (Value.builtin "list.append") _ _) _ _ _)); (fail_if_success (with_reducible show wpAny _ _ (subscriptTail _ _ (Value.ref _) _) _ _ _)); first | (walk1 <;> (try dsimp only)) | (dsimp only; walk1) | (dsimp only; k_unfold; (try dsimp only))) | fail "no step"))
        (rename Fr _ _ _ _ => F5); (rename News _ _ _ _ => N5)
        exact hq _ _ _ F5 rfl rfl rfl rfl rfl N5
      · cases hi
        have hi := IntsAre.nil
        (repeat' (first | (k_unfold; (try dsimp only)) | ((fail_if_success (with_reducible show wpAny _ _ (PySem.exec (PySem.Stmt.While _ _ _ _) _) _ _ _)); (fail_if_success (with_reducible show wpAny _ _ (PySem.exec (PySem.Stmt.For _ _ _ _ _) _) _ _ _)); (fail_if_success (with_reducible show wpAny _ _ (PySem.pyIter (Value.ref _)) _ _ _)); (fail_if_success (with_reducible show wpAny _ _ (PySem.eval (PySem.Expr.IfExp _ _ _ _) _) _ _ _)); (fail_if_success (with_reducible show wpAny _ _ (PySem.call (Value.builtin "list.append") _ _) _ _ _)); (fail_if_success (with_reducible show wpAny _ _ (subscriptTail _ _ (Value.ref _) _) _ _ _)); first | (walk1 <;> (try dsimp only)) | (dsimp only; walk1) | (dsimp only; k_unfold; (try dsimp only))) | fail "no step"))
        (rename Fr _ _ _ _ => F5); (rename News _ _ _ _ => N5)
        exact hq _ _ _ F5 rfl rfl rfl rfl rfl (newsTl N5)
    clear F4 N4
    intro h45 tk45 m45 F4 e1 e2 e3 e4 e5 N4
    replace F4 := frOv F4 [("number", .int ((V : Nat) : Int) tv), ("letter", .str letter tl), ("radix", .int ((r : Nat) : Int) t3), ("chunk", .int ((r ^ 8 : Nat) : Int) t4), ("found", .ref l)] (by simp [e1, e2, e3, e4, e5])
    dsimp only [kstB] at F4
    clear e1 e2 e3 e4 e5
    (try dsimp only)
    (repeat' (first | (k_unfold; (try dsimp only)) | ((fail_if_success (with_reducible show wpAny _ _ (PySem.exec (PySem.Stmt.While _ _ _ _) _) _ _ _)); (fail_if_success (with_reducible show wpAny _ _ (PySem.exec (PySem.Stmt.For _ _ _ _ _) _) _ _ _)); (fail_if_success (with_reducible show wpAny _ _ (PySem.pyIter (Value.ref _)) _ _ _)); (fail_if_success (with_reducible show wpAny _ _ (PySem.eval (PySem.Expr.IfExp _ _ _ _) _) _ _ _)); (fail_if_success (with_reducible show wpAny _ _ (PySem.call (Value.builtin "list.append") _ _) _ _ _)); (fail_if_success (with_reducible show wpAny _ _ (subscriptTail _ _ (Value.ref _) _) _ _ _)); first | (walk1 <;> (try dsimp only)) | (dsimp only; walk1) | (dsimp only; k_unfold; (try dsimp only))) | fail "no step"))
    with_reducible refine For_invV g1 ?hx ?hp ?_ ?hs ?hE
    case hx => exact rfl
    case hp => exact rfl
    case hs => exact fun _ => rfl
    case hE => passes_own
    (repeat' (first | (k_unfold; (try dsimp only)) | ((fail_if_success (with_reducible show wpAny _ _ (PySem.exec (PySem.Stmt.While _ _ _ _) _) _ _ _)); (fail_if_success (with_reducible show wpAny _ _ (PySem.exec (PySem.Stmt.For _ _ _ _ _) _) _ _ _)); (fail_if_success (with_reducible show wpAny _ _ (PySem.pyIter (Value.ref _)) _ _ _)); (fail_if_success (with_reducible show wpAny _ _ (PySem.eval (PySem.Expr.IfExp _ _ _ _) _) _ _ _)); (fail_if_success (with_reducible show wpAny _ _ (PySem.call (Value.builtin "list.append") _ _) _ _ _)); (fail_if_success (with_reducible show wpAny _ _ (subscriptTail _ _ (Value.ref _) _) _ _ _)); first | (walk1 <;> (try dsimp only)) | (dsimp only; walk1) | (dsimp only; k_unfold; (try dsimp only))) | fail "no step"))
    (rename IsRange _ _ _ _ _ _ _ _ => hR); (rename Fr _ _ _ _ => F5); (rename News _ _ _ _ => N5)
    refine kpr_invN (n := 8) (fun (i : Nat) (m₅ : Str → Option Value) (nx : List (Addr × Obj)) => ∃ (part : Nat) (Fg' : List Nat) (vs' : List Value) (n'' : Nat) (tq tp : Tok), nx = (l, listOf vs'.toArray n'') :: news ∧ IntsAre vs' (Fg'.map (codeF (decide (letter = "X")))) ∧ Fg' ++ restF r ((V / r ^ 8) * r ^ (8 - i) + part) Fg' = le r n ∧ part < r ^ (8 - i) ∧ (0 < i → Fg' ≠ []) ∧ m₅ "number" = some (.int ((V / r ^ 8 : Nat) : Int) tq) ∧ m₅ "part" = some (.int ((part : Nat) : Int) tp) ∧ m₅ "letter" = some (.str letter tl) ∧ m₅ "radix" = some (.int ((r : Nat) : Int) t3) ∧ m₅ "chunk" = some (.int ((r ^ 8 : Nat) : Int) t4) ∧ m₅ "found" = some (.ref l)) ?hh hR ?sm ?sz F5 (newsTl N5) ?ini ?turn ?fin
    case hh => exact rfl
    case sm => decide
    case sz => decide
    case ini => exact ⟨V % r ^ 8, Fg, vs, n', _, _, rfl, hi, by rw [Nat.sub_zero, Nat.div_add_mod']; exact hrest, Nat.mod_lt _ hr80, fun h => absurd h (Nat.lt_irrefl 0), rfl, rfl, rfl, rfl, rfl, rfl⟩
    case turn =>
      clear F5 N5 hR
      intro i k tk5 m₅ nx h₅ tk₅ own hk5 hoff hJ
      refine Classical.byContradiction fun hng => ?_
      obtain ⟨part, Fg', vs', n'', tq, tp, rfl, hi', hrest', hpart, hne', e1, e2, e3, e4, e5, e6⟩ := hJ
      refine hng ?_
      clear hng
      intro F6 N6
      have hi8 : i < 8 := by
        have := (List.getElem?_eq_some_iff.mp hk5).1
        simpa [rangeKs_length] using this
      have hs : r ^ (8 - i) = r ^ (8 - (i + 1)) * r := by
        rw [← Nat.pow_succ]
        congr 1
        omega
      rw [hs] at hrest' hpart
      generalize r ^ (8 - (i + 1)) = q at *
      generalize V / r ^ 8 = num at *
      replace N6 : News g1 L1 h₅ _ := N6
      replace F6 : Fr g1 L1 h₅ _ := frOv F6 [("number", .int ((num : Nat) : Int) tq), ("part", .int ((part : Nat) : Int) tp), ("letter", .str letter tl), ("radix", .int ((r : Nat) : Int) t3), ("chunk", .int ((r ^ 8 : Nat) : Int) t4), ("found", .ref l)] (by intro p hp; simp only [List.mem_cons, List.not_mem_nil, or_false] at hp; rcases hp with rfl | rfl | rfl | rfl | rfl | rfl <;> first | exact e1 | exact e2 | exact e3 | exact e4 | exact e5 | exact e6)
      dsimp only [kstB] at F6
      clear e1 e2 e3 e4 e5 e6
      have hlo : ∀ p ∈ news ++ own, p.1 ≠ l := by
        intro p hp
        rcases List.mem_append.mp hp with hp | hp
        · exact Nat.ne_of_lt (hl3 p hp)
        · exact hoff p hp l (.head _)
      dsimp only [List.cons_append] at N6
      with_reducible show wpAny _ _ _ _ _ _
      k_fold
      by_cases hskip : (num = 0 ∧ part = 0) ∧ Fg' ≠ []
      · obtain ⟨⟨rfl, rfl⟩, hnf⟩ := hskip
        cases Fg' with
        | nil => exact absurd rfl hnf
        | cons f0 Fr0 =>
          rw [List.map_cons] at hi'
          generalize hc0 : codeF (decide (letter = "X")) f0 = c0 at *
          generalize hcs : List.map (codeF (decide (letter = "X"))) Fr0 = cs0 at *
          (repeat' (first | (k_unfold; (try dsimp only)) | ((fail_if_success (with_reducible show wpAny _ _ (PySem.exec (PySem.Stmt.While _ _ _ _) _) _ _ _)); (fail_if_success (with_reducible show wpAny _ _ (PySem.exec (PySem.Stmt.For _ _ _ _ _) _) _ _ _)); (fail_if_success (with_reducible show wpAny _ _ (PySem.pyIter (Value.ref _)) _ _ _)); (fail_if_success (with_reducible show wpAny _ _ (PySem.eval (PySem.Expr.IfExp _ _ _ _) _) _ _ _)); (fail_if_success (with_reducible show wpAny _ _ (PySem.call (Value.builtin "list.append") _ _) _ _ _)); (fail_if_success (with_reducible show wpAny _ _ (subscriptTail _ _ (Value.ref _) _) _ _ _)); first | (walk1 <;> (try dsimp only)) | (dsimp only; walk1) | (dsimp only; k_unfold; (try dsimp only))) | fail "no step"))
          (rename Fr _ _ _ _ => F7); (rename News _ _ _ _ => N7)
          have hq0 : 0 < q := by
            rcases Nat.eq_zero_or_pos q with h | h
            · subst h; simp at hpart
            · exact h
          exact ⟨_, _, _, _, (l, listOf vs'.toArray n'') :: news, rfl, F7, newsTl N7, subNx, subOwn, rfl, 0, f0 :: Fr0, vs', n'', _, _, rfl, by rw [List.map_cons, hc0, hcs]; exact hi', by rw [show 0 * q + 0 = 0 * (q * r) + 0 by simp]; exact hrest', hq0, fun _ => List.cons_ne_nil _ _, rfl, rfl, rfl, rfl, rfl, rfl⟩
      · have hst := restF_turn hr2 (V := num * (q * r) + part) (F := Fg') (fun h => hskip ⟨by
          have hq0 : 0 < q * r := by omega
          have h1 := h.1
          rcases Nat.eq_zero_or_pos num with h2 | h2
          · subst h2; exact ⟨rfl, by omega⟩
          · have := Nat.mul_pos h2 hq0; omega, h.2⟩)
        have em : (num * (q * r) + part) % r = part % r := by rw [← Nat.mul_assoc, Nat.mul_comm, Nat.mul_add_mod]
        have ed : (num * (q * r) + part) / r = num * q + part / r := by rw [← Nat.mul_assoc, Nat.mul_comm, Nat.mul_add_div (by omega)]
        rw [em, ed, hrest'] at hst
        have hpq : part / r < q := (Nat.div_lt_iff_lt_mul (by omega)).mpr hpart
        have hmod : part % r < r := Nat.mod_lt _ (by omega)
        have hr30 : r < 10 ^ 30 := by omega
        have hr00 : 0 < r := by omega
        have hln : vs'.toArray.size ≤ sizeLine := by
          have e1 := congrArg List.length hst
          have e2 := le_len hr2 56 n (by omega)
          simp only [List.length_append, List.length_singleton] at e1
          rw [List.size_toArray, hi'.length, List.length_map, sizeLine_eq]
          omega
        have hgo3 : 0 < part ∨ (part = 0 ∧ 0 < num) ∨ (part = 0 ∧ num = 0 ∧ Fg' = []) := by
          by_cases h1 : part = 0
          · by_cases h2 : num = 0
            · exact Or.inr (Or.inr ⟨h1, h2, Classical.byContradiction fun h3 => hskip ⟨⟨h2, h1⟩, h3⟩⟩)
            · exact Or.inr (Or.inl ⟨h1, by omega⟩)
          · exact Or.inl (by omega)
        clear hskip
        walk1
        walk1
        with_reducible refine viaB (fun R => ∀ h' tk' m', Fr g1 L1 h' m' → m' "number" = some (.int ((num : Nat) : Int) tq) → m' "part" = some (.int ((part : Nat) : Int) tp) → m' "letter" = some (.str letter tl) → m' "radix" = some (.int ((r : Nat) : Int) t3) → m' "chunk" = some (.int ((r ^ 8 : Nat) : Int) t4) → m' "found" = some (.ref l) → News g1 L1 h' ((l, listOf vs'.toArray n'') :: (news ++ own)) → R { s with heap := h', toks := tk' }) (fun R R2 hq => ?cond2) ?afc2
        case cond2 =>
          rcases hgo3 with h1 | ⟨rfl, h2⟩ | ⟨rfl, rfl, rfl⟩
          · (repeat' (first | (k_unfold; (try dsimp only)) | ((fail_if_success (with_reducible show wpAny _ _ (PySem.exec (PySem.Stmt.While _ _ _ _) _) _ _ _)); (fail_if_success (with_reducible show wpAny _ _ (PySem.exec (PySem.Stmt.For _ _ _ _ _) _) _ _ _)); (fail_if_success (with_reducible show wpAny _ _ (PySem.pyIter (Value.ref _)) _ _ _)); (fail_if_success (with_reducible show wpAny _ _ (PySem.eval (PySem.Expr.IfExp _ _ _ _) _) _ _ _)); (fail_if_success (with_reducible show wpAny _ _ (PySem.call (Value.builtin "list.append") _ _) _ _ _)); (fail_if_success (with_reducible show wpAny _ _ (subscriptTail _ _ (Value.ref _) _) _ _ _)); first | (walk1 <;> (try dsimp only)) | (dsimp only; walk1) | (dsimp only; k_unfold; (try dsimp only))) | fail "no step"))
            (rename Fr _ _ _ _ => F7); (rename News _ _ _ _ => N7)
            exact hq _ _ _ F7 rfl rfl rfl rfl rfl rfl N7
          · (repeat' (first | (k_unfold; (try dsimp only)) | ((fail_if_success (with_reducible show wpAny _ _ (PySem.exec (PySem.Stmt.While _ _ _ _) _) _ _ _)); (fail_if_success (with_reducible show wpAny _ _ (PySem.exec (PySem.Stmt.For _ _ _ _ _) _) _ _ _)); (fail_if_success (with_reducible show wpAny _ _ (PySem.pyIter (Value.ref _)) _ _ _)); (fail_if_success (with_reducible show wpAny _ _ (PySem.eval (PySem.Expr.IfExp _ _ _ _) _) _ _ _)); (fail_if_success (with_reducible show wpAny _ _ (PySem.call (Value.builtin "list.append") _ _) _ _ _)); (fail_if_success (with_reducible show wpAny _ _ (subscriptTail _ _ (Value.ref _) _) _ _ _)); first | (walk1 <;> (try dsimp only)) | (dsimp only; walk1) | (dsimp only; k_unfold; (try dsimp only))) | fail "no step"))
            (rename Fr _ _ _ _ => F7); (rename News _ _ _ _ => N7)
            exact hq _ _ _ F7 rfl rfl rfl rfl rfl rfl N7
          · cases hi'
            have hi' := IntsAre.nil
            (repeat' (first | (k_unfold; (try dsimp only)) | ((fail_if_success (with_reducible show wpAny _ _ (PySem.exec (PySem.Stmt.While _ _ _ _) _) _ _ _)); (fail_if_success (with_reducible show wpAny _ _ (PySem.exec (PySem.Stmt.For _ _ _ _ _) _) _ _ _)); (fail_if_success (with_reducible show wpAny _ _ (PySem.pyIter (Value.ref _)) _ _ _)); (fail_if_success (with_reducible show wpAny _ _ (PySem.eval (PySem.Expr.IfExp _ _ _ _) _) _ _ _)); (fail_if_success (with_reducible show wpAny _ _ (PySem.call (Value.builtin "list.append") _ _) _ _ _)); (fail_if_success (with_reducible show wpAny _ _ (subscriptTail _ _ (Value.ref _) _) _ _ _)); first | (walk1 <;> (try dsimp only)) | (dsimp only; walk1) | (dsimp only; k_unfold; (try dsimp only))) | fail "no step"))
            (rename Fr _ _ _ _ => F7); (rename News _ _ _ _ => N7)
            exact hq _ _ _ F7 rfl rfl rfl rfl rfl rfl (newsTl N7)
        clear F6 N6 hgo3
        intro h65 tk65 m65 F6 e1 e2 e3 e4 e5 e6 N6
        replace F6 := frOv F6 [("number", .int ((num : Nat) : Int) tq), ("part", .int ((part : Nat) : Int) tp), ("letter", .str letter tl), ("radix", .int ((r : Nat) : Int) t3), ("chunk", .int ((r ^ 8 : Nat) : Int) t4), ("found", .ref l)] (by intro p hp; simp only [List.mem_cons, List.not_mem_nil, or_false] at hp; rcases hp with rfl | rfl | rfl | rfl | rfl | rfl <;> first | exact e1 | exact e2 | exact e3 | exact e4 | exact e5 | exact e6)
        dsimp only [kstB] at F6
        clear e1 e2 e3 e4 e5 e6
        (try dsimp only)
        (repeat' (first | (k_unfold; (try dsimp only)) | ((fail_if_success (with_reducible show wpAny _ _ (PySem.exec (PySem.Stmt.While _ _ _ _) _) _ _ _)); (fail_if_success (with_reducible show wpAny _ _ (PySem.exec (PySem.Stmt.For _ _ _ _ _) _) _ _ _)); (fail_if_success (with_reducible show wpAny _ _ (PySem.pyIter (Value.ref _)) _ _ _)); (fail_if_success (with_reducible show wpAny _ _ (PySem.eval (PySem.Expr.IfExp _ _ _ _) _) _ _ _)); (fail_if_success (with_reducible show wpAny _ _ (PySem.call (Value.builtin "list.append") _ _) _ _ _)); (fail_if_success (with_reducible show wpAny _ _ (subscriptTail _ _ (Value.ref _) _) _ _ _)); first | (walk1 <;> (try dsimp only)) | (dsimp only; walk1) | (dsimp only; k_unfold; (try dsimp only))) | fail "no step"))
        with_reducible refine viaI (codeF (decide (letter = "X")) (part % r)) (fun Q' hq => ?ci) ?afci
        case ci =>
          have hcd : ∀ d : Nat, codeF (decide (letter = "X")) d = if d < 10 then 48 + (d : Int) else if letter = "X" then 55 + (d : Int) else 87 + (d : Int) := by
            intro d
            unfold codeF
            by_cases h : d < 10
            · simp [h]
            · by_cases hx : letter = "X" <;> simp [h, hx]
          by_cases how : part % r < 10
          · rw [hcd, if_pos how] at hq
            walk1
            (repeat' (first | (k_unfold; (try dsimp only)) | ((fail_if_success (with_reducible show wpAny _ _ (PySem.exec (PySem.Stmt.While _ _ _ _) _) _ _ _)); (fail_if_success (with_reducible show wpAny _ _ (PySem.exec (PySem.Stmt.For _ _ _ _ _) _) _ _ _)); (fail_if_success (with_reducible show wpAny _ _ (PySem.pyIter (Value.ref _)) _ _ _)); (fail_if_success (with_reducible show wpAny _ _ (PySem.eval (PySem.Expr.IfExp _ _ _ _) _) _ _ _)); (fail_if_success (with_reducible show wpAny _ _ (PySem.call (Value.builtin "list.append") _ _) _ _ _)); (fail_if_success (with_reducible show wpAny _ _ (subscriptTail _ _ (Value.ref _) _) _ _ _)); first | (walk1 <;> (try dsimp only)) | (dsimp only; walk1) | (dsimp only; k_unfold; (try dsimp only))) | fail "no step"))
            all_goals exact hq _ _
          · by_cases hX : letter = "X"
            · rw [hcd, if_neg how, if_pos hX] at hq
              walk1
              (repeat' (first | (k_unfold; (try dsimp only)) | ((fail_if_success (with_reducible show wpAny _ _ (PySem.exec (PySem.Stmt.While _ _ _ _) _) _ _ _)); (fail_if_success (with_reducible show wpAny _ _ (PySem.exec (PySem.Stmt.For _ _ _ _ _) _) _ _ _)); (fail_if_success (with_reducible show wpAny _ _ (PySem.pyIter (Value.ref _)) _ _ _)); (fail_if_success (with_reducible show wpAny _ _ (PySem.eval (PySem.Expr.IfExp _ _ _ _) _) _ _ _)); (fail_if_success (with_reducible show wpAny _ _ (PySem.call (Value.builtin "list.append") _ _) _ _ _)); (fail_if_success (with_reducible show wpAny _ _ (subscriptTail _ _ (Value.ref _) _) _ _ _)); first | (walk1 <;> (try dsimp only)) | (dsimp only; walk1) | (dsimp only; k_unfold; (try dsimp only))) | fail "no step"))
              walk1
              (repeat' (first | (k_unfold; (try dsimp only)) | ((fail_if_success (with_reducible show wpAny _ _ (PySem.exec (PySem.Stmt.While _ _ _ _) _) _ _ _)); (fail_if_success (with_reducible show wpAny _ _ (PySem.exec (PySem.Stmt.For _ _ _ _ _) _) _ _ _)); (fail_if_success (with_reducible show wpAny _ _ (PySem.pyIter (Value.ref _)) _ _ _)); (fail_if_success (with_reducible show wpAny _ _ (PySem.eval (PySem.Expr.IfExp _ _ _ _) _) _ _ _)); (fail_if_success (with_reducible show wpAny _ _ (PySem.call (Value.builtin "list.append") _ _) _ _ _)); (fail_if_success (with_reducible show wpAny _ _ (subscriptTail _ _ (Value.ref _) _) _ _ _)); first | (walk1 <;> (try dsimp only)) | (dsimp only; walk1) | (dsimp only; k_unfold; (try dsimp only))) | fail "no step"))
              all_goals exact hq _ _
            · rw [hcd, if_neg how, if_neg hX] at hq
              walk1
              (repeat' (first | (k_unfold; (try dsimp only)) | ((fail_if_success (with_reducible show wpAny _ _ (PySem.exec (PySem.Stmt.While _ _ _ _) _) _ _ _)); (fail_if_success (with_reducible show wpAny _ _ (PySem.exec (PySem.Stmt.For _ _ _ _ _) _) _ _ _)); (fail_if_success (with_reducible show wpAny _ _ (PySem.pyIter (Value.ref _)) _ _ _)); (fail_if_success (with_reducible show wpAny _ _ (PySem.eval (PySem.Expr.IfExp _ _ _ _) _) _ _ _)); (fail_if_success (with_reducible show wpAny _ _ (PySem.call (Value.builtin "list.append") _ _) _ _ _)); (fail_if_success (with_reducible show wpAny _ _ (subscriptTail _ _ (Value.ref _) _) _ _ _)); first | (walk1 <;> (try dsimp only)) | (dsimp only; walk1) | (dsimp only; k_unfold; (try dsimp only))) | fail "no step"))
              walk1
              (repeat' (first | (k_unfold; (try dsimp only)) | ((fail_if_success (with_reducible show wpAny _ _ (PySem.exec (PySem.Stmt.While _ _ _ _) _) _ _ _)); (fail_if_success (with_reducible show wpAny _ _ (PySem.exec (PySem.Stmt.For _ _ _ _ _) _) _ _ _)); (fail_if_success (with_reducible show wpAny _ _ (PySem.pyIter (Value.ref _)) _ _ _)); (fail_if_success (with_reducible show wpAny _ _ (PySem.eval (PySem.Expr.IfExp _ _ _ _) _) _ _ _)); (fail_if_success (with_reducible show wpAny _ _ (PySem.call (Value.builtin "list.append") _ _) _ _ _)); (fail_if_success (with_reducible show wpAny _ _ (subscriptTail _ _ (Value.ref _) _) _ _ _)); first | (walk1 <;> (try dsimp only)) | (dsimp only; walk1) | (dsimp only; k_unfold; (try dsimp only))) | fail "no step"))
              all_goals exact hq _ _
        intro tci tkci
        (try dsimp only)
        (repeat' (first | (k_unfold; (try dsimp only)) | ((fail_if_success (with_reducible show wpAny _ _ (PySem.exec (PySem.Stmt.While _ _ _ _) _) _ _ _)); (fail_if_success (with_reducible show wpAny _ _ (PySem.exec (PySem.Stmt.For _ _ _ _ _) _) _ _ _)); (fail_if_success (with_reducible show wpAny _ _ (PySem.pyIter (Value.ref _)) _ _ _)); (fail_if_success (with_reducible show wpAny _ _ (PySem.eval (PySem.Expr.IfExp _ _ _ _) _) _ _ _)); (fail_if_success (with_reducible show wpAny _ _ (PySem.call (Value.builtin "list.append") _ _) _ _ _)); (fail_if_success (with_reducible show wpAny _ _ (subscriptTail _ _ (Value.ref _) _) _ _ _)); first | (walk1 <;> (try dsimp only)) | (dsimp only; walk1) | (dsimp only; k_unfold; (try dsimp only))) | fail "no step"))
        (rename Fr _ _ _ _ => F7); (rename News _ _ _ _ => N7)
        refine append_K F7 (newsTl N7) (.head hlo) (fun h8 F8 N8 => ?_) hln
        rw [List.push_toArray] at N8
        (try dsimp only)
        (repeat' (first | (k_unfold; (try dsimp only)) | ((fail_if_success (with_reducible show wpAny _ _ (PySem.exec (PySem.Stmt.While _ _ _ _) _) _ _ _)); (fail_if_success (with_reducible show wpAny _ _ (PySem.exec (PySem.Stmt.For _ _ _ _ _) _) _ _ _)); (fail_if_success (with_reducible show wpAny _ _ (PySem.pyIter (Value.ref _)) _ _ _)); (fail_if_success (with_reducible show wpAny _ _ (PySem.eval (PySem.Expr.IfExp _ _ _ _) _) _ _ _)); (fail_if_success (with_reducible show wpAny _ _ (PySem.call (Value.builtin "list.append") _ _) _ _ _)); (fail_if_success (with_reducible show wpAny _ _ (subscriptTail _ _ (Value.ref _) _) _ _ _)); first | (walk1 <;> (try dsimp only)) | (dsimp only; walk1) | (dsimp only; k_unfold; (try dsimp only))) | fail "no step"))
        refine ⟨_, _, _, _, (l, listOf (vs' ++ [_]).toArray _) :: news, rfl, F8, N8, subNx, subOwn, rfl, part / r, Fg' ++ [part % r], _, _, _, _, rfl, ?_, hst.symm, hpq, fun _ => by simp, rfl, rfl, rfl, rfl, rfl, rfl⟩
        rw [List.map_append, List.map_singleton]
        exact intsSnoc hi'
    case fin =>
      clear F5 N5 hR
      intro m₅ nx h₅ tk₅ hJ
      refine Classical.byContradiction fun hng => ?_
      obtain ⟨part, Fg', vs', n'', tq, tp, rfl, hi', hrest', hpart, hne', e1, e2, e3, e4, e5, e6⟩ := hJ
      refine hng ?_
      clear hng
      intro F6 N6
      have e8 : (rangeKs 0 8).length = 8 := rfl
      rw [e8, Nat.sub_self, Nat.pow_zero] at hpart
      obtain rfl : part = 0 := by omega
      rw [e8, Nat.sub_self, Nat.pow_zero, Nat.mul_one, Nat.add_zero] at hrest'
      have hne' := hne' (by rw [e8]; decide)
      dsimp only
      refine wpAny_execs_nil ?_
      exact ⟨_, _, _, _, _, rfl, F6, N6, by
        rw [if_neg hne']
        rcases hgo2 with hV | ⟨hV, hF⟩
        · have := Nat.div_lt_self hV hr82; omega
        · rw [if_pos hF, hV, Nat.zero_div]; omega, V / r ^ 8, Fg', vs', n'', tq, rfl, rfl, hi', hrest', Nat.le_trans (Nat.div_le_self _ _) hVn, e1, e3, e4, e5, e6⟩
end Mine
end

end

namespace Mine
theorem flushX7 {M : PySem.Model} {A : PySem.Around} {E : PySem.Value → PySem.Shared → Prop} {s : PySem.Shared} {Q : PySem.Flow → PySem.Shared → Prop} {pos : PySem.Pos} {env : PySem.Env} (h : Q .next s) : PySem.wpAny M A (PySem.exec (PySem.Stmt.Pass pos) env) Q E s := by
  walk1
  exact h
end Mine

-- part X7
section
open PySem PySem.W PyProof.Rows PySem.Calls
set_option maxRecDepth 100000
set_option maxHeartbeats 2000000
namespace Mine
theorem refused1 {w : World} {pv : Program} {lo : List Str} {mg mb : Str → Option Value} {mean : ExcName → Option Value} {dp un : Nat} {gd : Option (List Code)} {cn : Str} {cs : Scope} {a : Addr} {ccd : Value} {cl : List (Str × Addr)} {A₀ : Around} {base h₀ : Heap} {L : Addr} {m : Str → Option Value} {news : List (Addr × Obj)} {s : Shared} {Q E : Value → Shared → Prop} {lam : Addr} {oc : Value} {od : Option Addr} {fd : FuncData} {sl : Array (Option Value)}
  (hl : (lam, (⟨oc, od, .func fd, sl⟩ : Obj)) ∈ news)
  (B : Below A₀ base [] h₀) (F : Fr h₀ L s.heap m) (X : (Mine.hd.heap_39 w.params).In h₀) (N : News h₀ L s.heap news) (T : Top pv lo mean mg mb h₀) (hk : cs.kind = .function)
  (hdp : dp + 40 < recursionLimit) (hun : un + 600 < cLine)
  (deed : ∀ {dp' un' : Nat} {gd' : Option (List Code)} {cn' : Str} {cs' : Scope} {L' a' : Addr} {ccd' : Value} {A' : Around} {g : Heap} {m' : Str → Option Value} {s1 : Shared} {Q' E' : Value → Shared → Prop},
    Below A' h₀ [envX cn cs L a ccd cl] g → Fr g L' s1.heap m' → (Mine.hd.heap_39 w.params).In g → News g L' s1.heap news → Top pv lo mean mg mb g → cs'.kind = .function → dp' + 30 < recursionLimit → un' + 400 < cLine →
    (∀ G H e dx h' tk', Fr g L' G m' → Flight G H (envX cn' cs' L' a' ccd' [] :: [envX cn cs L a ccd cl]) news e dx { s1 with heap := h', toks := tk' } → E' (.ref e) { s1 with heap := h', toks := tk' }) →
    wpAny (model PR w) (ktrTop dp' un' gd' cn' cs' L' a' ccd' [] [envX cn cs L a ccd cl]) (call (.ref lam) []) Q' E' s1)
  (ret : ∀ h' tk', Fr h₀ L h' m → News h₀ L h' news → Q (.bool true) { s with heap := h', toks := tk' }) :
  wpAny (model PR w) (ktrTop dp un gd cn cs L a ccd cl []) (call (.ref 109) [.ref lam]) Q E s := by
  refine wpAny_call ?_
  refine' code_tryX B F X N T ?kA ?kO ?kcd ?room ?bind ?loc ?_ hk ?c2 ?c3 ?c4 ?c5
  (case kA => exact rfl)
  (case kO => k_is)
  (case kcd => k_is)
  (case room => k_room)
  (case bind => exact BindsTo.of_eq rfl)
  (case loc => exact locs rfl)
  (case c2 => exact rfl)
  (case c3 => exact rfl)
  (case c4 => exact rfl)
  (case c5 => decide)
  intro g1 L1 h1 FG1 F1 N1 B1 X1 T1 D1
  dsimp only
  (try k_fold)
  have F1' := frOv F1 [("deed", .ref lam)] (by intro p hp; simp only [List.mem_cons, List.not_mem_nil, or_false] at hp; subst hp; rfl)
  clear F1
  obtain ⟨m0, F1⟩ : ∃ m0 : Str → Option Value, Fr g1 L1 h1 (kstB m0 [("deed", .ref lam)]) := ⟨_, F1'⟩
  clear F1'
  dsimp only [kstB] at F1
  generalize s.toks + (List.length _) = tk0
  refine wpAny_execs_cons ?_
  with_reducible refine wpAny_Try_except ?_
  (repeat' (first | (k_unfold; (try dsimp only)) | ((fail_if_success (with_reducible show wpAny _ _ (PySem.exec (PySem.Stmt.Try _ _ _ _ _) _) _ _ _)); (fail_if_success (with_reducible show wpAny _ _ (PySem.call (Value.ref _) [] _) _ _ _)); (fail_if_success (with_reducible show wpAny _ _ (PySem.getAttr (Value.ref _) _ _) _ _ _)); first | (walk1 <;> (try dsimp only)) | (dsimp only; walk1) | (dsimp only; k_unfold; (try dsimp only))) | fail "no step"))
  with_reducible refine callWith_F0 (FnAt.of N1 hl) ?_
  refine' deed (s1 := ⟨_, _, _, _, _⟩) B1 F1 X1 N1 T1 ?k1 ?k2 ?k3 ?_
  (case k1 => exact rfl)
  (case k2 => k_room)
  (case k3 => units_room)
  intro G H e dx h' tk' FG fl
  dsimp only
  refine caughtSig fl FG B1 (fun p hp => (N1 p hp).2.2) X T ?_
  · intro h5 g5 news5 tk5 T5 F5 N5 got B5 X5 P5
    obtain ⟨oe, es, k, ws, rfl, hc, hd, hdict, hsym⟩ := got
    (repeat' (first | (k_unfold; (try dsimp only)) | ((fail_if_success (with_reducible show wpAny _ _ (PySem.exec (PySem.Stmt.Try _ _ _ _ _) _) _ _ _)); (fail_if_success (with_reducible show wpAny _ _ (PySem.call (Value.ref _) [] _) _ _ _)); (fail_if_success (with_reducible show wpAny _ _ (PySem.getAttr (Value.ref _) _ _) _ _ _)); first | (walk1 <;> (try dsimp only)) | (dsimp only; walk1) | (dsimp only; k_unfold; (try dsimp only))) | fail "no step"))
    have I5 : InstAt h5 e oe 31 (some (dictOf es 2)) := ⟨(N5 _ (.head _)).1, hc, by unfold notCls; rw [hd], by rw [hdict]; exact (N5 _ (.tail _ (.head _))).1⟩
    refine' sigSym (s := ⟨_, _, _, _, _⟩) (X5.keeps F5.keep) I5 hsym ?kv ?_
    (case kv => exact rfl)
    (repeat' (first | (k_unfold; (try dsimp only)) | ((fail_if_success (with_reducible show wpAny _ _ (PySem.exec (PySem.Stmt.Try _ _ _ _ _) _) _ _ _)); (fail_if_success (with_reducible show wpAny _ _ (PySem.call (Value.ref _) [] _) _ _ _)); (fail_if_success (with_reducible show wpAny _ _ (PySem.getAttr (Value.ref _) _ _) _ _ _)); first | (walk1 <;> (try dsimp only)) | (dsimp only; walk1) | (dsimp only; k_unfold; (try dsimp only))) | fail "no step"))
    (rename Fr h₀ _ _ _ => F9); (rename News h₀ _ _ _ => N9)
    have hq := ret _ (tk5 + 1 + 1 + 1) F9 (fun p hp => N9 p (.tail _ (.tail _ hp)))
    exact hq
end Mine
end

namespace Mine
theorem flushP2 {M : PySem.Model} {A : PySem.Around} {E : PySem.Value → PySem.Shared → Prop} {s : PySem.Shared} {Q : PySem.Flow → PySem.Shared → Prop} {pos : PySem.Pos} {env : PySem.Env} (h : Q .next s) : PySem.wpAny M A (PySem.exec (PySem.Stmt.Pass pos) env) Q E s := by
  walk1
  exact h
end Mine

-- part P2
section
set_option maxRecDepth 100000
open PySem
namespace Mine
abbrev isFl (c : Int) : Prop := c = 45 ∨ c = 43 ∨ c = 32 ∨ c = 48 ∨ c = 35
/-- what stops figures: nothing, or a sign that is no figure -/
noncomputable def NoDg (R : List Int) : Prop := ∀ c, R.head? = some c → ¬ (48 ≤ c ∧ c ≤ 57)
theorem numP_stop {R : List Int} (h : NoDg R) (acc : Int) (p : Nat) : numP R acc p = some (acc, p) := by
  cases R with
  | nil => rfl
  | cons c r => rw [numP, if_neg (h c rfl)]
/-- written figures of a number below 100 -/
inductive Dec : Int → List Int → Prop
  | one (d : Int) : 0 ≤ d → d ≤ 9 → Dec d [48 + d]
  | two (d e : Int) : 1 ≤ d → d ≤ 9 → 0 ≤ e → e ≤ 9 → Dec (10 * d + e) [48 + d, 48 + e]
theorem numP_dec {v : Int} {W R : List Int} (h : Dec v W) (hR : NoDg R) (p : Nat) : numP (W ++ R) 0 p = some (v, p + W.length) := by
  cases h with
  | one d h0 h1 =>
    simp only [List.cons_append, List.nil_append, numP]
    rw [if_pos (by omega), if_neg (by omega), numP_stop hR]
    congr 2
    omega
  | two d e h0 h1 h2 h3 =>
    simp only [List.cons_append, List.nil_append, numP]
    rw [if_pos (by omega), if_neg (by omega), if_pos (by omega), if_neg (by omega), numP_stop hR]
    congr 2
    omega
/-- a number's figures, or none of them: then it is 0 -/
noncomputable def DecO (v : Int) (W : List Int) : Prop := (v = 0 ∧ W = []) ∨ (1 ≤ v ∧ Dec v W)
theorem numP_decO {v : Int} {W R : List Int} (h : DecO v W) (hR : NoDg R) (p : Nat) : numP (W ++ R) 0 p = some (v, p + W.length) := by
  rcases h with ⟨rfl, rfl⟩ | ⟨_, h⟩
  · exact numP_stop hR 0 p
  · exact numP_dec h hR p
theorem DecO.first {v : Int} {W : List Int} (h : DecO v W) : ∀ c, W.head? = some c → 49 ≤ c ∧ c ≤ 57 := by
  rcases h with ⟨rfl, rfl⟩ | ⟨h1, h⟩
  · intro c h; cases h
  · cases h with
    | one d h0 h1 => intro c hc; simp at hc; omega
    | two d e h0 h1 h2 h3 => intro c hc; simp at hc; omega
theorem Dec.dg {v : Int} {W : List Int} (h : Dec v W) : ∀ c ∈ W, 48 ≤ c ∧ c ≤ 57 := by
  cases h <;> (intro c hc; simp at hc; omega)
theorem DecO.dg {v : Int} {W : List Int} (h : DecO v W) : ∀ c ∈ W, 48 ≤ c ∧ c ≤ 57 := by
  rcases h with ⟨rfl, rfl⟩ | ⟨_, h⟩
  · intro c hc; cases hc
  · exact h.dg
theorem flagsP_app : ∀ (fl R : List Int) (v : SV) (p : Nat), (∀ c ∈ fl, isFl c) → (∀ c, R.head? = some c → ¬ isFl c) → flagsP (fl ++ R) v p = (fl.foldl noteF v, p + fl.length)
  | [], R, v, p, _, hR => by
    cases R with
    | nil => rfl
    | cons c r => simp only [List.nil_append, flagsP]; rw [if_neg (hR c rfl)]; rfl
  | f :: fl, R, v, p, hf, hR => by
    simp only [List.cons_append, flagsP]
    rw [if_pos (hf f (.head _)), flagsP_app fl R _ _ (fun c hc => hf c (.tail _ hc)) hR]
    simp only [List.foldl_cons, List.length_cons]
    congr 1
    omega
theorem numP_fl {R : List Int} (hR : ∀ p, numP R 0 p ≠ none) : ∀ (fl : List Int) (p : Nat), (∀ c ∈ fl, isFl c) → numP (fl ++ R) 0 p ≠ none
  | [], p, _ => hR p
  | f :: fl, p, hf => by
    simp only [List.cons_append, numP]
    have h1 := hf f (.head _)
    by_cases h : f = 48
    · subst h
      rw [if_pos (by omega), if_neg (by omega)]
      exact numP_fl hR fl _ fun c hc => hf c (.tail _ hc)
    · rw [if_neg (by omega)]
      exact fun h => nomatch h
noncomputable def precOf (S : List Int) (pr : Int) : Prop := (S = [] ∧ pr = -1) ∨ (∃ T, S = 46 :: T ∧ (DecO pr T ∨ Dec pr T))
theorem numP_or {v : Int} {W R : List Int} (h : DecO v W ∨ Dec v W) (hR : NoDg R) (p : Nat) : numP (W ++ R) 0 p = some (v, p + W.length) :=
  h.elim (fun h => numP_decO h hR p) fun h => numP_dec h hR p
/-- the sign that ends: no figure, no flag, no point, no dollar -/
noncomputable def EndS (E : List Int) : Prop := ∀ c, E.head? = some c → ¬ (48 ≤ c ∧ c ≤ 57) ∧ ¬ isFl c ∧ c ≠ 46 ∧ c ≠ 36
theorem head_app {α : Type} {A B : List α} {c : α} (h : (A ++ B).head? = some c) : A.head? = some c ∨ (A = [] ∧ B.head? = some c) := by
  cases A with
  | nil => exact Or.inr ⟨rfl, h⟩
  | cons a A => exact Or.inl h
theorem EndS.noDg {E : List Int} (h : EndS E) : NoDg E := fun c hc => (h c hc).1
theorem SE_noDg {S E : List Int} {pr : Int} (hS : precOf S pr) (hE : EndS E) : NoDg (S ++ E) := by
  intro c hc
  rcases hS with ⟨rfl, _⟩ | ⟨T, rfl, _⟩
  · exact (hE c hc).1
  · simp at hc; omega
theorem drop_at {pre L : List Int} {p : Nat} (hp : pre.length = p) : (pre ++ L).drop p = L := by
  subst hp; simp
theorem get_at {pre L : List Int} {p i : Nat} (hp : pre.length = p) (q : Nat) (hq : q = p + i) : (pre ++ L)[q]? = L[i]? := by
  subst hp hq
  rw [List.getElem?_append_right (by omega)]
  congr 1
  omega
noncomputable def endsAs (v : SV) (q : Nat) : List Int → Option (SV × Nat)
  | [] => none
  | c :: _ => some ({ v with letter := chrOf c }, q + 1)
theorem rest_read {pre fl W S E : List Int} {wd pr : Int} (v : SV) (hv : v.prec = -1) (hv2 : v.width = 0) (hfl : ∀ c ∈ fl, isFl c) (hW : DecO wd W) (hS : precOf S pr) (hE : EndS E) :
    restP (pre ++ (fl ++ (W ++ (S ++ E)))) v pre.length = endsAs { fl.foldl noteF v with width := wd, prec := pr } (pre.length + (fl ++ W ++ S).length) E := by
  have hfold : ∀ (fl : List Int) (v : SV), v.prec = -1 → (fl.foldl noteF v).prec = -1 := by
    intro fl
    induction fl with
    | nil => exact fun v h => h
    | cons c r ih => exact fun v h => ih _ h
  have e1 : flagsP (fl ++ (W ++ (S ++ E))) v pre.length = (fl.foldl noteF v, pre.length + fl.length) := by
    refine flagsP_app _ _ _ _ hfl fun c hc hf => ?_
    rcases head_app hc with h | ⟨rfl, h⟩
    · have := hW.first c h; omega
    · rcases head_app h with h | ⟨rfl, h⟩
      · rcases hS with ⟨rfl, _⟩ | ⟨T, rfl, _⟩
        · cases h
        · simp at h; omega
      · exact (hE c h).2.1 hf
  unfold restP
  rw [drop_at rfl, e1]
  unfold widthP
  have e2 : (pre ++ (fl ++ (W ++ (S ++ E)))).drop (pre.length + fl.length) = W ++ (S ++ E) := by
    rw [← List.append_assoc]
    exact drop_at (by rw [List.length_append])
  dsimp only
  rw [e2, numP_decO hW (SE_noDg hS hE)]
  dsimp only
  unfold precP
  have e3 : ∀ i, (pre ++ (fl ++ (W ++ (S ++ E))))[pre.length + fl.length + W.length + i]? = (S ++ E)[i]? := by
    intro i
    have : pre ++ (fl ++ (W ++ (S ++ E))) = (pre ++ fl ++ W) ++ (S ++ E) := by simp
    rw [this]
    exact get_at (by simp [Nat.add_assoc]) _ rfl
  have e4 : ∀ i, (pre ++ (fl ++ (W ++ (S ++ E)))).drop (pre.length + fl.length + W.length + i) = (S ++ E).drop i := by
    intro i
    have : pre ++ (fl ++ (W ++ (S ++ E))) = (pre ++ fl ++ W) ++ (S ++ E) := by simp
    rw [this, ← List.drop_drop]
    congr 1
    exact drop_at (by simp [Nat.add_assoc])
  have e30 := e3 0
  simp only [Nat.add_zero] at e30
  rw [e30]
  have fin : ∀ (v' : SV) (T : List Int), (S ++ E).drop T.length = E → T.length = S.length → endP (pre ++ (fl ++ (W ++ (S ++ E)))) v' (pre.length + fl.length + W.length + T.length) = endsAs v' (pre.length + (fl ++ W ++ S).length) E := by
    intro v' T h1 h2
    unfold endP
    rw [e3]
    have e5 : (S ++ E)[T.length]? = E[0]? := by rw [h2, List.getElem?_append_right (Nat.le_refl _), Nat.sub_self]
    rw [e5]
    have e6 : pre.length + fl.length + W.length + T.length = pre.length + (fl ++ W ++ S).length := by simp [h2]; omega
    cases E with
    | nil => rfl
    | cons c r => simp only [List.getElem?_cons_zero, endsAs]; rw [e6]
  rcases hS with ⟨rfl, rfl⟩ | ⟨T, rfl, hT⟩
  · rw [if_neg (by
      intro h
      cases E with
      | nil => cases h
      | cons c r => exact (hE c rfl).2.2.1 (Option.some.inj h))]
    have := fin { fl.foldl noteF v with width := wd } [] rfl rfl
    simp only [List.length_nil, Nat.add_zero] at this
    rw [this]
    have e7 := hfold fl v hv
    cases hq : fl.foldl noteF v with
    | mk a b c d e f g h i =>
      rw [hq] at e7
      dsimp only at e7
      subst e7
      rfl
  · rw [if_pos (show (46 :: T ++ E)[0]? = some 46 from rfl), e4 1]
    have e8 : (46 :: T ++ E).drop 1 = T ++ E := rfl
    rw [e8, numP_or hT hE.noDg]
    dsimp only
    have := fin { fl.foldl noteF v with width := wd, prec := pr } (46 :: T) (by simp) rfl
    simp only [List.length_cons] at this
    rw [show pre.length + fl.length + W.length + 1 + T.length = pre.length + fl.length + W.length + (T.length + 1) by omega]
    exact this
/-- without a field -/
theorem read_none {pre fl W S E : List Int} {wd pr : Int} (hfl : ∀ c ∈ fl, isFl c) (hW : DecO wd W) (hS : precOf S pr) (hE : EndS E) (hE2 : ∀ c ∈ E, c ≠ 36) :
    readP (pre ++ (fl ++ (W ++ (S ++ E)))) pre.length = endsAs { fl.foldl noteF freshSV with width := wd, prec := pr } (pre.length + (fl ++ W ++ S).length) E := by
  rw [← rest_read freshSV rfl rfl hfl hW hS hE]
  unfold readP
  rw [drop_at rfl]
  have hno : ∀ c ∈ fl ++ (W ++ (S ++ E)), c ≠ 36 := by
    intro c hc
    rcases List.mem_append.mp hc with hc | hc
    · have := hfl c hc; omega
    · rcases List.mem_append.mp hc with hc | hc
      · have := hW.dg c hc; omega
      · rcases List.mem_append.mp hc with hc | hc
        · rcases hS with ⟨rfl, _⟩ | ⟨T, rfl, hT⟩
          · cases hc
          · rcases List.mem_cons.mp hc with rfl | hc
            · decide
            · have := hT.elim (fun h => h.dg c hc) fun h => h.dg c hc
              omega
        · exact hE2 c hc
  cases hq : numP (fl ++ (W ++ (S ++ E))) 0 pre.length with
  | none => exact absurd hq (numP_fl (fun p => by rw [numP_decO hW (SE_noDg hS hE)]; exact fun h => nomatch h) fl _ hfl)
  | some r =>
    obtain ⟨v, b⟩ := r
    dsimp only
    have hb := numP_le hq
    rw [if_neg]
    rintro ⟨_, h⟩
    rw [get_at rfl b (i := b - pre.length) (by omega)] at h
    obtain ⟨h1, h2⟩ := List.getElem?_eq_some_iff.mp h
    exact hno _ (List.getElem_mem h1) h2
/-- with a field -/
theorem read_some {pre fl W S E : List Int} {f wd pr : Int} (hf1 : 1 ≤ f) (hf : f ≤ 9) (hfl : ∀ c ∈ fl, isFl c) (hW : DecO wd W) (hS : precOf S pr) (hE : EndS E) :
    readP (pre ++ ([48 + f, 36] ++ (fl ++ (W ++ (S ++ E))))) pre.length = endsAs { fl.foldl noteF { freshSV with field := f - 1 } with width := wd, prec := pr } (pre.length + ([48 + f, 36] ++ fl ++ W ++ S).length) E := by
  have h := rest_read (pre := pre ++ [48 + f, 36]) { freshSV with field := f - 1 } rfl rfl hfl hW hS hE
  have e0 : pre ++ [48 + f, 36] ++ (fl ++ (W ++ (S ++ E))) = pre ++ ([48 + f, 36] ++ (fl ++ (W ++ (S ++ E)))) := by simp
  rw [e0] at h
  have e1 : (pre ++ [48 + f, 36]).length = pre.length + 1 + 1 := by simp
  rw [e1] at h
  unfold readP
  rw [drop_at rfl]
  have e2 : numP ([48 + f, 36] ++ (fl ++ (W ++ (S ++ E)))) 0 pre.length = some (f, pre.length + 1) := by
    simp only [List.cons_append, List.nil_append, numP]
    rw [if_pos (by omega), if_neg (by omega), if_neg (by omega)]
    congr 2
    omega
  rw [e2]
  dsimp only
  rw [if_pos ⟨by omega, by rw [get_at rfl _ (i := 1) rfl]; rfl⟩, if_neg (by omega), h]
  congr 1
  simp
  omega
end Mine
end

namespace Mine
theorem flushP3 {M : PySem.Model} {A : PySem.Around} {E : PySem.Value → PySem.Shared → Prop} {s : PySem.Shared} {Q : PySem.Flow → PySem.Shared → Prop} {pos : PySem.Pos} {env : PySem.Env} (h : Q .next s) : PySem.wpAny M A (PySem.exec (PySem.Stmt.Pass pos) env) Q E s := by
  walk1
  exact h
end Mine

-- part P3
section
set_option maxRecDepth 100000
open PySem
namespace Mine
noncomputable def cd (x : Str) : List Int := List.map (fun c : Nat => (c : Int)) x.cps.toList
theorem cd_append (x y : Str) : cd (x ++ y) = cd x ++ cd y := by
  unfold cd
  rw [PySem.Str.cps_append, Array.toList_append, List.map_append]
theorem cd_length (x : Str) : (cd x).length = x.length := by
  unfold cd
  rw [List.length_map]
  rfl
theorem dec_text : ∀ d : Nat, d < 100 → cd (Str.ofString (toString ((d : Nat) : Int))) = if d < 10 then [48 + (d : Int)] else [48 + ((d / 10 : Nat) : Int), 48 + ((d % 10 : Nat) : Int)] := by decide +kernel
theorem dec_is {n : Int} (h0 : 0 ≤ n) (h1 : n < 100) : Dec n (cd (Str.ofString (toString n))) := by
  obtain ⟨d, rfl⟩ := Int.eq_ofNat_of_zero_le h0
  rw [dec_text d (by omega)]
  by_cases h : d < 10
  · rw [if_pos h]
    exact .one _ (by omega) (by omega)
  · rw [if_neg h]
    have e : ((d : Nat) : Int) = 10 * ((d / 10 : Nat) : Int) + ((d % 10 : Nat) : Int) := by omega
    rw [e]
    exact .two _ _ (by omega) (by omega) (by omega) (by omega)
theorem width_is {n : Int} (h0 : 0 ≤ n) (h1 : n < 100) : DecO n (cd (widthT n)) := by
  unfold widthT
  by_cases h : 0 < n
  · rw [if_pos h]
    exact Or.inr ⟨by omega, dec_is h0 h1⟩
  · rw [if_neg h]
    exact Or.inl ⟨by omega, rfl⟩
theorem size_is {n : Int} (h1 : n < 100) : precOf (cd (sizeT n)) (if 0 ≤ n then n else -1) := by
  unfold sizeT
  by_cases h : 0 ≤ n
  · rw [if_pos h, if_pos h, cd_append]
    exact Or.inr ⟨_, rfl, Or.inr (dec_is h h1)⟩
  · rw [if_neg h, if_neg h]
    exact Or.inl ⟨rfl, rfl⟩
theorem field_is {n : Int} (h0 : 0 ≤ n) (h1 : n < 10) : cd (fieldT n) = if 0 < n then [48 + n, 36] else [] := by
  unfold fieldT
  by_cases h : 0 < n
  · rw [if_pos h, if_pos h, cd_append]
    obtain ⟨d, rfl⟩ := Int.eq_ofNat_of_zero_le h0
    rw [dec_text d (by omega), if_pos (by omega)]
    rfl
  · rw [if_neg h, if_neg h]
    rfl
noncomputable def hasF (fl : List Nat) (c : Nat) : Bool := fl.any (· == c)
theorem fold_note : ∀ (fl : List Nat) (v : SV), (List.map (fun c : Nat => (c : Int)) fl).foldl noteF v = { v with left := v.left || hasF fl 45, plus := v.plus || hasF fl 43, blank := v.blank || hasF fl 32, noughts := v.noughts || hasF fl 48, marked := v.marked || hasF fl 35 }
  | [], v => by simp [hasF]
  | c :: r, v => by
    rw [List.map_cons, List.foldl_cons, fold_note r]
    have e : ∀ k : Nat, (((c : Nat) : Int) == (k : Int)) = (c == k) := by
      intro k
      rw [Bool.eq_iff_iff, beq_iff_eq, beq_iff_eq]
      omega
    have e1 := e 45; have e2 := e 43; have e3 := e 32; have e4 := e 48; have e5 := e 35
    simp only [noteF, hasF, List.any_cons, Bool.or_assoc]
    rw [show (45 : Int) = ((45 : Nat) : Int) from rfl, show (43 : Int) = ((43 : Nat) : Int) from rfl, show (32 : Int) = ((32 : Nat) : Int) from rfl, show (48 : Int) = ((48 : Nat) : Int) from rfl, show (35 : Int) = ((35 : Nat) : Int) from rfl, e, e, e, e, e]
noncomputable def FLs : List Nat := [45, 43, 32, 48, 35]
noncomputable def LLs : List Nat := [115, 83, 100, 111, 120, 88, 99, 113]
noncomputable def wordsT (field width size : Int) (fl : List Nat) (lc : Nat) : Str := fieldT field ++ ⟨fl.toArray⟩ ++ widthT width ++ sizeT size ++ ⟨#[lc]⟩
theorem cd_words (field width size : Int) (fl : List Nat) (lc : Nat) : cd (wordsT field width size fl lc) = cd (fieldT field) ++ (List.map (fun c : Nat => (c : Int)) fl ++ (cd (widthT width) ++ (cd (sizeT size) ++ [(lc : Int)]))) := by
  unfold wordsT
  simp only [cd_append, List.append_assoc]
  congr 1
noncomputable def dueSV (field width size : Int) (fl : List Nat) (lc : Nat) : SV := ⟨field - 1, hasF fl 45, hasF fl 43, hasF fl 32, hasF fl 48, hasF fl 35, width, if 0 ≤ size then size else -1, ⟨#[lc]⟩⟩
theorem read_words {field width size : Int} {fl : List Nat} {lc : Nat} {front rest : Str} (hf0 : 0 ≤ field) (hf1 : field < 10) (hw0 : 0 ≤ width) (hw1 : width < 100) (hs1 : size < 100) (hfl : ∀ c ∈ fl, c ∈ FLs) (hlc : lc ∈ LLs) (hrest : ∀ c ∈ cd rest, c ≠ 36) :
    readP (cd (front ++ wordsT field width size fl lc ++ rest)) front.length = some (dueSV field width size fl lc, front.length + (wordsT field width size fl lc).length) := by
  have hLL : ∀ c ∈ LLs, ¬ (48 ≤ ((c : Nat) : Int) ∧ ((c : Nat) : Int) ≤ 57) ∧ ¬ isFl ((c : Nat) : Int) ∧ ((c : Nat) : Int) ≠ 46 ∧ ((c : Nat) : Int) ≠ 36 ∧ chrOf ((c : Nat) : Int) = ⟨#[c]⟩ := by decide
  have hLl := hLL lc hlc
  have hFF : ∀ c ∈ FLs, isFl ((c : Nat) : Int) := by decide
  have hfl' : ∀ c ∈ List.map (fun c : Nat => (c : Int)) fl, isFl c := by
    intro c hc
    obtain ⟨d, hd, rfl⟩ := List.mem_map.mp hc
    exact hFF d (hfl d hd)
  have hE : EndS ((lc : Int) :: cd rest) := by
    intro c hc
    obtain rfl : (lc : Int) = c := Option.some.inj hc
    exact ⟨hLl.1, hLl.2.1, hLl.2.2.1, hLl.2.2.2.1⟩
  have hE2 : ∀ c ∈ ((lc : Int) :: cd rest), c ≠ 36 := by
    intro c hc
    rcases List.mem_cons.mp hc with rfl | hc
    · exact hLl.2.2.2.1
    · exact hrest c hc
  have hW := width_is hw0 hw1
  have hS := size_is hs1
  have hlen : front.length = (cd front).length := (cd_length _).symm
  have hwl : (wordsT field width size fl lc).length = (cd (fieldT field)).length + ((List.map (fun c : Nat => (c : Int)) fl) ++ cd (widthT width) ++ cd (sizeT size)).length + 1 := by
    rw [← cd_length, cd_words]
    simp only [List.length_append, List.length_singleton]
    omega
  rw [hwl, hlen, cd_append, cd_append, cd_words, field_is hf0 hf1]
  by_cases h : 0 < field
  · rw [if_pos h]
    have := read_some (pre := cd front) (f := field) (by omega) (by omega) hfl' hW hS hE
    simp only [List.append_assoc, List.cons_append, List.nil_append] at this ⊢
    rw [this, fold_note]
    simp only [endsAs, hLl.2.2.2.2, dueSV, freshSV, Bool.false_or, Option.some.injEq, Prod.mk.injEq, true_and]
    simp only [List.length_cons, List.length_append, List.length_nil]
    omega
  · rw [if_neg h]
    have := read_none (pre := cd front) hfl' hW hS hE hE2
    simp only [List.append_assoc, List.cons_append, List.nil_append] at this ⊢
    rw [this, fold_note]
    obtain rfl : field = 0 := by omega
    simp only [endsAs, hLl.2.2.2.2, dueSV, freshSV, Bool.false_or, Option.some.injEq, Prod.mk.injEq]
    refine ⟨by rfl, ?_⟩
    simp only [List.length_append, List.length_nil]
    omega
theorem Dec.cut {v : Int} {W : List Int} (h : Dec v W) (i : Nat) : ∃ v', DecO v' (W.take i) ∨ Dec v' (W.take i) := by
  cases h with
  | one d h0 h1 =>
    match i with
    | 0 => exact ⟨0, Or.inl (Or.inl ⟨rfl, rfl⟩)⟩
    | i + 1 => exact ⟨_, Or.inr (by simpa using Dec.one _ h0 h1)⟩
  | two d e h0 h1 h2 h3 =>
    match i with
    | 0 => exact ⟨0, Or.inl (Or.inl ⟨rfl, rfl⟩)⟩
    | 1 => exact ⟨d, Or.inr (Dec.one d (by omega) h1)⟩
    | i + 2 => exact ⟨_, Or.inr (by simpa using Dec.two d e h0 h1 h2 h3)⟩
theorem DecO.cut {v : Int} {W : List Int} (h : DecO v W) (i : Nat) : ∃ v', DecO v' (W.take i) := by
  rcases h with ⟨rfl, rfl⟩ | ⟨h1, h⟩
  · exact ⟨0, Or.inl ⟨rfl, by simp⟩⟩
  · cases h with
    | one d h0 h2 =>
      match i with
      | 0 => exact ⟨0, Or.inl ⟨rfl, rfl⟩⟩
      | i + 1 => exact ⟨_, Or.inr ⟨h1, by simpa using Dec.one _ h0 h2⟩⟩
    | two d e h0 h2 h3 h4 =>
      match i with
      | 0 => exact ⟨0, Or.inl ⟨rfl, rfl⟩⟩
      | 1 => exact ⟨d, Or.inr ⟨h0, Dec.one d (by omega) h2⟩⟩
      | i + 2 => exact ⟨_, Or.inr ⟨h1, by simpa using Dec.two d e h0 h2 h3 h4⟩⟩
theorem prec_cut {S : List Int} {pr : Int} (h : precOf S pr) (i : Nat) : ∃ pr', precOf (S.take i) pr' := by
  rcases h with ⟨rfl, _⟩ | ⟨T, rfl, hT⟩
  · exact ⟨-1, Or.inl ⟨by simp, rfl⟩⟩
  · match i with
    | 0 => exact ⟨-1, Or.inl ⟨rfl, rfl⟩⟩
    | i + 1 =>
      rcases hT with hT | hT
      · obtain ⟨v, hv⟩ := hT.cut i
        exact ⟨v, Or.inr ⟨_, rfl, Or.inl hv⟩⟩
      · obtain ⟨v, hv⟩ := hT.cut i
        exact ⟨v, Or.inr ⟨_, rfl, hv⟩⟩
theorem tail_cut {fl W S E : List Int} {wd pr : Int} (hfl : ∀ c ∈ fl, isFl c) (hW : DecO wd W) (hS : precOf S pr) {j : Nat} (hj : j ≤ (fl ++ (W ++ S)).length) :
    ∃ fl' W' S' wd' pr', (fl ++ (W ++ (S ++ E))).take j = fl' ++ (W' ++ (S' ++ [])) ∧ (∀ c ∈ fl', isFl c) ∧ DecO wd' W' ∧ precOf S' pr' := by
  obtain ⟨wd', hw'⟩ := hW.cut (j - fl.length)
  obtain ⟨pr', hp'⟩ := prec_cut hS (j - fl.length - W.length)
  refine ⟨fl.take j, W.take (j - fl.length), S.take (j - fl.length - W.length), wd', pr', ?_, fun c hc => hfl c (List.mem_of_mem_take hc), hw', hp'⟩
  rw [List.take_append, List.take_append, List.take_append]
  congr 3
  have : j - fl.length - W.length - S.length = 0 := by
    simp only [List.length_append] at hj
    omega
  rw [this, List.take_zero]
theorem read_cut {field width size : Int} {fl : List Nat} {lc : Nat} (hf0 : 0 ≤ field) (hf1 : field < 10) (hw0 : 0 ≤ width) (hw1 : width < 100) (hs1 : size < 100) (hfl : ∀ c ∈ fl, c ∈ FLs) {k : Nat} (hk : k < (wordsT field width size fl lc).length) :
    readP ((cd (wordsT field width size fl lc)).take k) 0 = none := by
  have hFF : ∀ c ∈ FLs, isFl ((c : Nat) : Int) := by decide
  have hfl' : ∀ c ∈ List.map (fun c : Nat => (c : Int)) fl, isFl c := by
    intro c hc
    obtain ⟨d, hd, rfl⟩ := List.mem_map.mp hc
    exact hFF d (hfl d hd)
  have hW := width_is hw0 hw1
  have hS := size_is hs1
  have hE : EndS [] := fun c hc => nomatch hc
  have hE2 : ∀ c ∈ ([] : List Int), c ≠ 36 := fun c hc => nomatch hc
  rw [← cd_length, cd_words] at hk
  rw [cd_words]
  rw [field_is hf0 hf1] at hk ⊢
  by_cases h : 0 < field
  · rw [if_pos h] at hk ⊢
    match k, hk with
    | 0, _ => exact read_none (pre := []) (fl := []) (W := []) (S := []) (E := []) (wd := 0) (pr := -1) (fun c hc => nomatch hc) (Or.inl ⟨rfl, rfl⟩) (Or.inl ⟨rfl, rfl⟩) hE hE2
    | 1, _ => exact read_none (pre := []) (fl := []) (W := [48 + field]) (S := []) (E := []) (wd := field) (pr := -1) (fun c hc => nomatch hc) (Or.inr ⟨by omega, .one _ (by omega) (by omega)⟩) (Or.inl ⟨rfl, rfl⟩) hE hE2
    | j + 2, hk =>
      simp only [List.length_append, List.length_cons, List.length_nil] at hk
      obtain ⟨fl', W', S', wd', pr', e, h1, h2, h3⟩ := tail_cut (E := [(lc : Int)]) hfl' hW hS (j := j) (by simp only [List.length_append]; omega)
      have := read_some (pre := []) (f := field) (by omega) (by omega) h1 h2 h3 hE
      rw [← e] at this
      exact this
  · rw [if_neg h] at hk ⊢
    simp only [List.length_append, List.length_cons, List.length_nil] at hk
    obtain ⟨fl', W', S', wd', pr', e, h1, h2, h3⟩ := tail_cut (E := [(lc : Int)]) hfl' hW hS (j := k) (by simp only [List.length_append]; omega)
    have := read_none (pre := []) h1 h2 h3 hE hE2
    rw [← e] at this
    exact this
theorem read_zero : readP (cd "0$d") 0 = none := by decide +kernel
theorem read_huge : readP (cd "99999d") 0 = none := by decide +kernel
end Mine
end

namespace Mine
theorem flushP4 {M : PySem.Model} {A : PySem.Around} {E : PySem.Value → PySem.Shared → Prop} {s : PySem.Shared} {Q : PySem.Flow → PySem.Shared → Prop} {pos : PySem.Pos} {env : PySem.Env} (h : Q .next s) : PySem.wpAny M A (PySem.exec (PySem.Stmt.Pass pos) env) Q E s := by
  walk1
  exact h
end Mine

-- part P4
section
set_option maxRecDepth 100000
open PySem
namespace Mine
noncomputable def upC (d : Nat) : Nat := if d < 10 then 48 + d else 55 + d
theorem upOf : ∀ d, d < 16 → Unicode.upperOf (lowC d) = [upC d] := by decide +kernel
theorem le_lt {r : Nat} (hr : 2 ≤ r) : ∀ (k n : Nat), n ≤ k → ∀ d ∈ le r n, d < r
  | 0, n, h, d, hd => by
    rw [le_small (by omega)] at hd
    have := List.mem_singleton.mp hd
    omega
  | k + 1, n, h, d, hd => by
    by_cases hn : r ≤ n
    · rw [le_big hr hn] at hd
      rcases List.mem_cons.mp hd with rfl | hd
      · exact Nat.mod_lt _ (by omega)
      · have := Nat.div_lt_self (n := n) (k := r) (by omega) (by omega)
        exact le_lt hr k (n / r) (by omega) d hd
    · rw [le_small (by omega)] at hd
      have := List.mem_singleton.mp hd
      omega
theorem upper_numT {l : List Nat} (h : ∀ d ∈ l, d < 16) : Txt.upper (numT l) = ⟨(l.map upC).toArray⟩ := by
  unfold Txt.upper placed numT
  congr 1
  apply Array.toList_inj.mp
  simp only [Array.toList_flatten, Array.toList_map, List.mapIdx_toArray, List.map_toArray]
  have e : ∀ (l : List Nat), (∀ d ∈ l, d < 16) → List.mapIdx (fun i c => (Unicode.upperOf c).toArray) (List.map lowC l) = List.map (fun d => #[upC d]) l := by
    intro l hl
    apply List.ext_getElem
    · simp
    · intro i h1 h2
      simp only [List.getElem_mapIdx, List.getElem_map]
      rw [upOf _ (hl _ (List.getElem_mem _))]
  rw [e l h]
  simp only [List.map_map]
  clear e h
  induction l with
  | nil => rfl
  | cons a r ih => simpa using ih
theorem cd_of (l : List Nat) : cd ⟨l.toArray⟩ = List.map (fun c : Nat => (c : Int)) l := rfl
theorem codeF_low (d : Nat) : codeF false d = ((lowC d : Nat) : Int) := by
  unfold codeF lowC
  split <;> simp
theorem codeF_up (d : Nat) : codeF true d = ((upC d : Nat) : Int) := by
  unfold codeF upC
  split <;> simp
theorem figs_low {r n k : Nat} (hr : 2 ≤ r) (hn : n < r ^ (k + 1)) (h2 : k = 0 ∨ r ^ k ≤ n) : ((le r n).map (codeF false)).reverse = cd (numT (dw r (k + 1) n)) := by
  rw [dw_le hr k n hn h2]
  unfold numT
  rw [cd_of, List.map_map, List.map_reverse]
  congr 1
  exact List.map_congr_left fun d _ => codeF_low d
theorem dw_lt {r n k : Nat} (hr : 2 ≤ r) (hn : n < r ^ (k + 1)) (h2 : k = 0 ∨ r ^ k ≤ n) : ∀ d ∈ dw r (k + 1) n, d < r := by
  rw [dw_le hr k n hn h2]
  intro d hd
  exact le_lt hr n n (Nat.le_refl _) d (List.mem_reverse.mp hd)
theorem figs_up {n k : Nat} (hn : n < 16 ^ (k + 1)) (h2 : k = 0 ∨ 16 ^ k ≤ n) : ((le 16 n).map (codeF true)).reverse = cd (Txt.upper (numT (dw 16 (k + 1) n))) := by
  rw [upper_numT (dw_lt (by omega) hn h2), dw_le (by omega) k n hn h2]
  rw [cd_of, List.map_map, List.map_reverse]
  congr 1
  exact List.map_congr_left fun d _ => codeF_up d
theorem dw_length (r : Nat) : ∀ k n, (dw r k n).length = k
  | 0, _ => rfl
  | k + 1, n => by rw [dw, List.length_cons, dw_length r k]
theorem numT_length (l : List Nat) : (numT l).length = l.length := by simp [numT, Str.length]
end Mine
end

namespace Mine
theorem flushP5 {M : PySem.Model} {A : PySem.Around} {E : PySem.Value → PySem.Shared → Prop} {s : PySem.Shared} {Q : PySem.Flow → PySem.Shared → Prop} {pos : PySem.Pos} {env : PySem.Env} (h : Q .next s) : PySem.wpAny M A (PySem.exec (PySem.Stmt.Pass pos) env) Q E s := by
  walk1
  exact h
end Mine

-- part P5
section
set_option maxRecDepth 100000
open PySem
namespace Mine
theorem cd_slice {x : Str} {k : Int} (h0 : 0 ≤ k) (h1 : k ≤ x.length) : cd (Txt.slice x none (some k)) = (cd x).take k.toNat := by
  have e : Txt.slice x none (some k) = ⟨((x.cps.toList.drop 0).take (k - 0).toNat).toArray⟩ := StrLaws.sliceText_to ⟨h0, by simpa [Str.length] using h1⟩
  rw [e, cd_of, List.drop_zero, Int.sub_zero, List.map_take]
  rfl
theorem cut_none {field width size k : Int} {fl : List Nat} {lc : Nat} (hf0 : 0 ≤ field) (hf1 : field < 10) (hw0 : 0 ≤ width) (hw1 : width < 100) (hs1 : size < 100) (hfl : ∀ c ∈ fl, c ∈ FLs) (h0 : 0 ≤ k) (h1 : k < (wordsT field width size fl lc).length) :
    readP (cd (Txt.slice (wordsT field width size fl lc) none (some k))) 0 = none := by
  rw [cd_slice h0 (by omega)]
  exact read_cut hf0 hf1 hw0 hw1 hs1 hfl (by omega)
theorem cut_len {x : Str} {k : Int} (h0 : 0 ≤ k) (h1 : k ≤ x.length) : (Txt.slice x none (some k)).length ≤ x.length := by
  rw [← cd_length, cd_slice h0 h1, List.length_take, cd_length]
  omega
end Mine
end

namespace Mine
theorem flushLaw {M : PySem.Model} {A : PySem.Around} {E : PySem.Value → PySem.Shared → Prop} {s : PySem.Shared} {Q : PySem.Flow → PySem.Shared → Prop} {pos : PySem.Pos} {env : PySem.Env} (h : Q .next s) : PySem.wpAny M A (PySem.exec (PySem.Stmt.Pass pos) env) Q E s := by
  walk1
  exact h
end Mine

-- the law
section
open PySem PySem.W PyProof.Rows PySem.Calls
set_option maxRecDepth 100000
namespace Mine
noncomputable def LL : List Nat := [115, 83, 100, 111, 120, 88, 99, 113]
theorem pickAt {prog : Program} {w : World} {A : Around} {E : Value → Shared → Prop} {s : Shared} {x : Str} {k : Int} {t u : Tok} {value slice : PySem.Expr} {Q : Value → Shared → Prop} (cs : List Nat) (h0 : 0 ≤ k) (h1 : k < cs.length) (hcs : cs.length < 100) (hx : ∀ d, d < cs.length → Txt.item x ((d : Nat) : Int) = ⟨#[cs.getD d 0]⟩) (hl : x.length = cs.length) (h : ∀ c t', c ∈ cs → Q (.str ⟨#[c]⟩ t') { s with toks := s.toks + 1 })
    (hs : subscripted slice false (.str x t) (.int k u) = operate [.str x t, .int k u] (getItem (.str x t) (.int k u)) := by with_unfolding_all rfl)
    (ht : ∀ r, letTemporaryGo value (.str x t) r = pure () := by intro _; with_unfolding_all rfl) :
    wpAny (model prog w) A (subscriptTail value slice (.str x t) (.int k u)) Q E s := by
  obtain ⟨d, rfl⟩ := Int.eq_ofNat_of_zero_le h0
  refine item_str (fitsSsize_of (N := 9223372036854775808) (by omega) (by omega) (Int.le_refl _)) (by rw [hl]; omega) (by rw [hl]; omega) (fun _ => ?_) hs ht
  rw [hx d (by omega)]
  refine h _ _ ?_
  have hd : d < cs.length := by omega
  rw [List.getD_eq_getElem?_getD, List.getElem?_eq_getElem hd]
  exact List.getElem_mem hd
theorem viaT {M : Model} {A : Around} {c : Sem Value} {E : Value → Shared → Prop} {s : Shared} {Q : Value → Shared → Prop} (x : Str) (h1 : ∀ Q' : Value → Shared → Prop, (∀ t tk', Q' (.str x t) { s with toks := tk' }) → wpAny M A c Q' E s) (h2 : ∀ t tk', Q (.str x t) { s with toks := tk' }) : wpAny M A c Q E s := h1 Q h2
/-- the lambda of the laps: not yet made, or its code laid in the table -/
noncomputable def TabSt (D L : Addr) (ps : Array Value) (ext : List (Addr × Obj)) : Prop :=
  (ps = #[] ∧ ext = []) ∨ ∃ c' oc vs t, ps = #[] ++ #[rawInt 118, rawInt 0, .ref c'] ∧ ext = [(c', oc)] ∧ oc.data = .fields vs ∧ vs[1]? = some (.str "law.<locals>.<lambda>" t) ∧ D < c' ∧ L + 1 + 1 < c'
noncomputable def LapJ (L D : Addr) (deckc : Obj) (nx : List (Addr × Obj)) : Prop :=
  ∃ ysv ns n' cutc ps ext, nx = (D, listOf (List.toArray ysv) n') :: (L + 1 + 1, cutc) :: (L + 1, deckc) :: (123, tabObj ps) :: ext ∧ IntsAre ysv ns ∧ (∀ x ∈ ns, 0 ≤ x ∧ x < 10 ^ 30) ∧ ns.length ≤ 63 ∧ (∃ v, cutc.data = .cell v) ∧ TabSt D L ps ext
noncomputable def FL : List Nat := [45, 43, 32, 48, 35]
theorem flagAt {prog : Program} {w : World} {A : Around} {E : Value → Shared → Prop} {s : Shared} {x : Str} {k : Int} {t u : Tok} {value slice : PySem.Expr} {Q : Value → Shared → Prop} (h0 : 0 ≤ k) (h1 : k < 5) (hx : ∀ d, d < 5 → Txt.item x ((d : Nat) : Int) = ⟨#[FL.getD d 0]⟩) (hl : x.length = 5) (h : ∀ c t', c ∈ FL → Q (.str ⟨#[c]⟩ t') { s with toks := s.toks + 1 })
    (hs : subscripted slice false (.str x t) (.int k u) = operate [.str x t, .int k u] (getItem (.str x t) (.int k u)) := by with_unfolding_all rfl)
    (ht : ∀ r, letTemporaryGo value (.str x t) r = pure () := by intro _; with_unfolding_all rfl) :
    wpAny (model prog w) A (subscriptTail value slice (.str x t) (.int k u)) Q E s := by
  obtain ⟨d, rfl⟩ := Int.eq_ofNat_of_zero_le h0
  refine item_str (fitsSsize_of (N := 9223372036854775808) (by omega) (by omega) (Int.le_refl _)) (by rw [hl]; omega) (by rw [hl]; omega) (fun _ => ?_) hs ht
  rw [hx d (by omega)]
  refine h _ _ ?_
  have h5 : d = 0 ∨ d = 1 ∨ d = 2 ∨ d = 3 ∨ d = 4 := by omega
  rcases h5 with rfl | rfl | rfl | rfl | rfl <;> decide
theorem mem3 {α : Type} {a b c p : α} {r : List α} (h : p ∈ c :: a :: b :: r) : p ∈ a :: b :: c :: r := by
  rcases List.mem_cons.mp h with rfl | h
  · exact .tail _ (.tail _ (.head _))
  · rcases List.mem_cons.mp h with rfl | h
    · exact .head _
    · rcases List.mem_cons.mp h with rfl | h
      · exact .tail _ (.head _)
      · exact .tail _ (.tail _ (.tail _ h))
theorem deckPos (l : List Int) : ∀ x ∈ List.map (fun k' : Int => (if k' < 0 then -k' else k').fmod (10 ^ Int.toNat 30)) l, 0 ≤ x ∧ x < 10 ^ 30 := by
  intro x hx
  obtain ⟨k, _, rfl⟩ := List.mem_map.mp hx
  have e : (10 : Int) ^ Int.toNat 30 = 10 ^ 30 := rfl
  rw [e, Int.fmod_eq_emod_of_nonneg _ (by decide)]
  exact ⟨Int.emod_nonneg _ (by decide), Int.emod_lt_of_pos _ (by decide)⟩
theorem deckLen {f : Int → Int} (l : List Int) : (List.map f (List.take 16 l)).length ≤ 63 := by
  rw [List.length_map, List.length_take]
  omega
theorem extGt {D L : Addr} {ps : Array Value} {ext : List (Addr × Obj)} (h : TabSt D L ps ext) : ∀ p ∈ ext, D < p.1 ∧ L + 1 + 1 < p.1 := by
  rcases h with ⟨_, rfl⟩ | ⟨c', oc, vs, t, _, rfl, _, _, h⟩
  · intro p hp; cases hp
  · intro p hp; rw [List.mem_singleton.mp hp]; exact h
theorem restAt {prog : Program} {w : World} {A : Around} {E : Value → Shared → Prop} {s : Shared} {h₀ : Heap} {L D : Addr} {news : List (Addr × Obj)} {vs : List Value} {n : Nat} {k : Int} {u : Tok} {value slice : PySem.Expr} {Q : Value → Shared → Prop} (N : News h₀ L s.heap news) (hm : (D, listOf vs.toArray n) ∈ news) (h0 : 0 ≤ k) (h1 : k < vs.length) (hl : vs.length < 1000) (h : ∀ v, v ∈ vs → Q v s)
    (hs : subscripted slice false (.ref D) (.int k u) = operate [.ref D, .int k u] (getItem (.ref D) (.int k u)) := by with_unfolding_all rfl) :
    wpAny (model prog w) A (subscriptTail value slice (.ref D) (.int k u)) Q E s := by
  have hk : k.toNat < vs.length := by omega
  exact tail_any (PySem.IsL.isList (n := n) (N _ hm).1).typeIs slot_list_getitem.lookup (wpAny_getItem_list (PySem.IsL.isList (n := n) (N _ hm).1) h0 (by omega) (by simpa using List.getElem?_eq_getElem hk) (h _ (List.getElem_mem hk))) hs
theorem sliceLen {k : Int} (h0 : 0 ≤ k) (h1 : k < 3) : (Txt.slice "x%" none (some k)).length ≤ 2 := by
  have : k = 0 ∨ k = 1 ∨ k = 2 := by omega
  rcases this with rfl | rfl | rfl <;> decide +kernel
theorem restIs {v : Value} {a b c : Tok} (h : v ∈ [Value.str "" a, Value.str "5" b, Value.str "d" c]) : ∃ x t, v = .str x t ∧ (∀ c ∈ cd x, c ≠ 36) ∧ x.length ≤ 1 := by
  rcases List.mem_cons.mp h with rfl | h
  · exact ⟨_, _, rfl, by decide, by decide⟩
  · rcases List.mem_cons.mp h with rfl | h
    · exact ⟨_, _, rfl, by decide, by decide⟩
    · rcases List.mem_cons.mp h with rfl | h
      · exact ⟨_, _, rfl, by decide, by decide⟩
      · cases h
theorem inFl {prog : Program} {w : World} {A : Around} {E : Value → Shared → Prop} {s : Shared} {Q : Value → Shared → Prop} {fl : List Nat} {y : Str} {t u : Tok} (c : Nat) (hy : y = ⟨#[c]⟩) (h : Q (.bool (hasF fl c)) s) : wpAny (model prog w) A (compareOp .In (.str y u) (.str ⟨fl.toArray⟩ t)) Q E s := by
  subst hy
  refine PySem.P.in_str ?_
  have e : (!(Builtin.Str.occurrences ⟨fl.toArray⟩ ⟨#[c]⟩ 0 (Str.length ⟨fl.toArray⟩) 1).isEmpty) = hasF fl c := by
    rw [PySem.StrLaws.found_one, hasF, Bool.eq_iff_iff, decide_eq_true_eq, List.any_eq_true]
    simp
  rw [e]
  exact h
theorem eqvAll_refl : ∀ ds : List PyData, (∀ d ∈ ds, PyData.eqv d d = true) → PyData.eqvAll ds ds = true
  | [], _ => by simp [PyData.eqvAll]
  | d :: r, h => by
    simp only [PyData.eqvAll, Bool.and_eq_true]
    exact ⟨h d (.head _), eqvAll_refl r fun x hx => h x (.tail _ hx)⟩
theorem neSame {prog : Program} {w : World} {A : Around} {E : Value → Shared → Prop} {s : Shared} {Q : Value → Shared → Prop} {a b : Value} {ds es : List PyData} {as bs : List Addr} (ra : Reads s.heap a (.list ds) as) (rb : Reads s.heap b (.list es) bs) (e : ds = es) (ha : SeqAt.shaped (.list ds) = true) (hr : ∀ d ∈ ds, PyData.eqv d d = true) (hu : A.units + 64 < cLine) (h : Q (.bool false) s) : wpAny (model prog w) A (compareOp .NotEq a b) Q E s := by
  subst e
  refine ne_dataH ra rb ha ha hu ?_
  have e2 : PyData.eqv (.list ds) (.list ds) = true := by
    simp only [PyData.eqv]
    exact eqvAll_refl ds hr
  rw [e2]
  exact h
theorem mxSame (z : Int) : (if -1 > z then -1 else z) = (if 0 ≤ z then z else -1) := by split <;> split <;> omega
theorem sh1 (a : Int) (b1 b2 b3 b4 b5 : Bool) : SeqAt.shaped (.list [.int a, .bool b1, .bool b2, .bool b3, .bool b4, .bool b5]) = true := by
  simp [SeqAt.shaped, PyData.canLay0, PyData.canLayAll0, PyData.depth, PyData.depthAll]
theorem eqr1 (a : Int) (b1 b2 b3 b4 b5 : Bool) : ∀ d ∈ [PyData.int a, .bool b1, .bool b2, .bool b3, .bool b4, .bool b5], PyData.eqv d d = true := by
  intro d hd
  simp only [List.mem_cons, List.not_mem_nil, or_false] at hd
  rcases hd with rfl | rfl | rfl | rfl | rfl | rfl <;> simp [PyData.eqv]
theorem sh2 (a b : Int) {lc : Nat} (h : lc ∈ LLs) : SeqAt.shaped (.list [.int a, .int b, .str ⟨#[lc]⟩]) = true := by
  simp [SeqAt.shaped, PyData.canLay0, PyData.canLayAll0, PyData.depth, PyData.depthAll]
  revert lc
  decide +kernel
theorem eqr2 (a b : Int) (x : Str) : ∀ d ∈ [PyData.int a, .int b, .str x], PyData.eqv d d = true := by
  intro d hd
  simp only [List.mem_cons, List.not_mem_nil, or_false] at hd
  rcases hd with rfl | rfl | rfl <;> simp [PyData.eqv]
theorem occFl (fl : List Nat) (y : Str) (c : Nat) (hy : y = ⟨#[c]⟩) : (!(Builtin.Str.occurrences ⟨fl.toArray⟩ y 0 (Str.length ⟨fl.toArray⟩) 1).isEmpty) = hasF fl c := by
  subst hy
  rw [PySem.StrLaws.found_one, hasF, Bool.eq_iff_iff, decide_eq_true_eq, List.any_eq_true]
  simp
theorem neInts {prog : Program} {w : World} {A : Around} {E : Value → Shared → Prop} {s : Shared} {h₀ : Heap} {L a b : Addr} {news : List (Addr × Obj)} {n n' : Nat} {vs us : List Value} {ns ms : List Int} {Q : Value → Shared → Prop} (N : News h₀ L s.heap news) (ha : (a, listOf vs.toArray n) ∈ news) (hi : IntsAre vs ns) (hb : (b, listOf us.toArray n') ∈ news) (hi' : IntsAre us ms) (e : ns = ms) (hu : A.units + 64 < cLine)
    (h : Q (.bool false) s) : wpAny (model prog w) A (compareOp .NotEq (.ref a) (.ref b)) Q E s := by
  subst e
  refine ne_intsK (PySem.IsL.isList (n := n) (N _ ha).1) hi (PySem.IsL.isList (n := n') (N _ hb).1) hi' hu ?_
  rw [decide_eq_true rfl]
  exact h

noncomputable def dueT (x : Str) (d : Str) : Str := if x = Str.ofString "X" then Txt.upper d else d
theorem dueT_eq {x : Str} {r n k : Nat} (hl : x = Str.ofString "d" ∧ r = 10 ∨ x = Str.ofString "o" ∧ r = 8 ∨ x = Str.ofString "x" ∧ r = 16 ∨ x = Str.ofString "X" ∧ r = 16) (hn : n < r ^ (k + 1)) (h2 : k = 0 ∨ r ^ k ≤ n) :
    ((le r n).map (codeF (decide (x = Str.ofString "X")))).reverse = cd (dueT x (numT (dw r (k + 1) n))) := by
  have e1 : ¬ (Str.ofString "d" = Str.ofString "X") := by decide
  have e2 : ¬ (Str.ofString "o" = Str.ofString "X") := by decide
  have e3 : ¬ (Str.ofString "x" = Str.ofString "X") := by decide
  rcases hl with ⟨rfl, rfl⟩ | ⟨rfl, rfl⟩ | ⟨rfl, rfl⟩ | ⟨rfl, rfl⟩
  · rw [dueT, if_neg e1, decide_eq_false e1]; exact figs_low (by omega) hn h2
  · rw [dueT, if_neg e2, decide_eq_false e2]; exact figs_low (by omega) hn h2
  · rw [dueT, if_neg e3, decide_eq_false e3]; exact figs_low (by omega) hn h2
  · rw [dueT, if_pos rfl, decide_eq_true rfl]; exact figs_up hn h2
theorem dueT_len {x d : Str} (h : d.length ≤ 60) : (dueT x d).length ≤ 180 := by
  unfold dueT
  split
  · have := PyProof.Rows.len_upper d
    omega
  · omega
theorem wordsT_pos (field width size : Int) (fl : List Nat) (lc : Nat) : 1 ≤ (wordsT field width size fl lc).length := by
  unfold wordsT
  rw [Str.length_append]
  exact Nat.le_add_left 1 _
theorem perm7 {h₀ h : Heap} {L : Addr} {a b c d e f g : Addr × Obj} (N : News h₀ L h [a, b, c, d, e, f, g]) : News h₀ L h [a, g, f, b, c, d, e] := by
  intro p hp
  simp only [List.mem_cons, List.not_mem_nil, or_false] at hp
  rcases hp with rfl | rfl | rfl | rfl | rfl | rfl | rfl <;> exact N _ (by simp)
theorem viaLam {M : Model} {A : Around} {E : Value → Shared → Prop} {s : Shared} {Q : Value → Shared → Prop} {params : Arguments} {body : PySem.Expr} {scope : Scope} {pos : Pos} {env : Env} (P : Arguments → PySem.Expr → Scope → Str → (Value → Shared → Prop) → Prop)
    (h1 : ∀ Q', P params body scope (env.qual ++ "<lambda>") Q' → wpAny M A (eval (.Lambda params body scope pos) env) Q' E s) (h2 : P params body scope (env.qual ++ "<lambda>") Q) : wpAny M A (eval (.Lambda params body scope pos) env) Q E s := h1 Q h2
theorem perm7b {h₀ h : Heap} {L : Addr} {a b c d e f g : Addr × Obj} (N : News h₀ L h [a, b, c, d, e, f, g]) : News h₀ L h [f, e, d, g, c, b] := by
  intro p hp
  simp only [List.mem_cons, List.not_mem_nil, or_false] at hp
  rcases hp with rfl | rfl | rfl | rfl | rfl | rfl <;> exact N _ (by simp)
theorem swap3 {h₀ h : Heap} {L : Addr} {a b c : Addr × Obj} {r : List (Addr × Obj)} (N : News h₀ L h (a :: b :: c :: r)) : News h₀ L h (c :: a :: b :: r) := by
  intro p hp
  rcases List.mem_cons.mp hp with rfl | hp
  · exact N _ (.tail _ (.tail _ (.head _)))
  · rcases List.mem_cons.mp hp with rfl | hp
    · exact N _ (.head _)
    · rcases List.mem_cons.mp hp with rfl | hp
      · exact N _ (.tail _ (.head _))
      · exact N _ (.tail _ (.tail _ (.tail _ hp)))
local macro_rules | `(tactic| walk_at "binaryOp Add str str") => `(tactic| (k_here; refine P.add_str ?_ ?z; (case z => (first | (simp only [Str.length_append, sizeLine_eq] at *; omega) | size_fits)); intro _ _; try dsimp only))
set_option maxHeartbeats 0 in
theorem lawHolds : PySem.Challenge.rw_ok0043_01.Holds := Mine.hd (by
  k_go0
  all_goals (try k_fold)
  generalize hg0 : ghostOf _ _ = g0 at *
  (rename Shared => s1)
  (rename Fr _ _ _ _ => F0); (rename News _ _ _ _ => N0); (rename IntsAre _ _ => hIn); (rename Heap.IsList g0 _ _ => hLs); (rename Below callerA _ _ _ => B0); (rename Top _ _ _ _ _ g0 => T0); (rename Frag.In _ g0 => X0)
  have F1 := frOv F0 [("script", .ref _)] (by intro p hp; simp only [List.mem_cons, List.not_mem_nil, or_false] at hp; subst hp; rfl)
  clear F0
  obtain ⟨m0, F0⟩ : ∃ m0 : Str → Option Value, Fr _ _ _ (kstB m0 [("script", .ref _)]) := ⟨_, F1⟩
  clear F1
  dsimp only [kstB] at F0
  with_reducible show wpAny _ _ _ _ _ _
  k_fold
  refine wpAny_execs_cons ?_
  (repeat' (first | (k_unfold; (try dsimp only)) | ((fail_if_success (with_reducible show wpAny _ _ (PySem.call (Value.ref 102) _ _) _ _ _)); (fail_if_success (with_reducible show wpAny _ _ (PySem.call (Value.ref 76) _ _) _ _ _)); (fail_if_success (with_reducible show wpAny _ _ (PySem.call (Value.ref 83) _ _) _ _ _)); (fail_if_success (with_reducible show wpAny _ _ (PySem.call (Value.ref 90) _ _) _ _ _)); (fail_if_success (with_reducible show wpAny _ _ (PySem.call (Value.ref 109) _ _) _ _ _)); (fail_if_success (with_reducible show wpAny _ _ (PySem.call (Value.ref 114) _ _) _ _ _)); (fail_if_success (with_reducible show wpAny _ _ (PySem.call (Value.ref 121) _ _) _ _ _)); (fail_if_success (with_reducible show wpAny _ _ (PySem.exec (PySem.Stmt.For _ _ _ _ _) _) _ _ _)); (fail_if_success (with_reducible show wpAny _ _ (PySem.pyIter (Value.ref _)) _ _ _)); (fail_if_success (with_reducible show wpAny _ _ (PySem.eval (PySem.Expr.IfExp _ _ _ _) _) _ _ _)); (fail_if_success (with_reducible show wpAny _ _ (PySem.call (Value.builtin "str.join") _ _) _ _ _)); (fail_if_success (with_reducible show wpAny _ _ (PySem.call (Value.type "range") _ _) _ _ _)); (fail_if_success (with_reducible show wpAny _ _ (subscriptTail _ _ (Value.str _ _) (Value.int _ _)) _ _ _)); first | (walk1 <;> (try dsimp only)) | (dsimp only; walk1) | (dsimp only; k_unfold; (try dsimp only))) | fail "no step"))
  (rename Fr g0 _ _ _ => F2); (rename News g0 _ _ _ => N2); (rename _ = Data.cell (some _) => hdc)
  (rename IntsAre _ (List.map _ (List.take 16 _)) => hI8)
  have h123 : 123 < s1.heap.objs.size := Heap.lt_size (hT8 123 (.head _))
  refine Classical.byContradiction fun hng => ?_
  obtain ⟨D, ysv, n', cutc, deckc, N3, hdc3, hcut, hDL, ns0, hiy0, hpos0, hlen0⟩ : ∃ D ysv n' cutc deckc, News g0 s1.heap.objs.size _ [(D, listOf (List.toArray ysv) n'), (s1.heap.objs.size + 1 + 1, cutc), (s1.heap.objs.size + 1, deckc), (123, tabObj #[])] ∧ deckc.data = .cell (some (.ref D)) ∧ (∃ v, cutc.data = .cell v) ∧ (s1.heap.objs.size + 1 + 1 ≠ D ∧ s1.heap.objs.size + 1 ≠ D ∧ 123 ≠ D) ∧ ∃ ns, IntsAre ysv ns ∧ (∀ x ∈ ns, 0 ≤ x ∧ x < 10 ^ 30) ∧ ns.length ≤ 63 := ⟨_, _, _, _, _, newsBeh N2, hdc, ⟨_, by assumption⟩, And.right (by assumption), _, hI8, deckPos _, deckLen _⟩
  refine hng ?_
  clear hng
  with_reducible refine For_invV g0 ?hxL1 ?hpL1 ?_ ?hsL1 ?hEL1
  case hxL1 => exact rfl
  case hpL1 => exact rfl
  case hsL1 => exact fun _ => rfl
  case hEL1 => passes_own
  (repeat' (first | (k_unfold; (try dsimp only)) | ((fail_if_success (with_reducible show wpAny _ _ (PySem.call (Value.ref 102) _ _) _ _ _)); (fail_if_success (with_reducible show wpAny _ _ (PySem.call (Value.ref 76) _ _) _ _ _)); (fail_if_success (with_reducible show wpAny _ _ (PySem.call (Value.ref 83) _ _) _ _ _)); (fail_if_success (with_reducible show wpAny _ _ (PySem.call (Value.ref 90) _ _) _ _ _)); (fail_if_success (with_reducible show wpAny _ _ (PySem.call (Value.ref 109) _ _) _ _ _)); (fail_if_success (with_reducible show wpAny _ _ (PySem.call (Value.ref 114) _ _) _ _ _)); (fail_if_success (with_reducible show wpAny _ _ (PySem.call (Value.ref 121) _ _) _ _ _)); (fail_if_success (with_reducible show wpAny _ _ (PySem.exec (PySem.Stmt.For _ _ _ _ _) _) _ _ _)); (fail_if_success (with_reducible show wpAny _ _ (PySem.pyIter (Value.ref _)) _ _ _)); (fail_if_success (with_reducible show wpAny _ _ (PySem.eval (PySem.Expr.IfExp _ _ _ _) _) _ _ _)); (fail_if_success (with_reducible show wpAny _ _ (PySem.call (Value.builtin "str.join") _ _) _ _ _)); (fail_if_success (with_reducible show wpAny _ _ (PySem.call (Value.type "range") _ _) _ _ _)); (fail_if_success (with_reducible show wpAny _ _ (subscriptTail _ _ (Value.str _ _) (Value.int _ _)) _ _ _)); first | (walk1 <;> (try dsimp only)) | (dsimp only; walk1) | (dsimp only; k_unfold; (try dsimp only))) | fail "no step"))
  (rename Fr g0 _ _ _ => F4)
  refine' rangeCall (s := ⟨_, _, _, _, _⟩) F4 N3 ?_
  intro r0 tr0 ur0 h4 tk4 F4 N4 hR
  refine rangeG (n := 3) (fun _ _ nx => LapJ s1.heap.objs.size D deckc nx) ?hhL1 hR ?smL1 ?szL1 F4 N4 ?iniL1 ?turnL1 ?finL1
  case hhL1 => exact rfl
  case smL1 => decide
  case szL1 => decide
  case iniL1 => exact ⟨ysv, ns0, n', cutc, #[], [], rfl, hiy0, hpos0, hlen0, hcut, Or.inl ⟨rfl, rfl⟩⟩
  case finL1 =>
    clear F4 N4 hR
    intro m9 nx h9 tk9 hJ
    refine Classical.byContradiction fun hng => ?_
    obtain ⟨ysv, ns, n9, cutc9, ps, ext, rfl, hiy, hpos, hlen, ⟨cv, hcv⟩, htab⟩ := hJ
    refine hng ?_
    clear hng
    intro F9 N9
    replace F9 : Fr g0 s1.heap.objs.size h9 m9 := F9
    replace N9 : News g0 s1.heap.objs.size h9 _ := N9
    dsimp only
    have hD123 : ∀ p ∈ (D, listOf ysv.toArray n9) :: (s1.heap.objs.size + 1 + 1, cutc9) :: (s1.heap.objs.size + 1, deckc) :: ext, p.1 ≠ 123 := by
      intro p hp
      rcases List.mem_cons.mp hp with rfl | hp
      · exact fun q => hDL.2.2 q.symm
      · rcases List.mem_cons.mp hp with rfl | hp
        · exact Nat.ne_of_gt (Nat.lt_trans h123 (Nat.lt_trans (Nat.lt_succ_self _) (Nat.lt_succ_self _)))
        · rcases List.mem_cons.mp hp with rfl | hp
          · exact Nat.ne_of_gt (Nat.lt_trans h123 (Nat.lt_succ_self _))
          · exact Nat.ne_of_gt (Nat.lt_trans h123 (Nat.lt_trans (Nat.lt_succ_self _) (Nat.lt_trans (Nat.lt_succ_self _) (extGt htab p hp).2)))
    replace N9 : News g0 s1.heap.objs.size h9 ((123, tabObj ps) :: (D, listOf ysv.toArray n9) :: (s1.heap.objs.size + 1 + 1, cutc9) :: (s1.heap.objs.size + 1, deckc) :: ext) := fun p hp => N9 p (by
      rcases List.mem_cons.mp hp with rfl | hp
      · exact .tail _ (.tail _ (.tail _ (.head _)))
      · rcases List.mem_cons.mp hp with rfl | hp
        · exact .head _
        · rcases List.mem_cons.mp hp with rfl | hp
          · exact .tail _ (.head _)
          · rcases List.mem_cons.mp hp with rfl | hp
            · exact .tail _ (.tail _ (.head _))
            · exact .tail _ (.tail _ (.tail _ (.tail _ hp))))
    generalize (D, listOf ysv.toArray n9) :: (s1.heap.objs.size + 1 + 1, cutc9) :: (s1.heap.objs.size + 1, deckc) :: ext = NR at *
    (repeat' (first | (k_unfold; (try dsimp only)) | ((fail_if_success (with_reducible show wpAny _ _ (PySem.call (Value.ref 102) _ _) _ _ _)); (fail_if_success (with_reducible show wpAny _ _ (PySem.call (Value.ref 76) _ _) _ _ _)); (fail_if_success (with_reducible show wpAny _ _ (PySem.call (Value.ref 83) _ _) _ _ _)); (fail_if_success (with_reducible show wpAny _ _ (PySem.call (Value.ref 90) _ _) _ _ _)); (fail_if_success (with_reducible show wpAny _ _ (PySem.call (Value.ref 109) _ _) _ _ _)); (fail_if_success (with_reducible show wpAny _ _ (PySem.call (Value.ref 114) _ _) _ _ _)); (fail_if_success (with_reducible show wpAny _ _ (PySem.call (Value.ref 121) _ _) _ _ _)); (fail_if_success (with_reducible show wpAny _ _ (PySem.exec (PySem.Stmt.For _ _ _ _ _) _) _ _ _)); (fail_if_success (with_reducible show wpAny _ _ (PySem.pyIter (Value.ref _)) _ _ _)); (fail_if_success (with_reducible show wpAny _ _ (PySem.eval (PySem.Expr.IfExp _ _ _ _) _) _ _ _)); (fail_if_success (with_reducible show wpAny _ _ (PySem.call (Value.builtin "str.join") _ _) _ _ _)); (fail_if_success (with_reducible show wpAny _ _ (PySem.call (Value.type "range") _ _) _ _ _)); (fail_if_success (with_reducible show wpAny _ _ (subscriptTail _ _ (Value.str _ _) (Value.int _ _)) _ _ _)); (fail_if_success (with_reducible show wpAny _ _ (compareOp CmpOp.NotEq (Value.ref _) (Value.ref _)) _ _ _)); (fail_if_success (with_reducible show wpAny _ _ (PySem.exec (PySem.Stmt.If _ _ _ _) _) _ _ _)); (fail_if_success (with_reducible show wpAny _ _ (PySem.eval (PySem.Expr.Lambda _ _ _ _) _) _ _ _)); first | (walk1 <;> (try dsimp only)) | (dsimp only; walk1) | (dsimp only; k_unfold; (try dsimp only))) | fail "no step"))
    k_dflt (refine' kla_eval ?d080L10 ?_; (case d080L10 => exact rfl))
    k_dflt (refine' kla_nest F9 N9 T0 ?C80L10 ?cd80L10 (UpdF.head hD123) ?t80L10 ?n80L10 ?cl80L10 ?_; (case cd80L10 => exact rfl); (case C80L10 => kn_code); (case t80L10 => rcases htab with ⟨rfl, _⟩ | ⟨_, _, _, _, rfl, _⟩ <;> kn_triples); (case n80L10 => rcases htab with ⟨rfl, _⟩ | ⟨_, _, _, _, rfl, _⟩ <;> kn_among); (case cl80L10 => exact rfl))
    clear F9 N9
    intro lf80 c80 oc80 vs80 t80 ctv80 hh80 tk80 F9 N9 hoc80 hvs80 hcl80 hcl81
    (try dsimp only at N9)
    (try dsimp only)
    (repeat' (first | (k_unfold; (try dsimp only)) | ((fail_if_success (with_reducible show wpAny _ _ (PySem.call (Value.ref 102) _ _) _ _ _)); (fail_if_success (with_reducible show wpAny _ _ (PySem.call (Value.ref 76) _ _) _ _ _)); (fail_if_success (with_reducible show wpAny _ _ (PySem.call (Value.ref 83) _ _) _ _ _)); (fail_if_success (with_reducible show wpAny _ _ (PySem.call (Value.ref 90) _ _) _ _ _)); (fail_if_success (with_reducible show wpAny _ _ (PySem.call (Value.ref 109) _ _) _ _ _)); (fail_if_success (with_reducible show wpAny _ _ (PySem.call (Value.ref 114) _ _) _ _ _)); (fail_if_success (with_reducible show wpAny _ _ (PySem.call (Value.ref 121) _ _) _ _ _)); (fail_if_success (with_reducible show wpAny _ _ (PySem.exec (PySem.Stmt.For _ _ _ _ _) _) _ _ _)); (fail_if_success (with_reducible show wpAny _ _ (PySem.pyIter (Value.ref _)) _ _ _)); (fail_if_success (with_reducible show wpAny _ _ (PySem.eval (PySem.Expr.IfExp _ _ _ _) _) _ _ _)); (fail_if_success (with_reducible show wpAny _ _ (PySem.call (Value.builtin "str.join") _ _) _ _ _)); (fail_if_success (with_reducible show wpAny _ _ (PySem.call (Value.type "range") _ _) _ _ _)); (fail_if_success (with_reducible show wpAny _ _ (subscriptTail _ _ (Value.str _ _) (Value.int _ _)) _ _ _)); (fail_if_success (with_reducible show wpAny _ _ (compareOp CmpOp.NotEq (Value.ref _) (Value.ref _)) _ _ _)); (fail_if_success (with_reducible show wpAny _ _ (PySem.exec (PySem.Stmt.If _ _ _ _) _) _ _ _)); (fail_if_success (with_reducible show wpAny _ _ (PySem.eval (PySem.Expr.Lambda _ _ _ _) _) _ _ _)); first | (walk1 <;> (try dsimp only)) | (dsimp only; walk1) | (dsimp only; k_unfold; (try dsimp only))) | fail "no step"))
    refine' refused1 (s := ⟨_, _, _, _, _⟩) (lam := lf80) (List.Mem.head _) B0 F9 X0 N9 T0 ?hk81L10 ?dp81L10 ?un81L10 ?deed81L10 ?_
    (case hk81L10 => exact rfl)
    (case dp81L10 => k_room)
    (case un81L10 => units_room)
    case deed81L10 =>
      clear B0 F9 N9
      intro dp' un' gd' cn' cs' L' a' ccd' A' g' m' s' Q' E' Bd Fd Xd Nd Td hkd hdpd hund hEd
      refine wpAny_call ?_
      refine' kla_code Bd Fd Xd Nd Td ?kAz80L10 ?kFz80L10 ?kKz80L10 (List.Mem.head _) ?k7z80L10 ?k8z80L10 ?k9z80L10 ?kBz80L10 ?_ ?c2z80L10 ?c3z80L10 ?c4z80L10 ?c5z80L10
      (case kAz80L10 => exact rfl)
      (case kFz80L10 => exact rfl)
      (case kKz80L10 => exact hkd)
      (case k7z80L10 => exact codeRec_news Nd (.tail _ (.head _)) hoc80 hvs80)
      (case k8z80L10 => k_room)
      (case k9z80L10 => exact rfl)
      (case kBz80L10 => exact locs rfl)
      (case c2z80L10 => exact rfl)
      (case c3z80L10 => exact rfl)
      (case c4z80L10 => exact rfl)
      (case c5z80L10 => decide)
      intro g2 L2 h2 FG2 F2 N2 B2 X2 T2
      dsimp only
      (try k_fold)
      clear Bd Fd Xd Nd Td
      obtain ⟨mm2, F2'⟩ : ∃ mm2, Fr g2 L2 h2 mm2 := ⟨_, F2⟩
      clear F2
      generalize s'.toks + (List.length _) = tk70
      (repeat' (first | (k_unfold; (try dsimp only)) | ((fail_if_success (with_reducible show wpAny _ _ (PySem.call (Value.ref 102) _ _) _ _ _)); (fail_if_success (with_reducible show wpAny _ _ (PySem.call (Value.ref 76) _ _) _ _ _)); (fail_if_success (with_reducible show wpAny _ _ (PySem.call (Value.ref 83) _ _) _ _ _)); (fail_if_success (with_reducible show wpAny _ _ (PySem.call (Value.ref 90) _ _) _ _ _)); (fail_if_success (with_reducible show wpAny _ _ (PySem.call (Value.ref 109) _ _) _ _ _)); (fail_if_success (with_reducible show wpAny _ _ (PySem.call (Value.ref 114) _ _) _ _ _)); (fail_if_success (with_reducible show wpAny _ _ (PySem.call (Value.ref 121) _ _) _ _ _)); (fail_if_success (with_reducible show wpAny _ _ (PySem.exec (PySem.Stmt.For _ _ _ _ _) _) _ _ _)); (fail_if_success (with_reducible show wpAny _ _ (PySem.pyIter (Value.ref _)) _ _ _)); (fail_if_success (with_reducible show wpAny _ _ (PySem.eval (PySem.Expr.IfExp _ _ _ _) _) _ _ _)); (fail_if_success (with_reducible show wpAny _ _ (PySem.call (Value.builtin "str.join") _ _) _ _ _)); (fail_if_success (with_reducible show wpAny _ _ (PySem.call (Value.type "range") _ _) _ _ _)); (fail_if_success (with_reducible show wpAny _ _ (subscriptTail _ _ (Value.str _ _) (Value.int _ _)) _ _ _)); (fail_if_success (with_reducible show wpAny _ _ (compareOp CmpOp.NotEq (Value.ref _) (Value.ref _)) _ _ _)); (fail_if_success (with_reducible show wpAny _ _ (PySem.exec (PySem.Stmt.If _ _ _ _) _) _ _ _)); (fail_if_success (with_reducible show wpAny _ _ (PySem.eval (PySem.Expr.Lambda _ _ _ _) _) _ _ _)); first | (walk1 <;> (try dsimp only)) | (dsimp only; walk1) | (dsimp only; k_unfold; (try dsimp only))) | fail "no step"))
      refine' codes1 (s := ⟨_, _, _, _, _⟩) B2 F2' X2 N2 T2 ?hk72z80L10 ?hl72z80L10 ?dp72z80L10 ?un72z80L10 ?_
      (case hk72z80L10 => exact rfl)
      (case hl72z80L10 => decide)
      (case dp72z80L10 => k_room)
      (case un72z80L10 => units_room)
      clear F2' N2
      intro cA72 hh72 tk72 cvs72 cn72 F2 N2 hne72 hI72
      replace hI72 : IntsAre cvs72 (cd (Str.ofString "0$d")) := hI72
      have hlen72 : (cd (Str.ofString "0$d")).length ≤ 1000 := by decide
      (try dsimp only)
      (repeat' (first | (k_unfold; (try dsimp only)) | ((fail_if_success (with_reducible show wpAny _ _ (PySem.call (Value.ref 102) _ _) _ _ _)); (fail_if_success (with_reducible show wpAny _ _ (PySem.call (Value.ref 76) _ _) _ _ _)); (fail_if_success (with_reducible show wpAny _ _ (PySem.call (Value.ref 83) _ _) _ _ _)); (fail_if_success (with_reducible show wpAny _ _ (PySem.call (Value.ref 90) _ _) _ _ _)); (fail_if_success (with_reducible show wpAny _ _ (PySem.call (Value.ref 109) _ _) _ _ _)); (fail_if_success (with_reducible show wpAny _ _ (PySem.call (Value.ref 114) _ _) _ _ _)); (fail_if_success (with_reducible show wpAny _ _ (PySem.call (Value.ref 121) _ _) _ _ _)); (fail_if_success (with_reducible show wpAny _ _ (PySem.exec (PySem.Stmt.For _ _ _ _ _) _) _ _ _)); (fail_if_success (with_reducible show wpAny _ _ (PySem.pyIter (Value.ref _)) _ _ _)); (fail_if_success (with_reducible show wpAny _ _ (PySem.eval (PySem.Expr.IfExp _ _ _ _) _) _ _ _)); (fail_if_success (with_reducible show wpAny _ _ (PySem.call (Value.builtin "str.join") _ _) _ _ _)); (fail_if_success (with_reducible show wpAny _ _ (PySem.call (Value.type "range") _ _) _ _ _)); (fail_if_success (with_reducible show wpAny _ _ (subscriptTail _ _ (Value.str _ _) (Value.int _ _)) _ _ _)); (fail_if_success (with_reducible show wpAny _ _ (compareOp CmpOp.NotEq (Value.ref _) (Value.ref _)) _ _ _)); (fail_if_success (with_reducible show wpAny _ _ (PySem.exec (PySem.Stmt.If _ _ _ _) _) _ _ _)); (fail_if_success (with_reducible show wpAny _ _ (PySem.eval (PySem.Expr.Lambda _ _ _ _) _) _ _ _)); first | (walk1 <;> (try dsimp only)) | (dsimp only; walk1) | (dsimp only; k_unfold; (try dsimp only))) | fail "no step"))
      have hno72 := read_zero
      refine' read1 (s := ⟨_, _, _, _, _⟩) (at₀ := 0) B2 F2 X2 N2 T2 ?hk73z80L10 (List.Mem.head _) hI72 hlen72 ?at73z80L10 ?hat73z80L10 ?dp73z80L10 ?un73z80L10 ?ret73z80L10 ?err73z80L10
      (case hk73z80L10 => exact rfl)
      (case at73z80L10 => exact rfl)
      (case hat73z80L10 => exact Nat.zero_le _)
      (case dp73z80L10 => k_room)
      (case un73z80L10 => units_room)
      (case ret73z80L10 => intro v p h; rw [hno72] at h; cases h)
      intro _ g3 H3 e3 dx3 hh73 tk73 FG3 fl3
      refine fl3.leave rfl rfl FG3 fun h3 fl3' => ?_
      exact hEd _ _ _ _ _ _ FG2 (fl3'.less fun p hp => .tail _ hp)
    clear F9 N9
    intro hh81 tk81 F9 N9
    (try dsimp only)
    (repeat' (first | (k_unfold; (try dsimp only)) | ((fail_if_success (with_reducible show wpAny _ _ (PySem.call (Value.ref 102) _ _) _ _ _)); (fail_if_success (with_reducible show wpAny _ _ (PySem.call (Value.ref 76) _ _) _ _ _)); (fail_if_success (with_reducible show wpAny _ _ (PySem.call (Value.ref 83) _ _) _ _ _)); (fail_if_success (with_reducible show wpAny _ _ (PySem.call (Value.ref 90) _ _) _ _ _)); (fail_if_success (with_reducible show wpAny _ _ (PySem.call (Value.ref 109) _ _) _ _ _)); (fail_if_success (with_reducible show wpAny _ _ (PySem.call (Value.ref 114) _ _) _ _ _)); (fail_if_success (with_reducible show wpAny _ _ (PySem.call (Value.ref 121) _ _) _ _ _)); (fail_if_success (with_reducible show wpAny _ _ (PySem.exec (PySem.Stmt.For _ _ _ _ _) _) _ _ _)); (fail_if_success (with_reducible show wpAny _ _ (PySem.pyIter (Value.ref _)) _ _ _)); (fail_if_success (with_reducible show wpAny _ _ (PySem.eval (PySem.Expr.IfExp _ _ _ _) _) _ _ _)); (fail_if_success (with_reducible show wpAny _ _ (PySem.call (Value.builtin "str.join") _ _) _ _ _)); (fail_if_success (with_reducible show wpAny _ _ (PySem.call (Value.type "range") _ _) _ _ _)); (fail_if_success (with_reducible show wpAny _ _ (subscriptTail _ _ (Value.str _ _) (Value.int _ _)) _ _ _)); (fail_if_success (with_reducible show wpAny _ _ (compareOp CmpOp.NotEq (Value.ref _) (Value.ref _)) _ _ _)); (fail_if_success (with_reducible show wpAny _ _ (PySem.exec (PySem.Stmt.If _ _ _ _) _) _ _ _)); (fail_if_success (with_reducible show wpAny _ _ (PySem.eval (PySem.Expr.Lambda _ _ _ _) _) _ _ _)); first | (walk1 <;> (try dsimp only)) | (dsimp only; walk1) | (dsimp only; k_unfold; (try dsimp only))) | fail "no step"))
    have hE123 : ∀ (oL : Obj), ∀ p ∈ (lf80, oL) :: (c80, oc80) :: NR, p.1 ≠ 123 := by
      intro oL p hp
      rcases List.mem_cons.mp hp with rfl | hp
      · exact Nat.ne_of_gt (Nat.lt_trans (hcl80 _ (.head _)) hcl81)
      · rcases List.mem_cons.mp hp with rfl | hp
        · exact Nat.ne_of_gt (hcl80 _ (.head _))
        · exact hD123 p hp
    k_dflt (refine' kla_eval ?d090L10 ?_; (case d090L10 => exact rfl))
    k_dflt (refine' kla_nest F9 (swap3 N9) T0 ?C90L10 ?cd90L10 (UpdF.head (hE123 _)) ?t90L10 ?n90L10 ?cl90L10 ?_; (case cd90L10 => exact rfl); (case C90L10 => kn_code); (case t90L10 => rcases htab with ⟨rfl, _⟩ | ⟨_, _, _, _, rfl, _⟩ <;> kn_triples); (case n90L10 => rcases htab with ⟨rfl, _⟩ | ⟨_, _, _, _, rfl, _⟩ <;> kn_among); (case cl90L10 => exact rfl))
    clear F9 N9
    intro lf90 c90 oc90 vs90 t90 ctv90 hh90 tk90 F9 N9 hoc90 hvs90 hcl90 hcl91
    (try dsimp only at N9)
    (try dsimp only)
    (repeat' (first | (k_unfold; (try dsimp only)) | ((fail_if_success (with_reducible show wpAny _ _ (PySem.call (Value.ref 102) _ _) _ _ _)); (fail_if_success (with_reducible show wpAny _ _ (PySem.call (Value.ref 76) _ _) _ _ _)); (fail_if_success (with_reducible show wpAny _ _ (PySem.call (Value.ref 83) _ _) _ _ _)); (fail_if_success (with_reducible show wpAny _ _ (PySem.call (Value.ref 90) _ _) _ _ _)); (fail_if_success (with_reducible show wpAny _ _ (PySem.call (Value.ref 109) _ _) _ _ _)); (fail_if_success (with_reducible show wpAny _ _ (PySem.call (Value.ref 114) _ _) _ _ _)); (fail_if_success (with_reducible show wpAny _ _ (PySem.call (Value.ref 121) _ _) _ _ _)); (fail_if_success (with_reducible show wpAny _ _ (PySem.exec (PySem.Stmt.For _ _ _ _ _) _) _ _ _)); (fail_if_success (with_reducible show wpAny _ _ (PySem.pyIter (Value.ref _)) _ _ _)); (fail_if_success (with_reducible show wpAny _ _ (PySem.eval (PySem.Expr.IfExp _ _ _ _) _) _ _ _)); (fail_if_success (with_reducible show wpAny _ _ (PySem.call (Value.builtin "str.join") _ _) _ _ _)); (fail_if_success (with_reducible show wpAny _ _ (PySem.call (Value.type "range") _ _) _ _ _)); (fail_if_success (with_reducible show wpAny _ _ (subscriptTail _ _ (Value.str _ _) (Value.int _ _)) _ _ _)); (fail_if_success (with_reducible show wpAny _ _ (compareOp CmpOp.NotEq (Value.ref _) (Value.ref _)) _ _ _)); (fail_if_success (with_reducible show wpAny _ _ (PySem.exec (PySem.Stmt.If _ _ _ _) _) _ _ _)); (fail_if_success (with_reducible show wpAny _ _ (PySem.eval (PySem.Expr.Lambda _ _ _ _) _) _ _ _)); first | (walk1 <;> (try dsimp only)) | (dsimp only; walk1) | (dsimp only; k_unfold; (try dsimp only))) | fail "no step"))
    refine' refused1 (s := ⟨_, _, _, _, _⟩) (lam := lf90) (List.Mem.head _) B0 F9 X0 N9 T0 ?hk91L10 ?dp91L10 ?un91L10 ?deed91L10 ?_
    (case hk91L10 => exact rfl)
    (case dp91L10 => k_room)
    (case un91L10 => units_room)
    case deed91L10 =>
      clear B0 F9 N9
      intro dp' un' gd' cn' cs' L' a' ccd' A' g' m' s' Q' E' Bd Fd Xd Nd Td hkd hdpd hund hEd
      refine wpAny_call ?_
      refine' kla_code Bd Fd Xd Nd Td ?kAz90L10 ?kFz90L10 ?kKz90L10 (List.Mem.head _) ?k7z90L10 ?k8z90L10 ?k9z90L10 ?kBz90L10 ?_ ?c2z90L10 ?c3z90L10 ?c4z90L10 ?c5z90L10
      (case kAz90L10 => exact rfl)
      (case kFz90L10 => exact rfl)
      (case kKz90L10 => exact hkd)
      (case k7z90L10 => exact codeRec_news Nd (.tail _ (.head _)) hoc90 hvs90)
      (case k8z90L10 => k_room)
      (case k9z90L10 => exact rfl)
      (case kBz90L10 => exact locs rfl)
      (case c2z90L10 => exact rfl)
      (case c3z90L10 => exact rfl)
      (case c4z90L10 => exact rfl)
      (case c5z90L10 => decide)
      intro g2 L2 h2 FG2 F2 N2 B2 X2 T2
      dsimp only
      (try k_fold)
      clear Bd Fd Xd Nd Td
      obtain ⟨mm2, F2'⟩ : ∃ mm2, Fr g2 L2 h2 mm2 := ⟨_, F2⟩
      clear F2
      generalize s'.toks + (List.length _) = tk70
      (repeat' (first | (k_unfold; (try dsimp only)) | ((fail_if_success (with_reducible show wpAny _ _ (PySem.call (Value.ref 102) _ _) _ _ _)); (fail_if_success (with_reducible show wpAny _ _ (PySem.call (Value.ref 76) _ _) _ _ _)); (fail_if_success (with_reducible show wpAny _ _ (PySem.call (Value.ref 83) _ _) _ _ _)); (fail_if_success (with_reducible show wpAny _ _ (PySem.call (Value.ref 90) _ _) _ _ _)); (fail_if_success (with_reducible show wpAny _ _ (PySem.call (Value.ref 109) _ _) _ _ _)); (fail_if_success (with_reducible show wpAny _ _ (PySem.call (Value.ref 114) _ _) _ _ _)); (fail_if_success (with_reducible show wpAny _ _ (PySem.call (Value.ref 121) _ _) _ _ _)); (fail_if_success (with_reducible show wpAny _ _ (PySem.exec (PySem.Stmt.For _ _ _ _ _) _) _ _ _)); (fail_if_success (with_reducible show wpAny _ _ (PySem.pyIter (Value.ref _)) _ _ _)); (fail_if_success (with_reducible show wpAny _ _ (PySem.eval (PySem.Expr.IfExp _ _ _ _) _) _ _ _)); (fail_if_success (with_reducible show wpAny _ _ (PySem.call (Value.builtin "str.join") _ _) _ _ _)); (fail_if_success (with_reducible show wpAny _ _ (PySem.call (Value.type "range") _ _) _ _ _)); (fail_if_success (with_reducible show wpAny _ _ (subscriptTail _ _ (Value.str _ _) (Value.int _ _)) _ _ _)); (fail_if_success (with_reducible show wpAny _ _ (compareOp CmpOp.NotEq (Value.ref _) (Value.ref _)) _ _ _)); (fail_if_success (with_reducible show wpAny _ _ (PySem.exec (PySem.Stmt.If _ _ _ _) _) _ _ _)); (fail_if_success (with_reducible show wpAny _ _ (PySem.eval (PySem.Expr.Lambda _ _ _ _) _) _ _ _)); first | (walk1 <;> (try dsimp only)) | (dsimp only; walk1) | (dsimp only; k_unfold; (try dsimp only))) | fail "no step"))
      refine' codes1 (s := ⟨_, _, _, _, _⟩) B2 F2' X2 N2 T2 ?hk72z90L10 ?hl72z90L10 ?dp72z90L10 ?un72z90L10 ?_
      (case hk72z90L10 => exact rfl)
      (case hl72z90L10 => decide)
      (case dp72z90L10 => k_room)
      (case un72z90L10 => units_room)
      clear F2' N2
      intro cA72 hh72 tk72 cvs72 cn72 F2 N2 hne72 hI72
      replace hI72 : IntsAre cvs72 (cd (Str.ofString "99999d")) := hI72
      have hlen72 : (cd (Str.ofString "99999d")).length ≤ 1000 := by decide
      (try dsimp only)
      (repeat' (first | (k_unfold; (try dsimp only)) | ((fail_if_success (with_reducible show wpAny _ _ (PySem.call (Value.ref 102) _ _) _ _ _)); (fail_if_success (with_reducible show wpAny _ _ (PySem.call (Value.ref 76) _ _) _ _ _)); (fail_if_success (with_reducible show wpAny _ _ (PySem.call (Value.ref 83) _ _) _ _ _)); (fail_if_success (with_reducible show wpAny _ _ (PySem.call (Value.ref 90) _ _) _ _ _)); (fail_if_success (with_reducible show wpAny _ _ (PySem.call (Value.ref 109) _ _) _ _ _)); (fail_if_success (with_reducible show wpAny _ _ (PySem.call (Value.ref 114) _ _) _ _ _)); (fail_if_success (with_reducible show wpAny _ _ (PySem.call (Value.ref 121) _ _) _ _ _)); (fail_if_success (with_reducible show wpAny _ _ (PySem.exec (PySem.Stmt.For _ _ _ _ _) _) _ _ _)); (fail_if_success (with_reducible show wpAny _ _ (PySem.pyIter (Value.ref _)) _ _ _)); (fail_if_success (with_reducible show wpAny _ _ (PySem.eval (PySem.Expr.IfExp _ _ _ _) _) _ _ _)); (fail_if_success (with_reducible show wpAny _ _ (PySem.call (Value.builtin "str.join") _ _) _ _ _)); (fail_if_success (with_reducible show wpAny _ _ (PySem.call (Value.type "range") _ _) _ _ _)); (fail_if_success (with_reducible show wpAny _ _ (subscriptTail _ _ (Value.str _ _) (Value.int _ _)) _ _ _)); (fail_if_success (with_reducible show wpAny _ _ (compareOp CmpOp.NotEq (Value.ref _) (Value.ref _)) _ _ _)); (fail_if_success (with_reducible show wpAny _ _ (PySem.exec (PySem.Stmt.If _ _ _ _) _) _ _ _)); (fail_if_success (with_reducible show wpAny _ _ (PySem.eval (PySem.Expr.Lambda _ _ _ _) _) _ _ _)); first | (walk1 <;> (try dsimp only)) | (dsimp only; walk1) | (dsimp only; k_unfold; (try dsimp only))) | fail "no step"))
      have hno72 := read_huge
      refine' read1 (s := ⟨_, _, _, _, _⟩) (at₀ := 0) B2 F2 X2 N2 T2 ?hk73z90L10 (List.Mem.head _) hI72 hlen72 ?at73z90L10 ?hat73z90L10 ?dp73z90L10 ?un73z90L10 ?ret73z90L10 ?err73z90L10
      (case hk73z90L10 => exact rfl)
      (case at73z90L10 => exact rfl)
      (case hat73z90L10 => exact Nat.zero_le _)
      (case dp73z90L10 => k_room)
      (case un73z90L10 => units_room)
      (case ret73z90L10 => intro v p h; rw [hno72] at h; cases h)
      intro _ g3 H3 e3 dx3 hh73 tk73 FG3 fl3
      refine fl3.leave rfl rfl FG3 fun h3 fl3' => ?_
      exact hEd _ _ _ _ _ _ FG2 (fl3'.less fun p hp => .tail _ hp)
    clear F9 N9
    intro hh91 tk91 F9 N9
    (try dsimp only)
    (repeat' (first | (k_unfold; (try dsimp only)) | ((fail_if_success (with_reducible show wpAny _ _ (PySem.call (Value.ref 102) _ _) _ _ _)); (fail_if_success (with_reducible show wpAny _ _ (PySem.call (Value.ref 76) _ _) _ _ _)); (fail_if_success (with_reducible show wpAny _ _ (PySem.call (Value.ref 83) _ _) _ _ _)); (fail_if_success (with_reducible show wpAny _ _ (PySem.call (Value.ref 90) _ _) _ _ _)); (fail_if_success (with_reducible show wpAny _ _ (PySem.call (Value.ref 109) _ _) _ _ _)); (fail_if_success (with_reducible show wpAny _ _ (PySem.call (Value.ref 114) _ _) _ _ _)); (fail_if_success (with_reducible show wpAny _ _ (PySem.call (Value.ref 121) _ _) _ _ _)); (fail_if_success (with_reducible show wpAny _ _ (PySem.exec (PySem.Stmt.For _ _ _ _ _) _) _ _ _)); (fail_if_success (with_reducible show wpAny _ _ (PySem.pyIter (Value.ref _)) _ _ _)); (fail_if_success (with_reducible show wpAny _ _ (PySem.eval (PySem.Expr.IfExp _ _ _ _) _) _ _ _)); (fail_if_success (with_reducible show wpAny _ _ (PySem.call (Value.builtin "str.join") _ _) _ _ _)); (fail_if_success (with_reducible show wpAny _ _ (PySem.call (Value.type "range") _ _) _ _ _)); (fail_if_success (with_reducible show wpAny _ _ (subscriptTail _ _ (Value.str _ _) (Value.int _ _)) _ _ _)); (fail_if_success (with_reducible show wpAny _ _ (compareOp CmpOp.NotEq (Value.ref _) (Value.ref _)) _ _ _)); (fail_if_success (with_reducible show wpAny _ _ (PySem.exec (PySem.Stmt.If _ _ _ _) _) _ _ _)); (fail_if_success (with_reducible show wpAny _ _ (PySem.eval (PySem.Expr.Lambda _ _ _ _) _) _ _ _)); first | (walk1 <;> (try dsimp only)) | (dsimp only; walk1) | (dsimp only; k_unfold; (try dsimp only))) | fail "no step"))
    k_end
    wrow_close
  case turnL1 =>
    clear F4 N4 hR
    intro i t m4 nx h4 tk4 I oI hi3 hneI hJ
    refine Classical.byContradiction fun hng => ?_
    obtain ⟨ysv, ns, n4, cutc, ps, ext, rfl, hiy, hpos, hlen, ⟨cv, hcv⟩, htab⟩ := hJ
    refine hng ?_
    clear hng
    intro F4 N4
    replace F4 : Fr g0 s1.heap.objs.size h4 _ := F4
    replace N4 : News g0 s1.heap.objs.size h4 _ := N4
    have hRne : ∀ p ∈ (I, oI) :: (s1.heap.objs.size + 1 + 1, cutc) :: (s1.heap.objs.size + 1, deckc) :: (123, tabObj ps) :: ext, p.1 ≠ D := by
      intro p hp
      rcases List.mem_cons.mp hp with rfl | hp
      · exact fun q => hneI _ (.head _) q.symm
      · rcases List.mem_cons.mp hp with rfl | hp
        · exact hDL.1
        · rcases List.mem_cons.mp hp with rfl | hp
          · exact hDL.2.1
          · rcases List.mem_cons.mp hp with rfl | hp
            · exact hDL.2.2
            · exact Nat.ne_of_gt (extGt htab p hp).1
    replace N4 : News g0 s1.heap.objs.size h4 ((D, listOf (List.toArray ysv) n4) :: (I, oI) :: (s1.heap.objs.size + 1 + 1, cutc) :: (s1.heap.objs.size + 1, deckc) :: (123, tabObj ps) :: ext) := fun p hp => N4 p (by
      rcases List.mem_cons.mp hp with rfl | hp
      · exact .tail _ (.head _)
      · rcases List.mem_cons.mp hp with rfl | hp
        · exact .head _
        · exact .tail _ (.tail _ hp))
    obtain ⟨NR, hNR⟩ : ∃ NR, NR = (I, oI) :: (s1.heap.objs.size + 1 + 1, cutc) :: (123, tabObj ps) :: ext := ⟨_, rfl⟩
    replace hRne : ∀ p ∈ (s1.heap.objs.size + 1, deckc) :: NR, p.1 ≠ D := by
      rw [hNR]
      exact fun p hp => hRne p (mem3 hp)
    replace N4 : News g0 s1.heap.objs.size h4 ((D, listOf (List.toArray ysv) n4) :: (s1.heap.objs.size + 1, deckc) :: NR) := by
      rw [hNR]
      intro p hp
      refine N4 p ?_
      rcases List.mem_cons.mp hp with rfl | hp
      · exact .head _
      · exact .tail _ (mem3 hp)
    with_reducible show wpAny _ _ _ _ _ _
    k_fold
    (repeat' (first | (k_unfold; (try dsimp only)) | ((fail_if_success (with_reducible show wpAny _ _ (PySem.call (Value.ref 102) _ _) _ _ _)); (fail_if_success (with_reducible show wpAny _ _ (PySem.call (Value.ref 76) _ _) _ _ _)); (fail_if_success (with_reducible show wpAny _ _ (PySem.call (Value.ref 83) _ _) _ _ _)); (fail_if_success (with_reducible show wpAny _ _ (PySem.call (Value.ref 90) _ _) _ _ _)); (fail_if_success (with_reducible show wpAny _ _ (PySem.call (Value.ref 109) _ _) _ _ _)); (fail_if_success (with_reducible show wpAny _ _ (PySem.call (Value.ref 114) _ _) _ _ _)); (fail_if_success (with_reducible show wpAny _ _ (PySem.call (Value.ref 121) _ _) _ _ _)); (fail_if_success (with_reducible show wpAny _ _ (PySem.exec (PySem.Stmt.For _ _ _ _ _) _) _ _ _)); (fail_if_success (with_reducible show wpAny _ _ (PySem.pyIter (Value.ref _)) _ _ _)); (fail_if_success (with_reducible show wpAny _ _ (PySem.eval (PySem.Expr.IfExp _ _ _ _) _) _ _ _)); (fail_if_success (with_reducible show wpAny _ _ (PySem.call (Value.builtin "str.join") _ _) _ _ _)); (fail_if_success (with_reducible show wpAny _ _ (PySem.call (Value.type "range") _ _) _ _ _)); (fail_if_success (with_reducible show wpAny _ _ (subscriptTail _ _ (Value.str _ _) (Value.int _ _)) _ _ _)); first | (walk1 <;> (try dsimp only)) | (dsimp only; walk1) | (dsimp only; k_unfold; (try dsimp only))) | fail "no step"))
    (rename Fr g0 _ _ _ => F5); (rename News g0 _ _ _ => N5)
    refine' draw1 (s := ⟨_, _, _, _, _⟩) B0 F5 X0 N5 T0 ?hkL1 hRne hiy hpos hlen ?m0L1 ?m1L1 ?dpL1 ?unL1 ?_
    (case hkL1 => exact rfl)
    (case m0L1 => decide)
    (case m1L1 => decide)
    (case dpL1 => k_room)
    (case unL1 => units_room)
    intro field tf h5 tk5 ys5 ns5 n5 F5 N5 hiy5 hpos5 hlen5 hf0 hf1
    (repeat' (first | (k_unfold; (try dsimp only)) | ((fail_if_success (with_reducible show wpAny _ _ (PySem.call (Value.ref 102) _ _) _ _ _)); (fail_if_success (with_reducible show wpAny _ _ (PySem.call (Value.ref 76) _ _) _ _ _)); (fail_if_success (with_reducible show wpAny _ _ (PySem.call (Value.ref 83) _ _) _ _ _)); (fail_if_success (with_reducible show wpAny _ _ (PySem.call (Value.ref 90) _ _) _ _ _)); (fail_if_success (with_reducible show wpAny _ _ (PySem.call (Value.ref 109) _ _) _ _ _)); (fail_if_success (with_reducible show wpAny _ _ (PySem.call (Value.ref 114) _ _) _ _ _)); (fail_if_success (with_reducible show wpAny _ _ (PySem.call (Value.ref 121) _ _) _ _ _)); (fail_if_success (with_reducible show wpAny _ _ (PySem.exec (PySem.Stmt.For _ _ _ _ _) _) _ _ _)); (fail_if_success (with_reducible show wpAny _ _ (PySem.pyIter (Value.ref _)) _ _ _)); (fail_if_success (with_reducible show wpAny _ _ (PySem.eval (PySem.Expr.IfExp _ _ _ _) _) _ _ _)); (fail_if_success (with_reducible show wpAny _ _ (PySem.call (Value.builtin "str.join") _ _) _ _ _)); (fail_if_success (with_reducible show wpAny _ _ (PySem.call (Value.type "range") _ _) _ _ _)); (fail_if_success (with_reducible show wpAny _ _ (subscriptTail _ _ (Value.str _ _) (Value.int _ _)) _ _ _)); first | (walk1 <;> (try dsimp only)) | (dsimp only; walk1) | (dsimp only; k_unfold; (try dsimp only))) | fail "no step"))
    (rename Fr g0 _ _ _ => F5); (rename News g0 _ _ _ => N5)
    refine' draw1 (s := ⟨_, _, _, _, _⟩) B0 F5 X0 N5 T0 ?hk2L1 hRne hiy5 hpos5 hlen5 ?m02L1 ?m12L1 ?dp2L1 ?un2L1 ?_
    (case hk2L1 => exact rfl)
    (case m02L1 => decide)
    (case m12L1 => decide)
    (case dp2L1 => k_room)
    (case un2L1 => units_room)
    intro cnt tc h6 tk6 ys6 ns6 n6 F6 N6 hiy6 hpos6 hlen6 hc0 hc1
    clear hiy hiy5 hpos hpos5 hlen hlen5 F5 N5
    (repeat' (first | (k_unfold; (try dsimp only)) | ((fail_if_success (with_reducible show wpAny _ _ (PySem.call (Value.ref 102) _ _) _ _ _)); (fail_if_success (with_reducible show wpAny _ _ (PySem.call (Value.ref 76) _ _) _ _ _)); (fail_if_success (with_reducible show wpAny _ _ (PySem.call (Value.ref 83) _ _) _ _ _)); (fail_if_success (with_reducible show wpAny _ _ (PySem.call (Value.ref 90) _ _) _ _ _)); (fail_if_success (with_reducible show wpAny _ _ (PySem.call (Value.ref 109) _ _) _ _ _)); (fail_if_success (with_reducible show wpAny _ _ (PySem.call (Value.ref 114) _ _) _ _ _)); (fail_if_success (with_reducible show wpAny _ _ (PySem.call (Value.ref 121) _ _) _ _ _)); (fail_if_success (with_reducible show wpAny _ _ (PySem.exec (PySem.Stmt.For _ _ _ _ _) _) _ _ _)); (fail_if_success (with_reducible show wpAny _ _ (PySem.pyIter (Value.ref _)) _ _ _)); (fail_if_success (with_reducible show wpAny _ _ (PySem.eval (PySem.Expr.IfExp _ _ _ _) _) _ _ _)); (fail_if_success (with_reducible show wpAny _ _ (PySem.call (Value.builtin "str.join") _ _) _ _ _)); (fail_if_success (with_reducible show wpAny _ _ (PySem.call (Value.type "range") _ _) _ _ _)); (fail_if_success (with_reducible show wpAny _ _ (subscriptTail _ _ (Value.str _ _) (Value.int _ _)) _ _ _)); first | (walk1 <;> (try dsimp only)) | (dsimp only; walk1) | (dsimp only; k_unfold; (try dsimp only))) | fail "no step"))
    refine' rangeCall (s := ⟨_, _, _, _, _⟩) F6 N6 ?_
    intro r tr ur h7 tk7 F7 N7 hR7
    have hc4 : cnt = 0 ∨ cnt = 1 ∨ cnt = 2 ∨ cnt = 3 := by omega
    refine LCg.CompSrc.range (n := cnt.toNat) rfl F7 N7 hR7 ?sm7L1 ?sz7L1 ?le7L1 ?_
    case sm7L1 => rcases hc4 with rfl | rfl | rfl | rfl <;> decide
    case sz7L1 => rcases hc4 with rfl | rfl | rfl | rfl <;> decide
    case le7L1 => rw [sizeLine_eq]; omega
    intro g7
    refine compInd (fun ys nw => ∃ ysv ns n' fl, nw = (D, listOf (List.toArray ysv) n') :: (s1.heap.objs.size + 1, deckc) :: NR ∧ IntsAre ysv ns ∧ (∀ x ∈ ns, 0 ≤ x ∧ x < 10 ^ 30) ∧ ns.length ≤ 63 ∧ StrsAre ys (List.map (fun c : Nat => (⟨#[c]⟩ : Str)) fl) ∧ ∀ c ∈ fl, c ∈ FL) ⟨_, _, _, [], rfl, hiy6, hpos6, hlen6, .nil, fun _ h => nomatch h⟩ ?cturnL1 ?cfinL1
    case cturnL1 =>
      clear N7 F7 hiy6 hpos6 hlen6 hR7 F6 N6
      intro j ys nw v I8 oI8 C8 oC8 D8 m8 h8 tk8 E8 hJ hV
      refine Classical.byContradiction fun hng => ?_
      obtain ⟨ysv, ns, n8, fl, rfl, hiy8, hpos8, hlen8, hfl, hmem⟩ := hJ
      obtain ⟨tv, rfl⟩ := hV
      refine hng ?_
      clear hng
      intro nC hx F8 N8 off8 ne8
      (repeat' (first | (k_unfold; (try dsimp only)) | ((fail_if_success (with_reducible show wpAny _ _ (PySem.call (Value.ref 102) _ _) _ _ _)); (fail_if_success (with_reducible show wpAny _ _ (PySem.call (Value.ref 76) _ _) _ _ _)); (fail_if_success (with_reducible show wpAny _ _ (PySem.call (Value.ref 83) _ _) _ _ _)); (fail_if_success (with_reducible show wpAny _ _ (PySem.call (Value.ref 90) _ _) _ _ _)); (fail_if_success (with_reducible show wpAny _ _ (PySem.call (Value.ref 109) _ _) _ _ _)); (fail_if_success (with_reducible show wpAny _ _ (PySem.call (Value.ref 114) _ _) _ _ _)); (fail_if_success (with_reducible show wpAny _ _ (PySem.call (Value.ref 121) _ _) _ _ _)); (fail_if_success (with_reducible show wpAny _ _ (PySem.exec (PySem.Stmt.For _ _ _ _ _) _) _ _ _)); (fail_if_success (with_reducible show wpAny _ _ (PySem.pyIter (Value.ref _)) _ _ _)); (fail_if_success (with_reducible show wpAny _ _ (PySem.eval (PySem.Expr.IfExp _ _ _ _) _) _ _ _)); (fail_if_success (with_reducible show wpAny _ _ (PySem.call (Value.builtin "str.join") _ _) _ _ _)); (fail_if_success (with_reducible show wpAny _ _ (PySem.call (Value.type "range") _ _) _ _ _)); (fail_if_success (with_reducible show wpAny _ _ (subscriptTail _ _ (Value.str _ _) (Value.int _ _)) _ _ _)); first | (walk1 <;> (try dsimp only)) | (dsimp only; walk1) | (dsimp only; k_unfold; (try dsimp only))) | fail "no step"))
      (rename Fr g0 _ _ _ => F9); (rename News g0 _ _ _ => N9)
      have om := LCg.Off3.mem off8
      refine' draw1 (s := ⟨_, _, _, _, _⟩) (news := (I8, oI8) :: (C8, oC8) :: (D8, LCg.lst ys) :: (s1.heap.objs.size + 1, deckc) :: NR) B0 F9 X0 (fun p hp => N9 p ?mem9L1) T0 ?hk9L1 ?hne9L1 hiy8 hpos8 hlen8 ?m09L1 ?m19L1 ?dp9L1 ?un9L1 ?_
      (case mem9L1 =>
        rcases List.mem_cons.mp hp with rfl | hp
        · exact .tail _ (.tail _ (.tail _ (.head _)))
        · rcases List.mem_cons.mp hp with rfl | hp
          · exact .head _
          · rcases List.mem_cons.mp hp with rfl | hp
            · exact .tail _ (.head _)
            · rcases List.mem_cons.mp hp with rfl | hp
              · exact .tail _ (.tail _ (.head _))
              · exact .tail _ (.tail _ (.tail _ (.tail _ hp))))
      (case hk9L1 => exact rfl)
      (case hne9L1 =>
        intro p hp
        have o1 := om _ (.head _)
        rcases List.mem_cons.mp hp with rfl | hp
        · exact fun q => o1.1 q.symm
        · rcases List.mem_cons.mp hp with rfl | hp
          · exact fun q => o1.2.1 q.symm
          · rcases List.mem_cons.mp hp with rfl | hp
            · exact fun q => o1.2.2 q.symm
            · exact hRne p hp)
      (case m09L1 => decide)
      (case m19L1 => decide)
      (case dp9L1 => k_room)
      (case un9L1 => units_room)
      intro fk tf9 h9 tk9 ys9 ns9 n9 F9 N9 hiy9 hpos9 hlen9 hfk0 hfk1
      refine' flagAt (s := ⟨_, _, _, _, _⟩) hfk0 hfk1 ?fxL1 ?fl9L1 ?_ ?fsL1 ?ftL1
      (case fxL1 => decide)
      (case fl9L1 => decide)
      (case fsL1 => with_unfolding_all rfl)
      (case ftL1 => intro _; with_unfolding_all rfl)
      intro c tc9 hc9
      refine ⟨h9, _, (D, listOf (List.toArray ys9) n9) :: (s1.heap.objs.size + 1, deckc) :: NR, rfl, F9, fun p hp => N9 p ?_, LCg.Off3.of fun p hp => ?_, True.intro, ys9, ns9, n9, fl ++ [c], rfl, hiy9, hpos9, hlen9, ?_, ?_⟩
      · rcases List.mem_cons.mp hp with rfl | hp
        · exact .tail _ (.head _)
        · rcases List.mem_cons.mp hp with rfl | hp
          · exact .tail _ (.tail _ (.head _))
          · rcases List.mem_cons.mp hp with rfl | hp
            · exact .tail _ (.tail _ (.tail _ (.head _)))
            · rcases List.mem_cons.mp hp with rfl | hp
              · exact .head _
              · exact .tail _ (.tail _ (.tail _ (.tail _ hp)))
      · rcases List.mem_cons.mp hp with rfl | hp
        · have o1 := om _ (List.Mem.head _)
          exact o1
        · exact om _ (.tail _ hp)
      · rw [List.map_append, List.map_singleton]
        exact hfl.append' (.cons _ _ .nil)
      · intro c' hc'
        rcases List.mem_append.mp hc' with hc' | hc'
        · exact hmem c' hc'
        · rw [List.mem_singleton.mp hc']; exact hc9
    case cfinL1 =>
      clear N7 F7 hiy6 hpos6 hlen6 hR7 F6 N6
      intro ys nw hlys hJ
      refine Classical.byContradiction fun hng => ?_
      obtain ⟨ysv, ns, n8, fl, rfl, hiy8, hpos8, hlen8, hfl, hmem⟩ := hJ
      refine hng ?_
      clear hng
      intro D8 h8 tk8 F8 N8 off8
      have hfl3 : fl.length ≤ 3 := by
        have := hfl.length
        rw [List.length_map] at this
        omega
      dsimp only
      (repeat' (first | (k_unfold; (try dsimp only)) | ((fail_if_success (with_reducible show wpAny _ _ (PySem.call (Value.ref 102) _ _) _ _ _)); (fail_if_success (with_reducible show wpAny _ _ (PySem.call (Value.ref 76) _ _) _ _ _)); (fail_if_success (with_reducible show wpAny _ _ (PySem.call (Value.ref 83) _ _) _ _ _)); (fail_if_success (with_reducible show wpAny _ _ (PySem.call (Value.ref 90) _ _) _ _ _)); (fail_if_success (with_reducible show wpAny _ _ (PySem.call (Value.ref 109) _ _) _ _ _)); (fail_if_success (with_reducible show wpAny _ _ (PySem.call (Value.ref 114) _ _) _ _ _)); (fail_if_success (with_reducible show wpAny _ _ (PySem.call (Value.ref 121) _ _) _ _ _)); (fail_if_success (with_reducible show wpAny _ _ (PySem.exec (PySem.Stmt.For _ _ _ _ _) _) _ _ _)); (fail_if_success (with_reducible show wpAny _ _ (PySem.pyIter (Value.ref _)) _ _ _)); (fail_if_success (with_reducible show wpAny _ _ (PySem.eval (PySem.Expr.IfExp _ _ _ _) _) _ _ _)); (fail_if_success (with_reducible show wpAny _ _ (PySem.call (Value.builtin "str.join") _ _) _ _ _)); (fail_if_success (with_reducible show wpAny _ _ (PySem.call (Value.type "range") _ _) _ _ _)); (fail_if_success (with_reducible show wpAny _ _ (subscriptTail _ _ (Value.str _ _) (Value.int _ _)) _ _ _)); first | (walk1 <;> (try dsimp only)) | (dsimp only; walk1) | (dsimp only; k_unfold; (try dsimp only))) | fail "no step"))
      (rename Fr g0 _ _ _ => F9); (rename News g0 _ _ _ => N9)
      refine' join_list (s := ⟨_, _, _, _, _⟩) (ys := List.map (fun c : Nat => (⟨#[c]⟩ : Str)) fl) (items := ys.toArray) ?jlL1 ?jiL1 ?jkL1 ?_
      (case jlL1 => exact PySem.IsL.isList (n := _) (N9 _ (.head _)).1)
      (case jiL1 => rw [List.toList_toArray]; exact hfl)
      (case jkL1 => exact sumFl fl _ rfl hfl3)
      intro t10 tk10
      rw [joinFl]
      clear hfl hlys
      (repeat' (first | (k_unfold; (try dsimp only)) | ((fail_if_success (with_reducible show wpAny _ _ (PySem.call (Value.ref 102) _ _) _ _ _)); (fail_if_success (with_reducible show wpAny _ _ (PySem.call (Value.ref 76) _ _) _ _ _)); (fail_if_success (with_reducible show wpAny _ _ (PySem.call (Value.ref 83) _ _) _ _ _)); (fail_if_success (with_reducible show wpAny _ _ (PySem.call (Value.ref 90) _ _) _ _ _)); (fail_if_success (with_reducible show wpAny _ _ (PySem.call (Value.ref 109) _ _) _ _ _)); (fail_if_success (with_reducible show wpAny _ _ (PySem.call (Value.ref 114) _ _) _ _ _)); (fail_if_success (with_reducible show wpAny _ _ (PySem.call (Value.ref 121) _ _) _ _ _)); (fail_if_success (with_reducible show wpAny _ _ (PySem.exec (PySem.Stmt.For _ _ _ _ _) _) _ _ _)); (fail_if_success (with_reducible show wpAny _ _ (PySem.pyIter (Value.ref _)) _ _ _)); (fail_if_success (with_reducible show wpAny _ _ (PySem.eval (PySem.Expr.IfExp _ _ _ _) _) _ _ _)); (fail_if_success (with_reducible show wpAny _ _ (PySem.call (Value.builtin "str.join") _ _) _ _ _)); (fail_if_success (with_reducible show wpAny _ _ (PySem.call (Value.type "range") _ _) _ _ _)); (fail_if_success (with_reducible show wpAny _ _ (subscriptTail _ _ (Value.str _ _) (Value.int _ _)) _ _ _)); first | (walk1 <;> (try dsimp only)) | (dsimp only; walk1) | (dsimp only; k_unfold; (try dsimp only))) | fail "no step"))
      (rename Fr g0 _ _ _ => F9); (rename News g0 _ _ _ => N9)
      refine' draw1 (s := ⟨_, _, _, _, _⟩) (news := (s1.heap.objs.size + 1, deckc) :: NR) B0 F9 X0 ?nn20L1 T0 ?hk20L1 hRne hiy8 hpos8 hlen8 ?mz20L1 ?mm20L1 ?dp20L1 ?un20L1 ?_
      (case nn20L1 => first | exact N9 | exact newsTl N9 | exact newsTl (newsTl N9) | exact newsTl (newsTl (newsTl N9)))
      (case hk20L1 => exact rfl)
      (case mz20L1 => decide)
      (case mm20L1 => decide)
      (case dp20L1 => k_room)
      (case un20L1 => units_room)
      clear F9 N9
      intro width twidth hh20 tk20 ys20 ns20 n20 F9 N9 hiy20 hpos20 hlen20 hwidth0 hwidth1
      clear hiy8 hpos8 hlen8
      (repeat' (first | (k_unfold; (try dsimp only)) | ((fail_if_success (with_reducible show wpAny _ _ (PySem.call (Value.ref 102) _ _) _ _ _)); (fail_if_success (with_reducible show wpAny _ _ (PySem.call (Value.ref 76) _ _) _ _ _)); (fail_if_success (with_reducible show wpAny _ _ (PySem.call (Value.ref 83) _ _) _ _ _)); (fail_if_success (with_reducible show wpAny _ _ (PySem.call (Value.ref 90) _ _) _ _ _)); (fail_if_success (with_reducible show wpAny _ _ (PySem.call (Value.ref 109) _ _) _ _ _)); (fail_if_success (with_reducible show wpAny _ _ (PySem.call (Value.ref 114) _ _) _ _ _)); (fail_if_success (with_reducible show wpAny _ _ (PySem.call (Value.ref 121) _ _) _ _ _)); (fail_if_success (with_reducible show wpAny _ _ (PySem.exec (PySem.Stmt.For _ _ _ _ _) _) _ _ _)); (fail_if_success (with_reducible show wpAny _ _ (PySem.pyIter (Value.ref _)) _ _ _)); (fail_if_success (with_reducible show wpAny _ _ (PySem.eval (PySem.Expr.IfExp _ _ _ _) _) _ _ _)); (fail_if_success (with_reducible show wpAny _ _ (PySem.call (Value.builtin "str.join") _ _) _ _ _)); (fail_if_success (with_reducible show wpAny _ _ (PySem.call (Value.type "range") _ _) _ _ _)); (fail_if_success (with_reducible show wpAny _ _ (subscriptTail _ _ (Value.str _ _) (Value.int _ _)) _ _ _)); first | (walk1 <;> (try dsimp only)) | (dsimp only; walk1) | (dsimp only; k_unfold; (try dsimp only))) | fail "no step"))
      (rename Fr g0 _ _ _ => F9); (rename News g0 _ _ _ => N9)
      refine' draw1 (s := ⟨_, _, _, _, _⟩) (news := (s1.heap.objs.size + 1, deckc) :: NR) B0 F9 X0 ?nn21L1 T0 ?hk21L1 hRne hiy20 hpos20 hlen20 ?mz21L1 ?mm21L1 ?dp21L1 ?un21L1 ?_
      (case nn21L1 => first | exact N9 | exact newsTl N9 | exact newsTl (newsTl N9) | exact newsTl (newsTl (newsTl N9)))
      (case hk21L1 => exact rfl)
      (case mz21L1 => decide)
      (case mm21L1 => decide)
      (case dp21L1 => k_room)
      (case un21L1 => units_room)
      clear F9 N9
      intro size1 tsize1 hh21 tk21 ys21 ns21 n21 F9 N9 hiy21 hpos21 hlen21 hsize10 hsize11
      clear hiy20 hpos20 hlen20
      (repeat' (first | (k_unfold; (try dsimp only)) | ((fail_if_success (with_reducible show wpAny _ _ (PySem.call (Value.ref 102) _ _) _ _ _)); (fail_if_success (with_reducible show wpAny _ _ (PySem.call (Value.ref 76) _ _) _ _ _)); (fail_if_success (with_reducible show wpAny _ _ (PySem.call (Value.ref 83) _ _) _ _ _)); (fail_if_success (with_reducible show wpAny _ _ (PySem.call (Value.ref 90) _ _) _ _ _)); (fail_if_success (with_reducible show wpAny _ _ (PySem.call (Value.ref 109) _ _) _ _ _)); (fail_if_success (with_reducible show wpAny _ _ (PySem.call (Value.ref 114) _ _) _ _ _)); (fail_if_success (with_reducible show wpAny _ _ (PySem.call (Value.ref 121) _ _) _ _ _)); (fail_if_success (with_reducible show wpAny _ _ (PySem.exec (PySem.Stmt.For _ _ _ _ _) _) _ _ _)); (fail_if_success (with_reducible show wpAny _ _ (PySem.pyIter (Value.ref _)) _ _ _)); (fail_if_success (with_reducible show wpAny _ _ (PySem.eval (PySem.Expr.IfExp _ _ _ _) _) _ _ _)); (fail_if_success (with_reducible show wpAny _ _ (PySem.call (Value.builtin "str.join") _ _) _ _ _)); (fail_if_success (with_reducible show wpAny _ _ (PySem.call (Value.type "range") _ _) _ _ _)); (fail_if_success (with_reducible show wpAny _ _ (subscriptTail _ _ (Value.str _ _) (Value.int _ _)) _ _ _)); first | (walk1 <;> (try dsimp only)) | (dsimp only; walk1) | (dsimp only; k_unfold; (try dsimp only))) | fail "no step"))
      (rename Fr g0 _ _ _ => F9); (rename News g0 _ _ _ => N9)
      refine' draw1 (s := ⟨_, _, _, _, _⟩) (news := (s1.heap.objs.size + 1, deckc) :: NR) B0 F9 X0 ?nn22L1 T0 ?hk22L1 hRne hiy21 hpos21 hlen21 ?mz22L1 ?mm22L1 ?dp22L1 ?un22L1 ?_
      (case nn22L1 => first | exact N9 | exact newsTl N9 | exact newsTl (newsTl N9) | exact newsTl (newsTl (newsTl N9)))
      (case hk22L1 => exact rfl)
      (case mz22L1 => decide)
      (case mm22L1 => decide)
      (case dp22L1 => k_room)
      (case un22L1 => units_room)
      clear F9 N9
      intro letk tletk hh22 tk22 ys22 ns22 n22 F9 N9 hiy22 hpos22 hlen22 hletk0 hletk1
      clear hiy21 hpos21 hlen21
      (repeat' (first | (k_unfold; (try dsimp only)) | ((fail_if_success (with_reducible show wpAny _ _ (PySem.call (Value.ref 102) _ _) _ _ _)); (fail_if_success (with_reducible show wpAny _ _ (PySem.call (Value.ref 76) _ _) _ _ _)); (fail_if_success (with_reducible show wpAny _ _ (PySem.call (Value.ref 83) _ _) _ _ _)); (fail_if_success (with_reducible show wpAny _ _ (PySem.call (Value.ref 90) _ _) _ _ _)); (fail_if_success (with_reducible show wpAny _ _ (PySem.call (Value.ref 109) _ _) _ _ _)); (fail_if_success (with_reducible show wpAny _ _ (PySem.call (Value.ref 114) _ _) _ _ _)); (fail_if_success (with_reducible show wpAny _ _ (PySem.call (Value.ref 121) _ _) _ _ _)); (fail_if_success (with_reducible show wpAny _ _ (PySem.exec (PySem.Stmt.For _ _ _ _ _) _) _ _ _)); (fail_if_success (with_reducible show wpAny _ _ (PySem.pyIter (Value.ref _)) _ _ _)); (fail_if_success (with_reducible show wpAny _ _ (PySem.eval (PySem.Expr.IfExp _ _ _ _) _) _ _ _)); (fail_if_success (with_reducible show wpAny _ _ (PySem.call (Value.builtin "str.join") _ _) _ _ _)); (fail_if_success (with_reducible show wpAny _ _ (PySem.call (Value.type "range") _ _) _ _ _)); (fail_if_success (with_reducible show wpAny _ _ (subscriptTail _ _ (Value.str _ _) (Value.int _ _)) _ _ _)); first | (walk1 <;> (try dsimp only)) | (dsimp only; walk1) | (dsimp only; k_unfold; (try dsimp only))) | fail "no step"))
      refine' pickAt (s := ⟨_, _, _, _, _⟩) LL hletk0 ?lqL1 ?lrL1 ?lxL1 ?llL1 ?_ ?lsL1 ?ltL1
      (case lqL1 => exact hletk1)
      (case lrL1 => decide)
      (case lxL1 => decide)
      (case llL1 => decide)
      (case lsL1 => with_unfolding_all rfl)
      (case ltL1 => intro _; with_unfolding_all rfl)
      intro lc tlc hlc
      (repeat' (first | (k_unfold; (try dsimp only)) | ((fail_if_success (with_reducible show wpAny _ _ (PySem.call (Value.ref 102) _ _) _ _ _)); (fail_if_success (with_reducible show wpAny _ _ (PySem.call (Value.ref 76) _ _) _ _ _)); (fail_if_success (with_reducible show wpAny _ _ (PySem.call (Value.ref 83) _ _) _ _ _)); (fail_if_success (with_reducible show wpAny _ _ (PySem.call (Value.ref 90) _ _) _ _ _)); (fail_if_success (with_reducible show wpAny _ _ (PySem.call (Value.ref 109) _ _) _ _ _)); (fail_if_success (with_reducible show wpAny _ _ (PySem.call (Value.ref 114) _ _) _ _ _)); (fail_if_success (with_reducible show wpAny _ _ (PySem.call (Value.ref 121) _ _) _ _ _)); (fail_if_success (with_reducible show wpAny _ _ (PySem.exec (PySem.Stmt.For _ _ _ _ _) _) _ _ _)); (fail_if_success (with_reducible show wpAny _ _ (PySem.pyIter (Value.ref _)) _ _ _)); (fail_if_success (with_reducible show wpAny _ _ (PySem.eval (PySem.Expr.IfExp _ _ _ _) _) _ _ _)); (fail_if_success (with_reducible show wpAny _ _ (PySem.call (Value.builtin "str.join") _ _) _ _ _)); (fail_if_success (with_reducible show wpAny _ _ (PySem.call (Value.type "range") _ _) _ _ _)); (fail_if_success (with_reducible show wpAny _ _ (subscriptTail _ _ (Value.str _ _) (Value.int _ _)) _ _ _)); first | (walk1 <;> (try dsimp only)) | (dsimp only; walk1) | (dsimp only; k_unfold; (try dsimp only))) | fail "no step"))
      with_reducible refine viaT (fieldT field) (fun Q' hq => ?if1L1) ?af1L1
      case if1L1 =>
        unfold fieldT at hq
        by_cases hfd : 0 < field
        · rw [if_pos hfd] at hq
          walk1
          (repeat' (first | (k_unfold; (try dsimp only)) | ((fail_if_success (with_reducible show wpAny _ _ (PySem.call (Value.ref 102) _ _) _ _ _)); (fail_if_success (with_reducible show wpAny _ _ (PySem.call (Value.ref 76) _ _) _ _ _)); (fail_if_success (with_reducible show wpAny _ _ (PySem.call (Value.ref 83) _ _) _ _ _)); (fail_if_success (with_reducible show wpAny _ _ (PySem.call (Value.ref 90) _ _) _ _ _)); (fail_if_success (with_reducible show wpAny _ _ (PySem.call (Value.ref 109) _ _) _ _ _)); (fail_if_success (with_reducible show wpAny _ _ (PySem.call (Value.ref 114) _ _) _ _ _)); (fail_if_success (with_reducible show wpAny _ _ (PySem.call (Value.ref 121) _ _) _ _ _)); (fail_if_success (with_reducible show wpAny _ _ (PySem.exec (PySem.Stmt.For _ _ _ _ _) _) _ _ _)); (fail_if_success (with_reducible show wpAny _ _ (PySem.pyIter (Value.ref _)) _ _ _)); (fail_if_success (with_reducible show wpAny _ _ (PySem.eval (PySem.Expr.IfExp _ _ _ _) _) _ _ _)); (fail_if_success (with_reducible show wpAny _ _ (PySem.call (Value.builtin "str.join") _ _) _ _ _)); (fail_if_success (with_reducible show wpAny _ _ (PySem.call (Value.type "range") _ _) _ _ _)); (fail_if_success (with_reducible show wpAny _ _ (subscriptTail _ _ (Value.str _ _) (Value.int _ _)) _ _ _)); first | (walk1 <;> (try dsimp only)) | (dsimp only; walk1) | (dsimp only; k_unfold; (try dsimp only))) | fail "no step"))
          all_goals exact hq _ _
        · rw [if_neg hfd] at hq
          walk1
          (repeat' (first | (k_unfold; (try dsimp only)) | ((fail_if_success (with_reducible show wpAny _ _ (PySem.call (Value.ref 102) _ _) _ _ _)); (fail_if_success (with_reducible show wpAny _ _ (PySem.call (Value.ref 76) _ _) _ _ _)); (fail_if_success (with_reducible show wpAny _ _ (PySem.call (Value.ref 83) _ _) _ _ _)); (fail_if_success (with_reducible show wpAny _ _ (PySem.call (Value.ref 90) _ _) _ _ _)); (fail_if_success (with_reducible show wpAny _ _ (PySem.call (Value.ref 109) _ _) _ _ _)); (fail_if_success (with_reducible show wpAny _ _ (PySem.call (Value.ref 114) _ _) _ _ _)); (fail_if_success (with_reducible show wpAny _ _ (PySem.call (Value.ref 121) _ _) _ _ _)); (fail_if_success (with_reducible show wpAny _ _ (PySem.exec (PySem.Stmt.For _ _ _ _ _) _) _ _ _)); (fail_if_success (with_reducible show wpAny _ _ (PySem.pyIter (Value.ref _)) _ _ _)); (fail_if_success (with_reducible show wpAny _ _ (PySem.eval (PySem.Expr.IfExp _ _ _ _) _) _ _ _)); (fail_if_success (with_reducible show wpAny _ _ (PySem.call (Value.builtin "str.join") _ _) _ _ _)); (fail_if_success (with_reducible show wpAny _ _ (PySem.call (Value.type "range") _ _) _ _ _)); (fail_if_success (with_reducible show wpAny _ _ (subscriptTail _ _ (Value.str _ _) (Value.int _ _)) _ _ _)); first | (walk1 <;> (try dsimp only)) | (dsimp only; walk1) | (dsimp only; k_unfold; (try dsimp only))) | fail "no step"))
          all_goals exact hq _ _
      intro tw tkw
      (try dsimp only)
      have hfL := fieldLen (n := field) (by omega)
      have hwL := widthLen (n := width) (by omega)
      have hsL := sizeLen (n := size1 - 5) (by omega)
      have hflL : Str.length ⟨fl.toArray⟩ ≤ 3 := by simpa [Str.length] using hfl3
      have hlcL : Str.length ⟨#[lc]⟩ = 1 := rfl
      have hlet0 : Str.length "" = 0 := rfl
      have hletd : Str.length "$" = 1 := rfl
      have hletp : Str.length "." = 1 := rfl
      (repeat' (first | (k_unfold; (try dsimp only)) | ((fail_if_success (with_reducible show wpAny _ _ (PySem.call (Value.ref 102) _ _) _ _ _)); (fail_if_success (with_reducible show wpAny _ _ (PySem.call (Value.ref 76) _ _) _ _ _)); (fail_if_success (with_reducible show wpAny _ _ (PySem.call (Value.ref 83) _ _) _ _ _)); (fail_if_success (with_reducible show wpAny _ _ (PySem.call (Value.ref 90) _ _) _ _ _)); (fail_if_success (with_reducible show wpAny _ _ (PySem.call (Value.ref 109) _ _) _ _ _)); (fail_if_success (with_reducible show wpAny _ _ (PySem.call (Value.ref 114) _ _) _ _ _)); (fail_if_success (with_reducible show wpAny _ _ (PySem.call (Value.ref 121) _ _) _ _ _)); (fail_if_success (with_reducible show wpAny _ _ (PySem.exec (PySem.Stmt.For _ _ _ _ _) _) _ _ _)); (fail_if_success (with_reducible show wpAny _ _ (PySem.pyIter (Value.ref _)) _ _ _)); (fail_if_success (with_reducible show wpAny _ _ (PySem.eval (PySem.Expr.IfExp _ _ _ _) _) _ _ _)); (fail_if_success (with_reducible show wpAny _ _ (PySem.call (Value.builtin "str.join") _ _) _ _ _)); (fail_if_success (with_reducible show wpAny _ _ (PySem.call (Value.type "range") _ _) _ _ _)); (fail_if_success (with_reducible show wpAny _ _ (subscriptTail _ _ (Value.str _ _) (Value.int _ _)) _ _ _)); first | (walk1 <;> (try dsimp only)) | (dsimp only; walk1) | (dsimp only; k_unfold; (try dsimp only))) | fail "no step"))
      with_reducible refine viaT (widthT width) (fun Q' hq => ?if2L1) ?af2L1
      case if2L1 =>
        unfold widthT at hq
        by_cases hfd : 0 < width
        · rw [if_pos hfd] at hq
          walk1
          (repeat' (first | (k_unfold; (try dsimp only)) | ((fail_if_success (with_reducible show wpAny _ _ (PySem.call (Value.ref 102) _ _) _ _ _)); (fail_if_success (with_reducible show wpAny _ _ (PySem.call (Value.ref 76) _ _) _ _ _)); (fail_if_success (with_reducible show wpAny _ _ (PySem.call (Value.ref 83) _ _) _ _ _)); (fail_if_success (with_reducible show wpAny _ _ (PySem.call (Value.ref 90) _ _) _ _ _)); (fail_if_success (with_reducible show wpAny _ _ (PySem.call (Value.ref 109) _ _) _ _ _)); (fail_if_success (with_reducible show wpAny _ _ (PySem.call (Value.ref 114) _ _) _ _ _)); (fail_if_success (with_reducible show wpAny _ _ (PySem.call (Value.ref 121) _ _) _ _ _)); (fail_if_success (with_reducible show wpAny _ _ (PySem.exec (PySem.Stmt.For _ _ _ _ _) _) _ _ _)); (fail_if_success (with_reducible show wpAny _ _ (PySem.pyIter (Value.ref _)) _ _ _)); (fail_if_success (with_reducible show wpAny _ _ (PySem.eval (PySem.Expr.IfExp _ _ _ _) _) _ _ _)); (fail_if_success (with_reducible show wpAny _ _ (PySem.call (Value.builtin "str.join") _ _) _ _ _)); (fail_if_success (with_reducible show wpAny _ _ (PySem.call (Value.type "range") _ _) _ _ _)); (fail_if_success (with_reducible show wpAny _ _ (subscriptTail _ _ (Value.str _ _) (Value.int _ _)) _ _ _)); first | (walk1 <;> (try dsimp only)) | (dsimp only; walk1) | (dsimp only; k_unfold; (try dsimp only))) | fail "no step"))
          all_goals exact hq _ _
        · rw [if_neg hfd] at hq
          walk1
          (repeat' (first | (k_unfold; (try dsimp only)) | ((fail_if_success (with_reducible show wpAny _ _ (PySem.call (Value.ref 102) _ _) _ _ _)); (fail_if_success (with_reducible show wpAny _ _ (PySem.call (Value.ref 76) _ _) _ _ _)); (fail_if_success (with_reducible show wpAny _ _ (PySem.call (Value.ref 83) _ _) _ _ _)); (fail_if_success (with_reducible show wpAny _ _ (PySem.call (Value.ref 90) _ _) _ _ _)); (fail_if_success (with_reducible show wpAny _ _ (PySem.call (Value.ref 109) _ _) _ _ _)); (fail_if_success (with_reducible show wpAny _ _ (PySem.call (Value.ref 114) _ _) _ _ _)); (fail_if_success (with_reducible show wpAny _ _ (PySem.call (Value.ref 121) _ _) _ _ _)); (fail_if_success (with_reducible show wpAny _ _ (PySem.exec (PySem.Stmt.For _ _ _ _ _) _) _ _ _)); (fail_if_success (with_reducible show wpAny _ _ (PySem.pyIter (Value.ref _)) _ _ _)); (fail_if_success (with_reducible show wpAny _ _ (PySem.eval (PySem.Expr.IfExp _ _ _ _) _) _ _ _)); (fail_if_success (with_reducible show wpAny _ _ (PySem.call (Value.builtin "str.join") _ _) _ _ _)); (fail_if_success (with_reducible show wpAny _ _ (PySem.call (Value.type "range") _ _) _ _ _)); (fail_if_success (with_reducible show wpAny _ _ (subscriptTail _ _ (Value.str _ _) (Value.int _ _)) _ _ _)); first | (walk1 <;> (try dsimp only)) | (dsimp only; walk1) | (dsimp only; k_unfold; (try dsimp only))) | fail "no step"))
          all_goals exact hq _ _
      intro tw2 tkw2
      (try dsimp only)
      (repeat' (first | (k_unfold; (try dsimp only)) | ((fail_if_success (with_reducible show wpAny _ _ (PySem.call (Value.ref 102) _ _) _ _ _)); (fail_if_success (with_reducible show wpAny _ _ (PySem.call (Value.ref 76) _ _) _ _ _)); (fail_if_success (with_reducible show wpAny _ _ (PySem.call (Value.ref 83) _ _) _ _ _)); (fail_if_success (with_reducible show wpAny _ _ (PySem.call (Value.ref 90) _ _) _ _ _)); (fail_if_success (with_reducible show wpAny _ _ (PySem.call (Value.ref 109) _ _) _ _ _)); (fail_if_success (with_reducible show wpAny _ _ (PySem.call (Value.ref 114) _ _) _ _ _)); (fail_if_success (with_reducible show wpAny _ _ (PySem.call (Value.ref 121) _ _) _ _ _)); (fail_if_success (with_reducible show wpAny _ _ (PySem.exec (PySem.Stmt.For _ _ _ _ _) _) _ _ _)); (fail_if_success (with_reducible show wpAny _ _ (PySem.pyIter (Value.ref _)) _ _ _)); (fail_if_success (with_reducible show wpAny _ _ (PySem.eval (PySem.Expr.IfExp _ _ _ _) _) _ _ _)); (fail_if_success (with_reducible show wpAny _ _ (PySem.call (Value.builtin "str.join") _ _) _ _ _)); (fail_if_success (with_reducible show wpAny _ _ (PySem.call (Value.type "range") _ _) _ _ _)); (fail_if_success (with_reducible show wpAny _ _ (subscriptTail _ _ (Value.str _ _) (Value.int _ _)) _ _ _)); first | (walk1 <;> (try dsimp only)) | (dsimp only; walk1) | (dsimp only; k_unfold; (try dsimp only))) | fail "no step"))
      with_reducible refine viaT (sizeT (size1 - 5)) (fun Q' hq => ?if3L1) ?af3L1
      case if3L1 =>
        unfold sizeT at hq
        by_cases hfd : 0 ≤ size1 - 5
        · rw [if_pos hfd] at hq
          walk1
          (repeat' (first | (k_unfold; (try dsimp only)) | ((fail_if_success (with_reducible show wpAny _ _ (PySem.call (Value.ref 102) _ _) _ _ _)); (fail_if_success (with_reducible show wpAny _ _ (PySem.call (Value.ref 76) _ _) _ _ _)); (fail_if_success (with_reducible show wpAny _ _ (PySem.call (Value.ref 83) _ _) _ _ _)); (fail_if_success (with_reducible show wpAny _ _ (PySem.call (Value.ref 90) _ _) _ _ _)); (fail_if_success (with_reducible show wpAny _ _ (PySem.call (Value.ref 109) _ _) _ _ _)); (fail_if_success (with_reducible show wpAny _ _ (PySem.call (Value.ref 114) _ _) _ _ _)); (fail_if_success (with_reducible show wpAny _ _ (PySem.call (Value.ref 121) _ _) _ _ _)); (fail_if_success (with_reducible show wpAny _ _ (PySem.exec (PySem.Stmt.For _ _ _ _ _) _) _ _ _)); (fail_if_success (with_reducible show wpAny _ _ (PySem.pyIter (Value.ref _)) _ _ _)); (fail_if_success (with_reducible show wpAny _ _ (PySem.eval (PySem.Expr.IfExp _ _ _ _) _) _ _ _)); (fail_if_success (with_reducible show wpAny _ _ (PySem.call (Value.builtin "str.join") _ _) _ _ _)); (fail_if_success (with_reducible show wpAny _ _ (PySem.call (Value.type "range") _ _) _ _ _)); (fail_if_success (with_reducible show wpAny _ _ (subscriptTail _ _ (Value.str _ _) (Value.int _ _)) _ _ _)); first | (walk1 <;> (try dsimp only)) | (dsimp only; walk1) | (dsimp only; k_unfold; (try dsimp only))) | fail "no step"))
          all_goals exact hq _ _
        · rw [if_neg hfd] at hq
          walk1
          (repeat' (first | (k_unfold; (try dsimp only)) | ((fail_if_success (with_reducible show wpAny _ _ (PySem.call (Value.ref 102) _ _) _ _ _)); (fail_if_success (with_reducible show wpAny _ _ (PySem.call (Value.ref 76) _ _) _ _ _)); (fail_if_success (with_reducible show wpAny _ _ (PySem.call (Value.ref 83) _ _) _ _ _)); (fail_if_success (with_reducible show wpAny _ _ (PySem.call (Value.ref 90) _ _) _ _ _)); (fail_if_success (with_reducible show wpAny _ _ (PySem.call (Value.ref 109) _ _) _ _ _)); (fail_if_success (with_reducible show wpAny _ _ (PySem.call (Value.ref 114) _ _) _ _ _)); (fail_if_success (with_reducible show wpAny _ _ (PySem.call (Value.ref 121) _ _) _ _ _)); (fail_if_success (with_reducible show wpAny _ _ (PySem.exec (PySem.Stmt.For _ _ _ _ _) _) _ _ _)); (fail_if_success (with_reducible show wpAny _ _ (PySem.pyIter (Value.ref _)) _ _ _)); (fail_if_success (with_reducible show wpAny _ _ (PySem.eval (PySem.Expr.IfExp _ _ _ _) _) _ _ _)); (fail_if_success (with_reducible show wpAny _ _ (PySem.call (Value.builtin "str.join") _ _) _ _ _)); (fail_if_success (with_reducible show wpAny _ _ (PySem.call (Value.type "range") _ _) _ _ _)); (fail_if_success (with_reducible show wpAny _ _ (subscriptTail _ _ (Value.str _ _) (Value.int _ _)) _ _ _)); first | (walk1 <;> (try dsimp only)) | (dsimp only; walk1) | (dsimp only; k_unfold; (try dsimp only))) | fail "no step"))
          all_goals exact hq _ _
      intro tw3 tkw3
      (try dsimp only)
      (repeat' (first | (k_unfold; (try dsimp only)) | ((fail_if_success (with_reducible show wpAny _ _ (PySem.call (Value.ref 102) _ _) _ _ _)); (fail_if_success (with_reducible show wpAny _ _ (PySem.call (Value.ref 76) _ _) _ _ _)); (fail_if_success (with_reducible show wpAny _ _ (PySem.call (Value.ref 83) _ _) _ _ _)); (fail_if_success (with_reducible show wpAny _ _ (PySem.call (Value.ref 90) _ _) _ _ _)); (fail_if_success (with_reducible show wpAny _ _ (PySem.call (Value.ref 109) _ _) _ _ _)); (fail_if_success (with_reducible show wpAny _ _ (PySem.call (Value.ref 114) _ _) _ _ _)); (fail_if_success (with_reducible show wpAny _ _ (PySem.call (Value.ref 121) _ _) _ _ _)); (fail_if_success (with_reducible show wpAny _ _ (PySem.exec (PySem.Stmt.For _ _ _ _ _) _) _ _ _)); (fail_if_success (with_reducible show wpAny _ _ (PySem.pyIter (Value.ref _)) _ _ _)); (fail_if_success (with_reducible show wpAny _ _ (PySem.eval (PySem.Expr.IfExp _ _ _ _) _) _ _ _)); (fail_if_success (with_reducible show wpAny _ _ (PySem.call (Value.builtin "str.join") _ _) _ _ _)); (fail_if_success (with_reducible show wpAny _ _ (PySem.call (Value.type "range") _ _) _ _ _)); (fail_if_success (with_reducible show wpAny _ _ (subscriptTail _ _ (Value.str _ _) (Value.int _ _)) _ _ _)); first | (walk1 <;> (try dsimp only)) | (dsimp only; walk1) | (dsimp only; k_unfold; (try dsimp only))) | fail "no step"))
      (rename Fr g0 _ _ _ => F9); (rename News g0 _ _ _ => N9)
      refine' draw1 (s := ⟨_, _, _, _, _⟩) (news := (s1.heap.objs.size + 1, deckc) :: NR) B0 F9 X0 ?nn30L1 T0 ?hk30L1 hRne hiy22 hpos22 hlen22 ?mz30L1 ?mm30L1 ?dp30L1 ?un30L1 ?_
      (case nn30L1 => first | exact N9 | exact newsTl N9 | exact newsTl (newsTl N9) | exact newsTl (newsTl (newsTl N9)))
      (case hk30L1 => exact rfl)
      (case mz30L1 => decide)
      (case mm30L1 => decide)
      (case dp30L1 => k_room)
      (case un30L1 => units_room)
      clear F9 N9
      intro fk tfk hh30 tk30 ys30 ns30 n30 F9 N9 hiy30 hpos30 hlen30 hfk0 hfk1
      clear hiy22 hpos22 hlen22
      (repeat' (first | (k_unfold; (try dsimp only)) | ((fail_if_success (with_reducible show wpAny _ _ (PySem.call (Value.ref 102) _ _) _ _ _)); (fail_if_success (with_reducible show wpAny _ _ (PySem.call (Value.ref 76) _ _) _ _ _)); (fail_if_success (with_reducible show wpAny _ _ (PySem.call (Value.ref 83) _ _) _ _ _)); (fail_if_success (with_reducible show wpAny _ _ (PySem.call (Value.ref 90) _ _) _ _ _)); (fail_if_success (with_reducible show wpAny _ _ (PySem.call (Value.ref 109) _ _) _ _ _)); (fail_if_success (with_reducible show wpAny _ _ (PySem.call (Value.ref 114) _ _) _ _ _)); (fail_if_success (with_reducible show wpAny _ _ (PySem.call (Value.ref 121) _ _) _ _ _)); (fail_if_success (with_reducible show wpAny _ _ (PySem.exec (PySem.Stmt.For _ _ _ _ _) _) _ _ _)); (fail_if_success (with_reducible show wpAny _ _ (PySem.pyIter (Value.ref _)) _ _ _)); (fail_if_success (with_reducible show wpAny _ _ (PySem.eval (PySem.Expr.IfExp _ _ _ _) _) _ _ _)); (fail_if_success (with_reducible show wpAny _ _ (PySem.call (Value.builtin "str.join") _ _) _ _ _)); (fail_if_success (with_reducible show wpAny _ _ (PySem.call (Value.type "range") _ _) _ _ _)); (fail_if_success (with_reducible show wpAny _ _ (subscriptTail _ _ (Value.str _ _) (Value.int _ _)) _ _ _)); first | (walk1 <;> (try dsimp only)) | (dsimp only; walk1) | (dsimp only; k_unfold; (try dsimp only))) | fail "no step"))
      (rename Fr g0 _ _ _ => F9); (rename News g0 _ _ _ => N9); (rename (D < _ ∧ _) => hlD)
      refine' draw2 (s := ⟨_, _, _, _, _⟩) B0 F9 X0 N9 T0 ?hk31L2 (UpdF.tail ?un31aL2 (UpdF.head hRne)) hiy30 hpos30 hlen30 ?mz31L2 ?mm31L2 ?dp31L2 ?un31L2 ?_
      (case un31aL2 => exact Nat.ne_of_gt hlD.1)
      (case hk31L2 => exact rfl)
      (case mz31L2 => decide)
      (case mm31L2 => decide)
      (case dp31L2 => k_room)
      (case un31L2 => units_room)
      clear F9 N9
      intro rk trk hh31 tk31 ys31 ns31 n31 F9 N9 hiy31 hpos31 hlen31 hrk0 hrk1
      (try dsimp only at N9)
      clear hiy30 hpos30 hlen30
      (try dsimp only)
      refine restAt (n := 0) N9 (.head _) hrk0 hrk1 (show 3 < 1000 by decide) ?_ (by with_unfolding_all rfl)
      intro rv hrv
      refine Classical.byContradiction fun hng => ?_
      obtain ⟨rest, trest, rfl, hrest36, hrestL⟩ := restIs hrv
      refine hng ?_
      clear hng
      clear hrv
      have hfrL := sliceLen hfk0 hfk1
      have hwdL : Str.length (wordsT field width (size1 - 5) fl lc) ≤ 12 := by
        unfold wordsT
        simp only [Str.length_append]
        omega
      replace F9 := F9
      obtain ⟨m5, F9'⟩ : ∃ m5 : Str → Option Value, Fr g0 s1.heap.objs.size hh31 (kstB m5 [("words", .str (wordsT field width (size1 - 5) fl lc) _), ("width", .int width twidth), ("size", .int (size1 - 5) _), ("letter", .str ⟨#[lc]⟩ tlc), ("field", .int field tf), ("flags", .str ⟨fl.toArray⟩ t10)]) := ⟨_, frOv F9 _ (by intro p hp; simp only [List.mem_cons, List.not_mem_nil, or_false] at hp; rcases hp with rfl | rfl | rfl | rfl | rfl | rfl <;> rfl)⟩
      clear F9
      dsimp only [kstB] at F9'
      replace N9 := newsTl N9
      generalize Txt.slice "x%" none (some fk) = front at *

      (repeat' (first | (k_unfold; (try dsimp only)) | ((fail_if_success (with_reducible show wpAny _ _ (PySem.call (Value.ref 102) _ _) _ _ _)); (fail_if_success (with_reducible show wpAny _ _ (PySem.call (Value.ref 76) _ _) _ _ _)); (fail_if_success (with_reducible show wpAny _ _ (PySem.call (Value.ref 83) _ _) _ _ _)); (fail_if_success (with_reducible show wpAny _ _ (PySem.call (Value.ref 90) _ _) _ _ _)); (fail_if_success (with_reducible show wpAny _ _ (PySem.call (Value.ref 109) _ _) _ _ _)); (fail_if_success (with_reducible show wpAny _ _ (PySem.call (Value.ref 114) _ _) _ _ _)); (fail_if_success (with_reducible show wpAny _ _ (PySem.call (Value.ref 121) _ _) _ _ _)); (fail_if_success (with_reducible show wpAny _ _ (PySem.exec (PySem.Stmt.For _ _ _ _ _) _) _ _ _)); (fail_if_success (with_reducible show wpAny _ _ (PySem.pyIter (Value.ref _)) _ _ _)); (fail_if_success (with_reducible show wpAny _ _ (PySem.eval (PySem.Expr.IfExp _ _ _ _) _) _ _ _)); (fail_if_success (with_reducible show wpAny _ _ (PySem.call (Value.builtin "str.join") _ _) _ _ _)); (fail_if_success (with_reducible show wpAny _ _ (PySem.call (Value.type "range") _ _) _ _ _)); (fail_if_success (with_reducible show wpAny _ _ (subscriptTail _ _ (Value.str _ _) (Value.int _ _)) _ _ _)); first | (walk1 <;> (try dsimp only)) | (dsimp only; walk1) | (dsimp only; k_unfold; (try dsimp only))) | fail "no step"))
      (rename Fr g0 _ _ _ => F9); (rename News g0 _ _ _ => N9)
      refine' codes1 (s := ⟨_, _, _, _, _⟩) B0 F9 X0 (newsTl N9) T0 ?hk32L2 ?hl32L2 ?dp32L2 ?un32L2 ?_
      (case hk32L2 => exact rfl)
      (case hl32L2 => simp only [Str.length_append]; omega)
      (case dp32L2 => k_room)
      (case un32L2 => units_room)
      clear F9 N9
      intro cA hh32 tk32 vsC nC F9 N9 hneC hIC
      replace hIC : IntsAre vsC (cd (front ++ wordsT field width (size1 - 5) fl lc ++ rest)) := hIC
      (try dsimp only)
      (repeat' (first | (k_unfold; (try dsimp only)) | ((fail_if_success (with_reducible show wpAny _ _ (PySem.call (Value.ref 102) _ _) _ _ _)); (fail_if_success (with_reducible show wpAny _ _ (PySem.call (Value.ref 76) _ _) _ _ _)); (fail_if_success (with_reducible show wpAny _ _ (PySem.call (Value.ref 83) _ _) _ _ _)); (fail_if_success (with_reducible show wpAny _ _ (PySem.call (Value.ref 90) _ _) _ _ _)); (fail_if_success (with_reducible show wpAny _ _ (PySem.call (Value.ref 109) _ _) _ _ _)); (fail_if_success (with_reducible show wpAny _ _ (PySem.call (Value.ref 114) _ _) _ _ _)); (fail_if_success (with_reducible show wpAny _ _ (PySem.call (Value.ref 121) _ _) _ _ _)); (fail_if_success (with_reducible show wpAny _ _ (PySem.exec (PySem.Stmt.For _ _ _ _ _) _) _ _ _)); (fail_if_success (with_reducible show wpAny _ _ (PySem.pyIter (Value.ref _)) _ _ _)); (fail_if_success (with_reducible show wpAny _ _ (PySem.eval (PySem.Expr.IfExp _ _ _ _) _) _ _ _)); (fail_if_success (with_reducible show wpAny _ _ (PySem.call (Value.builtin "str.join") _ _) _ _ _)); (fail_if_success (with_reducible show wpAny _ _ (PySem.call (Value.type "range") _ _) _ _ _)); (fail_if_success (with_reducible show wpAny _ _ (subscriptTail _ _ (Value.str _ _) (Value.int _ _)) _ _ _)); first | (walk1 <;> (try dsimp only)) | (dsimp only; walk1) | (dsimp only; k_unfold; (try dsimp only))) | fail "no step"))
      (rename Fr g0 _ _ _ => F9); (rename News g0 _ _ _ => N9)
      have hlenC : (cd (front ++ wordsT field width (size1 - 5) fl lc ++ rest)).length ≤ 1000 := by
        rw [cd_length]
        simp only [Str.length_append]
        omega
      have hatC : front.length ≤ (cd (front ++ wordsT field width (size1 - 5) fl lc ++ rest)).length := by
        rw [cd_length]
        simp only [Str.length_append]
        omega
      have hrdW := read_words (front := front) (rest := rest) (lc := lc) (fl := fl) (field := field) (width := width) (size := size1 - 5) (by omega) (by omega) (by omega) (by omega) (by omega) hmem hlc hrest36
      generalize cd (front ++ wordsT field width (size1 - 5) fl lc ++ rest) = nsC at *
      refine' read1 (s := ⟨_, _, _, _, _⟩) (at₀ := front.length) B0 F9 X0 N9 T0 ?hk33L2 (List.Mem.head _) hIC hlenC ?hat33L2 hatC ?dp33L2 ?un33L2 ?ret33L2 ?err33L2
      (case hk33L2 => exact rfl)
      (case hat33L2 => exact rfl)
      (case dp33L2 => k_room)
      (case un33L2 => units_room)
      (case err33L2 => intro hno; rw [hrdW] at hno; cases hno)
      intro sv pv33 hrd33
      rw [hrdW] at hrd33
      cases hrd33
      clear F9 N9
      intro tp33 x dx es33 t33 hh33 tk33 F9 N9 hsv l1x l2x l3x
      (try dsimp only)
      (repeat' (first | (k_unfold; (try dsimp only)) | ((fail_if_success (with_reducible show wpAny _ _ (PySem.call (Value.ref 102) _ _) _ _ _)); (fail_if_success (with_reducible show wpAny _ _ (PySem.call (Value.ref 76) _ _) _ _ _)); (fail_if_success (with_reducible show wpAny _ _ (PySem.call (Value.ref 83) _ _) _ _ _)); (fail_if_success (with_reducible show wpAny _ _ (PySem.call (Value.ref 90) _ _) _ _ _)); (fail_if_success (with_reducible show wpAny _ _ (PySem.call (Value.ref 109) _ _) _ _ _)); (fail_if_success (with_reducible show wpAny _ _ (PySem.call (Value.ref 114) _ _) _ _ _)); (fail_if_success (with_reducible show wpAny _ _ (PySem.call (Value.ref 121) _ _) _ _ _)); (fail_if_success (with_reducible show wpAny _ _ (PySem.exec (PySem.Stmt.For _ _ _ _ _) _) _ _ _)); (fail_if_success (with_reducible show wpAny _ _ (PySem.pyIter (Value.ref _)) _ _ _)); (fail_if_success (with_reducible show wpAny _ _ (PySem.eval (PySem.Expr.IfExp _ _ _ _) _) _ _ _)); (fail_if_success (with_reducible show wpAny _ _ (PySem.call (Value.builtin "str.join") _ _) _ _ _)); (fail_if_success (with_reducible show wpAny _ _ (PySem.call (Value.type "range") _ _) _ _ _)); (fail_if_success (with_reducible show wpAny _ _ (subscriptTail _ _ (Value.str _ _) (Value.int _ _)) _ _ _)); first | (walk1 <;> (try dsimp only)) | (dsimp only; walk1) | (dsimp only; k_unfold; (try dsimp only))) | fail "no step"))
      (rename Fr g0 _ _ _ => F9); (rename News g0 _ _ _ => N9)
      replace N9 : News g0 s1.heap.objs.size _ ((x, instObj 51 dx) :: (dx, dictOf es33 9) :: (D, listOf ys31.toArray n31) :: (s1.heap.objs.size + 1, deckc) :: NR) := fun p hp => N9 p (by
        rcases List.mem_cons.mp hp with rfl | hp
        · exact .tail _ (.head _)
        · rcases List.mem_cons.mp hp with rfl | hp
          · exact .tail _ (.tail _ (.head _))
          · exact .tail _ (.tail _ (.tail _ (.tail _ hp))))
      refine Classical.byContradiction fun hng => ?_
      obtain ⟨kk0, kk1, kk2, kk3, kk4, kk5, kk6, kk7, kk8, tt0, tt6, tt7, tt8, hes33⟩ := hsv
      refine hng ?_
      clear hng
      subst hes33
      (repeat' (first | (k_unfold; (try dsimp only)) | ((fail_if_success (with_reducible show wpAny _ _ (PySem.call (Value.ref 102) _ _) _ _ _)); (fail_if_success (with_reducible show wpAny _ _ (PySem.call (Value.ref 76) _ _) _ _ _)); (fail_if_success (with_reducible show wpAny _ _ (PySem.call (Value.ref 83) _ _) _ _ _)); (fail_if_success (with_reducible show wpAny _ _ (PySem.call (Value.ref 90) _ _) _ _ _)); (fail_if_success (with_reducible show wpAny _ _ (PySem.call (Value.ref 109) _ _) _ _ _)); (fail_if_success (with_reducible show wpAny _ _ (PySem.call (Value.ref 114) _ _) _ _ _)); (fail_if_success (with_reducible show wpAny _ _ (PySem.call (Value.ref 121) _ _) _ _ _)); (fail_if_success (with_reducible show wpAny _ _ (PySem.exec (PySem.Stmt.For _ _ _ _ _) _) _ _ _)); (fail_if_success (with_reducible show wpAny _ _ (PySem.pyIter (Value.ref _)) _ _ _)); (fail_if_success (with_reducible show wpAny _ _ (PySem.eval (PySem.Expr.IfExp _ _ _ _) _) _ _ _)); (fail_if_success (with_reducible show wpAny _ _ (PySem.call (Value.builtin "str.join") _ _) _ _ _)); (fail_if_success (with_reducible show wpAny _ _ (PySem.call (Value.type "range") _ _) _ _ _)); (fail_if_success (with_reducible show wpAny _ _ (subscriptTail _ _ (Value.str _ _) (Value.int _ _)) _ _ _)); (fail_if_success (with_reducible show wpAny _ _ (compareOp CmpOp.NotEq (Value.ref _) (Value.ref _)) _ _ _)); (fail_if_success (with_reducible show wpAny _ _ (compareOp CmpOp.In (Value.str _ _) (Value.str _ _)) _ _ _)); first | (walk1 <;> (try dsimp only)) | (dsimp only; walk1) | (dsimp only; k_unfold; (try dsimp only))) | fail "no step"))
      refine inFl 45 (by decide) ?_
      (repeat' (first | (k_unfold; (try dsimp only)) | ((fail_if_success (with_reducible show wpAny _ _ (PySem.call (Value.ref 102) _ _) _ _ _)); (fail_if_success (with_reducible show wpAny _ _ (PySem.call (Value.ref 76) _ _) _ _ _)); (fail_if_success (with_reducible show wpAny _ _ (PySem.call (Value.ref 83) _ _) _ _ _)); (fail_if_success (with_reducible show wpAny _ _ (PySem.call (Value.ref 90) _ _) _ _ _)); (fail_if_success (with_reducible show wpAny _ _ (PySem.call (Value.ref 109) _ _) _ _ _)); (fail_if_success (with_reducible show wpAny _ _ (PySem.call (Value.ref 114) _ _) _ _ _)); (fail_if_success (with_reducible show wpAny _ _ (PySem.call (Value.ref 121) _ _) _ _ _)); (fail_if_success (with_reducible show wpAny _ _ (PySem.exec (PySem.Stmt.For _ _ _ _ _) _) _ _ _)); (fail_if_success (with_reducible show wpAny _ _ (PySem.pyIter (Value.ref _)) _ _ _)); (fail_if_success (with_reducible show wpAny _ _ (PySem.eval (PySem.Expr.IfExp _ _ _ _) _) _ _ _)); (fail_if_success (with_reducible show wpAny _ _ (PySem.call (Value.builtin "str.join") _ _) _ _ _)); (fail_if_success (with_reducible show wpAny _ _ (PySem.call (Value.type "range") _ _) _ _ _)); (fail_if_success (with_reducible show wpAny _ _ (subscriptTail _ _ (Value.str _ _) (Value.int _ _)) _ _ _)); (fail_if_success (with_reducible show wpAny _ _ (compareOp CmpOp.NotEq (Value.ref _) (Value.ref _)) _ _ _)); (fail_if_success (with_reducible show wpAny _ _ (compareOp CmpOp.In (Value.str _ _) (Value.str _ _)) _ _ _)); first | (walk1 <;> (try dsimp only)) | (dsimp only; walk1) | (dsimp only; k_unfold; (try dsimp only))) | fail "no step"))
      refine inFl 43 (by decide) ?_
      (repeat' (first | (k_unfold; (try dsimp only)) | ((fail_if_success (with_reducible show wpAny _ _ (PySem.call (Value.ref 102) _ _) _ _ _)); (fail_if_success (with_reducible show wpAny _ _ (PySem.call (Value.ref 76) _ _) _ _ _)); (fail_if_success (with_reducible show wpAny _ _ (PySem.call (Value.ref 83) _ _) _ _ _)); (fail_if_success (with_reducible show wpAny _ _ (PySem.call (Value.ref 90) _ _) _ _ _)); (fail_if_success (with_reducible show wpAny _ _ (PySem.call (Value.ref 109) _ _) _ _ _)); (fail_if_success (with_reducible show wpAny _ _ (PySem.call (Value.ref 114) _ _) _ _ _)); (fail_if_success (with_reducible show wpAny _ _ (PySem.call (Value.ref 121) _ _) _ _ _)); (fail_if_success (with_reducible show wpAny _ _ (PySem.exec (PySem.Stmt.For _ _ _ _ _) _) _ _ _)); (fail_if_success (with_reducible show wpAny _ _ (PySem.pyIter (Value.ref _)) _ _ _)); (fail_if_success (with_reducible show wpAny _ _ (PySem.eval (PySem.Expr.IfExp _ _ _ _) _) _ _ _)); (fail_if_success (with_reducible show wpAny _ _ (PySem.call (Value.builtin "str.join") _ _) _ _ _)); (fail_if_success (with_reducible show wpAny _ _ (PySem.call (Value.type "range") _ _) _ _ _)); (fail_if_success (with_reducible show wpAny _ _ (subscriptTail _ _ (Value.str _ _) (Value.int _ _)) _ _ _)); (fail_if_success (with_reducible show wpAny _ _ (compareOp CmpOp.NotEq (Value.ref _) (Value.ref _)) _ _ _)); (fail_if_success (with_reducible show wpAny _ _ (compareOp CmpOp.In (Value.str _ _) (Value.str _ _)) _ _ _)); first | (walk1 <;> (try dsimp only)) | (dsimp only; walk1) | (dsimp only; k_unfold; (try dsimp only))) | fail "no step"))
      refine inFl 32 (by decide) ?_
      (repeat' (first | (k_unfold; (try dsimp only)) | ((fail_if_success (with_reducible show wpAny _ _ (PySem.call (Value.ref 102) _ _) _ _ _)); (fail_if_success (with_reducible show wpAny _ _ (PySem.call (Value.ref 76) _ _) _ _ _)); (fail_if_success (with_reducible show wpAny _ _ (PySem.call (Value.ref 83) _ _) _ _ _)); (fail_if_success (with_reducible show wpAny _ _ (PySem.call (Value.ref 90) _ _) _ _ _)); (fail_if_success (with_reducible show wpAny _ _ (PySem.call (Value.ref 109) _ _) _ _ _)); (fail_if_success (with_reducible show wpAny _ _ (PySem.call (Value.ref 114) _ _) _ _ _)); (fail_if_success (with_reducible show wpAny _ _ (PySem.call (Value.ref 121) _ _) _ _ _)); (fail_if_success (with_reducible show wpAny _ _ (PySem.exec (PySem.Stmt.For _ _ _ _ _) _) _ _ _)); (fail_if_success (with_reducible show wpAny _ _ (PySem.pyIter (Value.ref _)) _ _ _)); (fail_if_success (with_reducible show wpAny _ _ (PySem.eval (PySem.Expr.IfExp _ _ _ _) _) _ _ _)); (fail_if_success (with_reducible show wpAny _ _ (PySem.call (Value.builtin "str.join") _ _) _ _ _)); (fail_if_success (with_reducible show wpAny _ _ (PySem.call (Value.type "range") _ _) _ _ _)); (fail_if_success (with_reducible show wpAny _ _ (subscriptTail _ _ (Value.str _ _) (Value.int _ _)) _ _ _)); (fail_if_success (with_reducible show wpAny _ _ (compareOp CmpOp.NotEq (Value.ref _) (Value.ref _)) _ _ _)); (fail_if_success (with_reducible show wpAny _ _ (compareOp CmpOp.In (Value.str _ _) (Value.str _ _)) _ _ _)); first | (walk1 <;> (try dsimp only)) | (dsimp only; walk1) | (dsimp only; k_unfold; (try dsimp only))) | fail "no step"))
      refine inFl 48 (by decide) ?_
      (repeat' (first | (k_unfold; (try dsimp only)) | ((fail_if_success (with_reducible show wpAny _ _ (PySem.call (Value.ref 102) _ _) _ _ _)); (fail_if_success (with_reducible show wpAny _ _ (PySem.call (Value.ref 76) _ _) _ _ _)); (fail_if_success (with_reducible show wpAny _ _ (PySem.call (Value.ref 83) _ _) _ _ _)); (fail_if_success (with_reducible show wpAny _ _ (PySem.call (Value.ref 90) _ _) _ _ _)); (fail_if_success (with_reducible show wpAny _ _ (PySem.call (Value.ref 109) _ _) _ _ _)); (fail_if_success (with_reducible show wpAny _ _ (PySem.call (Value.ref 114) _ _) _ _ _)); (fail_if_success (with_reducible show wpAny _ _ (PySem.call (Value.ref 121) _ _) _ _ _)); (fail_if_success (with_reducible show wpAny _ _ (PySem.exec (PySem.Stmt.For _ _ _ _ _) _) _ _ _)); (fail_if_success (with_reducible show wpAny _ _ (PySem.pyIter (Value.ref _)) _ _ _)); (fail_if_success (with_reducible show wpAny _ _ (PySem.eval (PySem.Expr.IfExp _ _ _ _) _) _ _ _)); (fail_if_success (with_reducible show wpAny _ _ (PySem.call (Value.builtin "str.join") _ _) _ _ _)); (fail_if_success (with_reducible show wpAny _ _ (PySem.call (Value.type "range") _ _) _ _ _)); (fail_if_success (with_reducible show wpAny _ _ (subscriptTail _ _ (Value.str _ _) (Value.int _ _)) _ _ _)); (fail_if_success (with_reducible show wpAny _ _ (compareOp CmpOp.NotEq (Value.ref _) (Value.ref _)) _ _ _)); (fail_if_success (with_reducible show wpAny _ _ (compareOp CmpOp.In (Value.str _ _) (Value.str _ _)) _ _ _)); first | (walk1 <;> (try dsimp only)) | (dsimp only; walk1) | (dsimp only; k_unfold; (try dsimp only))) | fail "no step"))
      refine inFl 35 (by decide) ?_
      (repeat' (first | (k_unfold; (try dsimp only)) | ((fail_if_success (with_reducible show wpAny _ _ (PySem.call (Value.ref 102) _ _) _ _ _)); (fail_if_success (with_reducible show wpAny _ _ (PySem.call (Value.ref 76) _ _) _ _ _)); (fail_if_success (with_reducible show wpAny _ _ (PySem.call (Value.ref 83) _ _) _ _ _)); (fail_if_success (with_reducible show wpAny _ _ (PySem.call (Value.ref 90) _ _) _ _ _)); (fail_if_success (with_reducible show wpAny _ _ (PySem.call (Value.ref 109) _ _) _ _ _)); (fail_if_success (with_reducible show wpAny _ _ (PySem.call (Value.ref 114) _ _) _ _ _)); (fail_if_success (with_reducible show wpAny _ _ (PySem.call (Value.ref 121) _ _) _ _ _)); (fail_if_success (with_reducible show wpAny _ _ (PySem.exec (PySem.Stmt.For _ _ _ _ _) _) _ _ _)); (fail_if_success (with_reducible show wpAny _ _ (PySem.pyIter (Value.ref _)) _ _ _)); (fail_if_success (with_reducible show wpAny _ _ (PySem.eval (PySem.Expr.IfExp _ _ _ _) _) _ _ _)); (fail_if_success (with_reducible show wpAny _ _ (PySem.call (Value.builtin "str.join") _ _) _ _ _)); (fail_if_success (with_reducible show wpAny _ _ (PySem.call (Value.type "range") _ _) _ _ _)); (fail_if_success (with_reducible show wpAny _ _ (subscriptTail _ _ (Value.str _ _) (Value.int _ _)) _ _ _)); (fail_if_success (with_reducible show wpAny _ _ (compareOp CmpOp.NotEq (Value.ref _) (Value.ref _)) _ _ _)); (fail_if_success (with_reducible show wpAny _ _ (compareOp CmpOp.In (Value.str _ _) (Value.str _ _)) _ _ _)); first | (walk1 <;> (try dsimp only)) | (dsimp only; walk1) | (dsimp only; k_unfold; (try dsimp only))) | fail "no step"))
      (rename News g0 _ _ _ => N9)
      refine neSame (by ked_read) (by ked_read) rfl (sh1 _ _ _ _ _ _) (eqr1 _ _ _ _ _ _) (by units_room) ?_
      replace N9 := newsTl (newsTl N9)
      (repeat' (first | (k_unfold; (try dsimp only)) | ((fail_if_success (with_reducible show wpAny _ _ (PySem.call (Value.ref 102) _ _) _ _ _)); (fail_if_success (with_reducible show wpAny _ _ (PySem.call (Value.ref 76) _ _) _ _ _)); (fail_if_success (with_reducible show wpAny _ _ (PySem.call (Value.ref 83) _ _) _ _ _)); (fail_if_success (with_reducible show wpAny _ _ (PySem.call (Value.ref 90) _ _) _ _ _)); (fail_if_success (with_reducible show wpAny _ _ (PySem.call (Value.ref 109) _ _) _ _ _)); (fail_if_success (with_reducible show wpAny _ _ (PySem.call (Value.ref 114) _ _) _ _ _)); (fail_if_success (with_reducible show wpAny _ _ (PySem.call (Value.ref 121) _ _) _ _ _)); (fail_if_success (with_reducible show wpAny _ _ (PySem.exec (PySem.Stmt.For _ _ _ _ _) _) _ _ _)); (fail_if_success (with_reducible show wpAny _ _ (PySem.pyIter (Value.ref _)) _ _ _)); (fail_if_success (with_reducible show wpAny _ _ (PySem.eval (PySem.Expr.IfExp _ _ _ _) _) _ _ _)); (fail_if_success (with_reducible show wpAny _ _ (PySem.call (Value.builtin "str.join") _ _) _ _ _)); (fail_if_success (with_reducible show wpAny _ _ (PySem.call (Value.type "range") _ _) _ _ _)); (fail_if_success (with_reducible show wpAny _ _ (subscriptTail _ _ (Value.str _ _) (Value.int _ _)) _ _ _)); (fail_if_success (with_reducible show wpAny _ _ (compareOp CmpOp.NotEq (Value.ref _) (Value.ref _)) _ _ _)); (fail_if_success (with_reducible show wpAny _ _ (compareOp CmpOp.In (Value.str _ _) (Value.str _ _)) _ _ _)); first | (walk1 <;> (try dsimp only)) | (dsimp only; walk1) | (dsimp only; k_unfold; (try dsimp only))) | fail "no step"))
      (rename News g0 _ _ _ => N9)
      rw [mxSame] at N9
      refine neSame (by ked_read) (by ked_read) rfl (sh2 _ _ hlc) (eqr2 _ _ _) (by units_room) ?_
      replace N9 := newsTl (newsTl N9)
      (repeat' (first | (k_unfold; (try dsimp only)) | ((fail_if_success (with_reducible show wpAny _ _ (PySem.call (Value.ref 102) _ _) _ _ _)); (fail_if_success (with_reducible show wpAny _ _ (PySem.call (Value.ref 76) _ _) _ _ _)); (fail_if_success (with_reducible show wpAny _ _ (PySem.call (Value.ref 83) _ _) _ _ _)); (fail_if_success (with_reducible show wpAny _ _ (PySem.call (Value.ref 90) _ _) _ _ _)); (fail_if_success (with_reducible show wpAny _ _ (PySem.call (Value.ref 109) _ _) _ _ _)); (fail_if_success (with_reducible show wpAny _ _ (PySem.call (Value.ref 114) _ _) _ _ _)); (fail_if_success (with_reducible show wpAny _ _ (PySem.call (Value.ref 121) _ _) _ _ _)); (fail_if_success (with_reducible show wpAny _ _ (PySem.exec (PySem.Stmt.For _ _ _ _ _) _) _ _ _)); (fail_if_success (with_reducible show wpAny _ _ (PySem.pyIter (Value.ref _)) _ _ _)); (fail_if_success (with_reducible show wpAny _ _ (PySem.eval (PySem.Expr.IfExp _ _ _ _) _) _ _ _)); (fail_if_success (with_reducible show wpAny _ _ (PySem.call (Value.builtin "str.join") _ _) _ _ _)); (fail_if_success (with_reducible show wpAny _ _ (PySem.call (Value.type "range") _ _) _ _ _)); (fail_if_success (with_reducible show wpAny _ _ (subscriptTail _ _ (Value.str _ _) (Value.int _ _)) _ _ _)); (fail_if_success (with_reducible show wpAny _ _ (compareOp CmpOp.NotEq (Value.ref _) (Value.ref _)) _ _ _)); (fail_if_success (with_reducible show wpAny _ _ (compareOp CmpOp.In (Value.str _ _) (Value.str _ _)) _ _ _)); first | (walk1 <;> (try dsimp only)) | (dsimp only; walk1) | (dsimp only; k_unfold; (try dsimp only))) | fail "no step"))
      have hDdx := ltN (a := D) (b := dx) (l1x _ (.tail _ (.head _)))
      have hdxx := ltN (a := dx) (b := x) l2x
      (rename Fr g0 _ _ _ => F9); (rename News g0 _ _ _ => N9)
      refine' draw2 (s := ⟨_, _, _, _, _⟩) B0 F9 X0 N9 T0 ?hk34L4 ?up34L4 hiy31 hpos31 hlen31 ?mz34L4 ?mm34L4 ?dp34L4 ?un34L4 ?_
      (case up34L4 => k_updF)
      (case hk34L4 => exact rfl)
      (case mz34L4 => decide)
      (case mm34L4 => decide)
      (case dp34L4 => k_room)
      (case un34L4 => units_room)
      clear F9 N9
      intro nc tnc hh34 tk34 ys34 ns34 n34 F9 N9 hiy34 hpos34 hlen34 hnc0 hnc1
      (try dsimp only at N9)
      clear hiy31 hpos31 hlen31
      (try dsimp only)
      (repeat' (first | (k_unfold; (try dsimp only)) | ((fail_if_success (with_reducible show wpAny _ _ (PySem.call (Value.ref 102) _ _) _ _ _)); (fail_if_success (with_reducible show wpAny _ _ (PySem.call (Value.ref 76) _ _) _ _ _)); (fail_if_success (with_reducible show wpAny _ _ (PySem.call (Value.ref 83) _ _) _ _ _)); (fail_if_success (with_reducible show wpAny _ _ (PySem.call (Value.ref 90) _ _) _ _ _)); (fail_if_success (with_reducible show wpAny _ _ (PySem.call (Value.ref 109) _ _) _ _ _)); (fail_if_success (with_reducible show wpAny _ _ (PySem.call (Value.ref 114) _ _) _ _ _)); (fail_if_success (with_reducible show wpAny _ _ (PySem.call (Value.ref 121) _ _) _ _ _)); (fail_if_success (with_reducible show wpAny _ _ (PySem.exec (PySem.Stmt.For _ _ _ _ _) _) _ _ _)); (fail_if_success (with_reducible show wpAny _ _ (PySem.pyIter (Value.ref _)) _ _ _)); (fail_if_success (with_reducible show wpAny _ _ (PySem.eval (PySem.Expr.IfExp _ _ _ _) _) _ _ _)); (fail_if_success (with_reducible show wpAny _ _ (PySem.call (Value.builtin "str.join") _ _) _ _ _)); (fail_if_success (with_reducible show wpAny _ _ (PySem.call (Value.type "range") _ _) _ _ _)); (fail_if_success (with_reducible show wpAny _ _ (subscriptTail _ _ (Value.str _ _) (Value.int _ _)) _ _ _)); (fail_if_success (with_reducible show wpAny _ _ (compareOp CmpOp.NotEq (Value.ref _) (Value.ref _)) _ _ _)); (fail_if_success (with_reducible show wpAny _ _ (PySem.exec (PySem.Stmt.If _ _ _ _) _) _ _ _)); first | (walk1 <;> (try dsimp only)) | (dsimp only; walk1) | (dsimp only; k_unfold; (try dsimp only))) | fail "no step"))
      (rename Fr g0 _ _ _ => F9); (rename News g0 _ _ _ => N9)
      (rename IntsAre (List.flatten (List.replicate (Int.toNat nc) _)) _ => hCo)
      (rename IntsAre (List.flatten (List.replicate (Int.toNat (width - _)) _)) _ => hBl)
      refine Classical.byContradiction fun hng => ?_
      obtain ⟨bA, bvs, cA2, cvs, esX, m6, tw6, N10, F10, hCo2, hBl2, hsv2⟩ : ∃ bA bvs cA2 cvs esX m6 tw6, News g0 s1.heap.objs.size _ ((bA, listOf (List.toArray bvs) 0) :: (cA2, listOf (List.toArray cvs) 0) :: (x, instObj 51 dx) :: (dx, dictOf esX 9) :: (D, listOf ys34.toArray n34) :: (s1.heap.objs.size + 1, deckc) :: NR) ∧ Fr g0 s1.heap.objs.size _ (kstB m6 [("blanks", .ref bA), ("codes", .ref cA2), ("spec", .ref x), ("words", .str (wordsT field width (size1 - 5) fl lc) tw6), ("flags", .str ⟨fl.toArray⟩ t10)]) ∧ IntsAre cvs (List.replicate nc.toNat 97) ∧ IntsAre bvs (List.replicate (width - (List.replicate nc.toNat (97 : Int)).length).toNat 32) ∧ SpecIs _ esX (dueSV field width (size1 - 5) fl lc) := ⟨_, _, _, _, _, _, _, fun p hp => N9 p (by
          rcases List.mem_cons.mp hp with rfl | hp
          · exact .head _
          · rcases List.mem_cons.mp hp with rfl | hp
            · exact .tail _ (.tail _ (.head _))
            · exact .tail _ (.tail _ (.tail _ (.tail _ hp)))), frOv F9 _ (by intro p hp; simp only [List.mem_cons, List.not_mem_nil, or_false] at hp; rcases hp with rfl | rfl | rfl | rfl | rfl <;> rfl), by simpa only [flat_one] using hCo, by simpa only [flat_one] using hBl, (specI rfl)⟩
      refine hng ?_
      clear hng
      clear F9 N9 hCo hBl
      dsimp only [kstB] at F10
      with_reducible refine viaN (fun R => ∀ h' tk' m', Fr g0 s1.heap.objs.size h' m' → m' "words" = some (.str (wordsT field width (size1 - 5) fl lc) tw6) → News g0 s1.heap.objs.size h' ((D, listOf ys34.toArray n34) :: (s1.heap.objs.size + 1, deckc) :: NR) → R { s1 with heap := h', toks := tk' }) (fun R R2 hq => ?ifpL4) ?afpL4
      case ifpL4 =>
        walk1
        (repeat' (first | (k_unfold; (try dsimp only)) | ((fail_if_success (with_reducible show wpAny _ _ (PySem.call (Value.ref 102) _ _) _ _ _)); (fail_if_success (with_reducible show wpAny _ _ (PySem.call (Value.ref 76) _ _) _ _ _)); (fail_if_success (with_reducible show wpAny _ _ (PySem.call (Value.ref 83) _ _) _ _ _)); (fail_if_success (with_reducible show wpAny _ _ (PySem.call (Value.ref 90) _ _) _ _ _)); (fail_if_success (with_reducible show wpAny _ _ (PySem.call (Value.ref 109) _ _) _ _ _)); (fail_if_success (with_reducible show wpAny _ _ (PySem.call (Value.ref 114) _ _) _ _ _)); (fail_if_success (with_reducible show wpAny _ _ (PySem.call (Value.ref 121) _ _) _ _ _)); (fail_if_success (with_reducible show wpAny _ _ (PySem.exec (PySem.Stmt.For _ _ _ _ _) _) _ _ _)); (fail_if_success (with_reducible show wpAny _ _ (PySem.pyIter (Value.ref _)) _ _ _)); (fail_if_success (with_reducible show wpAny _ _ (PySem.eval (PySem.Expr.IfExp _ _ _ _) _) _ _ _)); (fail_if_success (with_reducible show wpAny _ _ (PySem.call (Value.builtin "str.join") _ _) _ _ _)); (fail_if_success (with_reducible show wpAny _ _ (PySem.call (Value.type "range") _ _) _ _ _)); (fail_if_success (with_reducible show wpAny _ _ (subscriptTail _ _ (Value.str _ _) (Value.int _ _)) _ _ _)); (fail_if_success (with_reducible show wpAny _ _ (compareOp CmpOp.NotEq (Value.ref _) (Value.ref _)) _ _ _)); (fail_if_success (with_reducible show wpAny _ _ (PySem.exec (PySem.Stmt.If _ _ _ _) _) _ _ _)); first | (walk1 <;> (try dsimp only)) | (dsimp only; walk1) | (dsimp only; k_unfold; (try dsimp only))) | fail "no step"))
        refine' padded1 (s := ⟨_, _, _, _, _⟩) (v := dueSV field width (size1 - 5) fl lc) B0 F10 X0 N10 T0 ?hk35L4 (.tail _ (.tail _ (.head _))) (.tail _ (.tail _ (.tail _ (.head _)))) (.tail _ (.head _)) hsv2 hCo2 ?len35L4 ?w035L4 ?w135L4 ?dp35L4 ?un35L4 ?_
        (case hk35L4 => exact rfl)
        (case len35L4 => rw [List.length_replicate]; omega)
        (case w035L4 => exact hwidth0)
        (case w135L4 => dsimp only [dueSV]; omega)
        (case dp35L4 => k_room)
        (case un35L4 => units_room)
        clear F10 N10
        intro pA hh35 tk35 pvs pn F10 N10 hltP hPa
        dsimp only [dueSV] at hPa
        (repeat' (first | (k_unfold; (try dsimp only)) | ((fail_if_success (with_reducible show wpAny _ _ (PySem.call (Value.ref 102) _ _) _ _ _)); (fail_if_success (with_reducible show wpAny _ _ (PySem.call (Value.ref 76) _ _) _ _ _)); (fail_if_success (with_reducible show wpAny _ _ (PySem.call (Value.ref 83) _ _) _ _ _)); (fail_if_success (with_reducible show wpAny _ _ (PySem.call (Value.ref 90) _ _) _ _ _)); (fail_if_success (with_reducible show wpAny _ _ (PySem.call (Value.ref 109) _ _) _ _ _)); (fail_if_success (with_reducible show wpAny _ _ (PySem.call (Value.ref 114) _ _) _ _ _)); (fail_if_success (with_reducible show wpAny _ _ (PySem.call (Value.ref 121) _ _) _ _ _)); (fail_if_success (with_reducible show wpAny _ _ (PySem.exec (PySem.Stmt.For _ _ _ _ _) _) _ _ _)); (fail_if_success (with_reducible show wpAny _ _ (PySem.pyIter (Value.ref _)) _ _ _)); (fail_if_success (with_reducible show wpAny _ _ (PySem.eval (PySem.Expr.IfExp _ _ _ _) _) _ _ _)); (fail_if_success (with_reducible show wpAny _ _ (PySem.call (Value.builtin "str.join") _ _) _ _ _)); (fail_if_success (with_reducible show wpAny _ _ (PySem.call (Value.type "range") _ _) _ _ _)); (fail_if_success (with_reducible show wpAny _ _ (subscriptTail _ _ (Value.str _ _) (Value.int _ _)) _ _ _)); (fail_if_success (with_reducible show wpAny _ _ (compareOp CmpOp.NotEq (Value.ref _) (Value.ref _)) _ _ _)); (fail_if_success (with_reducible show wpAny _ _ (PySem.exec (PySem.Stmt.If _ _ _ _) _) _ _ _)); first | (walk1 <;> (try dsimp only)) | (dsimp only; walk1) | (dsimp only; k_unfold; (try dsimp only))) | fail "no step"))
        walk1
        (repeat' (first | (k_unfold; (try dsimp only)) | ((fail_if_success (with_reducible show wpAny _ _ (PySem.call (Value.ref 102) _ _) _ _ _)); (fail_if_success (with_reducible show wpAny _ _ (PySem.call (Value.ref 76) _ _) _ _ _)); (fail_if_success (with_reducible show wpAny _ _ (PySem.call (Value.ref 83) _ _) _ _ _)); (fail_if_success (with_reducible show wpAny _ _ (PySem.call (Value.ref 90) _ _) _ _ _)); (fail_if_success (with_reducible show wpAny _ _ (PySem.call (Value.ref 109) _ _) _ _ _)); (fail_if_success (with_reducible show wpAny _ _ (PySem.call (Value.ref 114) _ _) _ _ _)); (fail_if_success (with_reducible show wpAny _ _ (PySem.call (Value.ref 121) _ _) _ _ _)); (fail_if_success (with_reducible show wpAny _ _ (PySem.exec (PySem.Stmt.For _ _ _ _ _) _) _ _ _)); (fail_if_success (with_reducible show wpAny _ _ (PySem.pyIter (Value.ref _)) _ _ _)); (fail_if_success (with_reducible show wpAny _ _ (PySem.eval (PySem.Expr.IfExp _ _ _ _) _) _ _ _)); (fail_if_success (with_reducible show wpAny _ _ (PySem.call (Value.builtin "str.join") _ _) _ _ _)); (fail_if_success (with_reducible show wpAny _ _ (PySem.call (Value.type "range") _ _) _ _ _)); (fail_if_success (with_reducible show wpAny _ _ (subscriptTail _ _ (Value.str _ _) (Value.int _ _)) _ _ _)); (fail_if_success (with_reducible show wpAny _ _ (compareOp CmpOp.NotEq (Value.ref _) (Value.ref _)) _ _ _)); (fail_if_success (with_reducible show wpAny _ _ (PySem.exec (PySem.Stmt.If _ _ _ _) _) _ _ _)); first | (walk1 <;> (try dsimp only)) | (dsimp only; walk1) | (dsimp only; k_unfold; (try dsimp only))) | fail "no step"))
        all_goals (
          (rename Fr g0 _ _ _ => F9); (rename News g0 _ _ _ => N9)
          (rename List.isEmpty (Builtin.Str.occurrences _ _ _ _ _) = _ => hoc)
          (rename IntsAre _ (_ ++ _) => hRes)
          have h45 := occFl fl "-" 45 (by decide)
          rw [hoc] at h45
          simp only [← h45, Bool.not_true, Bool.false_eq_true, if_false, Bool.not_false, if_true] at hPa
          refine neInts N9 (.tail _ (.head _)) hPa (.head _) hRes rfl (by units_room) ?_
          (repeat' (first | (k_unfold; (try dsimp only)) | ((fail_if_success (with_reducible show wpAny _ _ (PySem.call (Value.ref 102) _ _) _ _ _)); (fail_if_success (with_reducible show wpAny _ _ (PySem.call (Value.ref 76) _ _) _ _ _)); (fail_if_success (with_reducible show wpAny _ _ (PySem.call (Value.ref 83) _ _) _ _ _)); (fail_if_success (with_reducible show wpAny _ _ (PySem.call (Value.ref 90) _ _) _ _ _)); (fail_if_success (with_reducible show wpAny _ _ (PySem.call (Value.ref 109) _ _) _ _ _)); (fail_if_success (with_reducible show wpAny _ _ (PySem.call (Value.ref 114) _ _) _ _ _)); (fail_if_success (with_reducible show wpAny _ _ (PySem.call (Value.ref 121) _ _) _ _ _)); (fail_if_success (with_reducible show wpAny _ _ (PySem.exec (PySem.Stmt.For _ _ _ _ _) _) _ _ _)); (fail_if_success (with_reducible show wpAny _ _ (PySem.pyIter (Value.ref _)) _ _ _)); (fail_if_success (with_reducible show wpAny _ _ (PySem.eval (PySem.Expr.IfExp _ _ _ _) _) _ _ _)); (fail_if_success (with_reducible show wpAny _ _ (PySem.call (Value.builtin "str.join") _ _) _ _ _)); (fail_if_success (with_reducible show wpAny _ _ (PySem.call (Value.type "range") _ _) _ _ _)); (fail_if_success (with_reducible show wpAny _ _ (subscriptTail _ _ (Value.str _ _) (Value.int _ _)) _ _ _)); (fail_if_success (with_reducible show wpAny _ _ (compareOp CmpOp.NotEq (Value.ref _) (Value.ref _)) _ _ _)); (fail_if_success (with_reducible show wpAny _ _ (PySem.exec (PySem.Stmt.If _ _ _ _) _) _ _ _)); first | (walk1 <;> (try dsimp only)) | (dsimp only; walk1) | (dsimp only; k_unfold; (try dsimp only))) | fail "no step"))
          exact hq _ _ _ F9 rfl fun p hp => N9 p (.tail _ (.tail _ (.tail _ (.tail _ (.tail _ (.tail _ hp))))))
        )
      intro hh36 tk36 m36 F9 e9 N9
      (try dsimp only)
      replace F9 := frOv F9 [("words", .str (wordsT field width (size1 - 5) fl lc) tw6)] (by intro p hp; simp only [List.mem_cons, List.not_mem_nil, or_false] at hp; subst hp; exact e9)
      dsimp only [kstB] at F9
      clear e9 N10 F10
      (repeat' (first | (k_unfold; (try dsimp only)) | ((fail_if_success (with_reducible show wpAny _ _ (PySem.call (Value.ref 102) _ _) _ _ _)); (fail_if_success (with_reducible show wpAny _ _ (PySem.call (Value.ref 76) _ _) _ _ _)); (fail_if_success (with_reducible show wpAny _ _ (PySem.call (Value.ref 83) _ _) _ _ _)); (fail_if_success (with_reducible show wpAny _ _ (PySem.call (Value.ref 90) _ _) _ _ _)); (fail_if_success (with_reducible show wpAny _ _ (PySem.call (Value.ref 109) _ _) _ _ _)); (fail_if_success (with_reducible show wpAny _ _ (PySem.call (Value.ref 114) _ _) _ _ _)); (fail_if_success (with_reducible show wpAny _ _ (PySem.call (Value.ref 121) _ _) _ _ _)); (fail_if_success (with_reducible show wpAny _ _ (PySem.pyIter (Value.ref _)) _ _ _)); (fail_if_success (with_reducible show wpAny _ _ (PySem.eval (PySem.Expr.IfExp _ _ _ _) _) _ _ _)); (fail_if_success (with_reducible show wpAny _ _ (PySem.call (Value.builtin "str.join") _ _) _ _ _)); (fail_if_success (with_reducible show wpAny _ _ (PySem.call (Value.type "range") _ _) _ _ _)); (fail_if_success (with_reducible show wpAny _ _ (subscriptTail _ _ (Value.str _ _) (Value.int _ _)) _ _ _)); (fail_if_success (with_reducible show wpAny _ _ (compareOp CmpOp.NotEq (Value.ref _) (Value.ref _)) _ _ _)); (fail_if_success (with_reducible show wpAny _ _ (PySem.exec (PySem.Stmt.If _ _ _ _) _) _ _ _)); first | (walk1 <;> (try dsimp only)) | (dsimp only; walk1) | (dsimp only; k_unfold; (try dsimp only))) | fail "no step"))
      (rename Fr g0 _ _ _ => F9); (rename News g0 _ _ _ => N9)
      refine' draw1 (s := ⟨_, _, _, _, _⟩) B0 F9 X0 N9 T0 ?hk37L5 hRne hiy34 hpos34 hlen34 ?mz37L5 ?mm37L5 ?dp37L5 ?un37L5 ?_
      (case hk37L5 => exact rfl)
      (case mz37L5 => decide)
      (case mm37L5 => decide)
      (case dp37L5 => k_room)
      (case un37L5 => units_room)
      clear F9 N9
      intro ex tex hh37 tk37 ys37 ns37 n37 F9 N9 hiy37 hpos37 hlen37 hex0 hex1
      clear hiy34 hpos34 hlen34
      (try dsimp only)
      (repeat' (first | (k_unfold; (try dsimp only)) | ((fail_if_success (with_reducible show wpAny _ _ (PySem.call (Value.ref 102) _ _) _ _ _)); (fail_if_success (with_reducible show wpAny _ _ (PySem.call (Value.ref 76) _ _) _ _ _)); (fail_if_success (with_reducible show wpAny _ _ (PySem.call (Value.ref 83) _ _) _ _ _)); (fail_if_success (with_reducible show wpAny _ _ (PySem.call (Value.ref 90) _ _) _ _ _)); (fail_if_success (with_reducible show wpAny _ _ (PySem.call (Value.ref 109) _ _) _ _ _)); (fail_if_success (with_reducible show wpAny _ _ (PySem.call (Value.ref 114) _ _) _ _ _)); (fail_if_success (with_reducible show wpAny _ _ (PySem.call (Value.ref 121) _ _) _ _ _)); (fail_if_success (with_reducible show wpAny _ _ (PySem.pyIter (Value.ref _)) _ _ _)); (fail_if_success (with_reducible show wpAny _ _ (PySem.eval (PySem.Expr.IfExp _ _ _ _) _) _ _ _)); (fail_if_success (with_reducible show wpAny _ _ (PySem.call (Value.builtin "str.join") _ _) _ _ _)); (fail_if_success (with_reducible show wpAny _ _ (PySem.call (Value.type "range") _ _) _ _ _)); (fail_if_success (with_reducible show wpAny _ _ (subscriptTail _ _ (Value.str _ _) (Value.int _ _)) _ _ _)); (fail_if_success (with_reducible show wpAny _ _ (compareOp CmpOp.NotEq (Value.ref _) (Value.ref _)) _ _ _)); (fail_if_success (with_reducible show wpAny _ _ (PySem.exec (PySem.Stmt.If _ _ _ _) _) _ _ _)); first | (walk1 <;> (try dsimp only)) | (dsimp only; walk1) | (dsimp only; k_unfold; (try dsimp only))) | fail "no step"))
      (rename Fr g0 _ _ _ => F9); (rename News g0 _ _ _ => N9)
      obtain ⟨hmn0, hmn1⟩ : 0 < (10 : Int) ^ (1 + 3 * ex).toNat ∧ (10 : Int) ^ (1 + 3 * ex).toNat ≤ 10 ^ 16 := by
        have h6 : ex = 0 ∨ ex = 1 ∨ ex = 2 ∨ ex = 3 ∨ ex = 4 ∨ ex = 5 := by omega
        rcases h6 with rfl | rfl | rfl | rfl | rfl | rfl <;> decide
      generalize (10 : Int) ^ (1 + 3 * ex).toNat = mny at *
      refine' draw1 (s := ⟨_, _, _, _, _⟩) B0 F9 X0 N9 T0 ?hk38L5 hRne hiy37 hpos37 hlen37 ?mz38L5 ?mm38L5 ?dp38L5 ?un38L5 ?_
      (case hk38L5 => exact rfl)
      (case mz38L5 => exact hmn0)
      (case mm38L5 => omega)
      (case dp38L5 => k_room)
      (case un38L5 => units_room)
      clear F9 N9
      intro nbI tnb hh38 tk38 ys38 ns38 n38 F9 N9 hiy38 hpos38 hlen38 hnb0 hnb1
      clear hiy37 hpos37 hlen37
      (try dsimp only)
      obtain ⟨nb, rfl⟩ := Int.eq_ofNat_of_zero_le hnb0
      have hnb : nb < 10 ^ 17 := by omega
      (repeat' (first | (k_unfold; (try dsimp only)) | ((fail_if_success (with_reducible show wpAny _ _ (PySem.call (Value.ref 102) _ _) _ _ _)); (fail_if_success (with_reducible show wpAny _ _ (PySem.call (Value.ref 76) _ _) _ _ _)); (fail_if_success (with_reducible show wpAny _ _ (PySem.call (Value.ref 83) _ _) _ _ _)); (fail_if_success (with_reducible show wpAny _ _ (PySem.call (Value.ref 90) _ _) _ _ _)); (fail_if_success (with_reducible show wpAny _ _ (PySem.call (Value.ref 109) _ _) _ _ _)); (fail_if_success (with_reducible show wpAny _ _ (PySem.call (Value.ref 114) _ _) _ _ _)); (fail_if_success (with_reducible show wpAny _ _ (PySem.call (Value.ref 121) _ _) _ _ _)); (fail_if_success (with_reducible show wpAny _ _ (PySem.pyIter (Value.ref _)) _ _ _)); (fail_if_success (with_reducible show wpAny _ _ (PySem.eval (PySem.Expr.IfExp _ _ _ _) _) _ _ _)); (fail_if_success (with_reducible show wpAny _ _ (PySem.call (Value.builtin "str.join") _ _) _ _ _)); (fail_if_success (with_reducible show wpAny _ _ (PySem.call (Value.type "range") _ _) _ _ _)); (fail_if_success (with_reducible show wpAny _ _ (subscriptTail _ _ (Value.str _ _) (Value.int _ _)) _ _ _)); (fail_if_success (with_reducible show wpAny _ _ (compareOp CmpOp.NotEq (Value.ref _) (Value.ref _)) _ _ _)); (fail_if_success (with_reducible show wpAny _ _ (PySem.exec (PySem.Stmt.If _ _ _ _) _) _ _ _)); first | (walk1 <;> (try dsimp only)) | (dsimp only; walk1) | (dsimp only; k_unfold; (try dsimp only))) | fail "no step"))
      (rename Fr g0 _ _ _ => F9); (rename News g0 _ _ _ => N9)
      refine iter_tupTurns (vs := [.ref _, .ref _, .ref _, .ref _]) (by rfl) F9 N9 (List.Mem.head _) rfl rfl ?_
      intro iT hiT
      refine itemsInd (fun m => m "words" = some (.str (wordsT field width (size1 - 5) fl lc) tw6) ∧ m "number" = some (.int ((nb : Nat) : Int) tnb)) ?keep39L5 ?fin39L5 _ ?turn39L5 _ ⟨rfl, rfl⟩
      case keep39L5 => exact And.intro (List.Mem.head _) trivial
      case fin39L5 =>
        clear F9 N9
        intro m39 hh39 tk39 e39 F9 N9
        (try dsimp only)
        replace N9 : News g0 s1.heap.objs.size hh39 ((D, listOf ys38.toArray n38) :: (s1.heap.objs.size + 1, deckc) :: NR) := newsTl (newsTl (newsTl (newsTl (newsTl N9))))
        replace F9 := frOv (L := s1.heap.objs.size) F9 [("words", .str (wordsT field width (size1 - 5) fl lc) tw6)] (by intro p hp; simp only [List.mem_cons, List.not_mem_nil, or_false] at hp; subst hp; exact e39.1)
        dsimp only [kstB] at F9
        clear e39
        have hwdP := wordsT_pos field width (size1 - 5) fl lc
        (repeat' (first | (k_unfold; (try dsimp only)) | ((fail_if_success (with_reducible show wpAny _ _ (PySem.call (Value.ref 102) _ _) _ _ _)); (fail_if_success (with_reducible show wpAny _ _ (PySem.call (Value.ref 76) _ _) _ _ _)); (fail_if_success (with_reducible show wpAny _ _ (PySem.call (Value.ref 83) _ _) _ _ _)); (fail_if_success (with_reducible show wpAny _ _ (PySem.call (Value.ref 90) _ _) _ _ _)); (fail_if_success (with_reducible show wpAny _ _ (PySem.call (Value.ref 109) _ _) _ _ _)); (fail_if_success (with_reducible show wpAny _ _ (PySem.call (Value.ref 114) _ _) _ _ _)); (fail_if_success (with_reducible show wpAny _ _ (PySem.call (Value.ref 121) _ _) _ _ _)); (fail_if_success (with_reducible show wpAny _ _ (PySem.exec (PySem.Stmt.For _ _ _ _ _) _) _ _ _)); (fail_if_success (with_reducible show wpAny _ _ (PySem.pyIter (Value.ref _)) _ _ _)); (fail_if_success (with_reducible show wpAny _ _ (PySem.eval (PySem.Expr.IfExp _ _ _ _) _) _ _ _)); (fail_if_success (with_reducible show wpAny _ _ (PySem.call (Value.builtin "str.join") _ _) _ _ _)); (fail_if_success (with_reducible show wpAny _ _ (PySem.call (Value.type "range") _ _) _ _ _)); (fail_if_success (with_reducible show wpAny _ _ (subscriptTail _ _ (Value.str _ _) (Value.int _ _)) _ _ _)); (fail_if_success (with_reducible show wpAny _ _ (compareOp CmpOp.NotEq (Value.ref _) (Value.ref _)) _ _ _)); (fail_if_success (with_reducible show wpAny _ _ (PySem.exec (PySem.Stmt.If _ _ _ _) _) _ _ _)); (fail_if_success (with_reducible show wpAny _ _ (PySem.eval (PySem.Expr.Lambda _ _ _ _) _) _ _ _)); first | (walk1 <;> (try dsimp only)) | (dsimp only; walk1) | (dsimp only; k_unfold; (try dsimp only))) | fail "no step"))
        (rename Fr g0 _ _ _ => F9); (rename News g0 _ _ _ => N9)
        refine' draw1 (s := ⟨_, _, _, _, _⟩) B0 F9 X0 N9 T0 ?hk50L7 hRne hiy38 hpos38 hlen38 ?mz50L7 ?mm50L7 ?dp50L7 ?un50L7 ?_
        (case hk50L7 => exact rfl)
        (case mz50L7 => omega)
        (case mm50L7 => omega)
        (case dp50L7 => k_room)
        (case un50L7 => units_room)
        clear F9 N9
        intro ck tck hh50 tk50 ys50 ns50 n50 F9 N9 hiy50 hpos50 hlen50 hck0 hck1
        clear hiy38 hpos38 hlen38
        (try dsimp only)
        (repeat' (first | (k_unfold; (try dsimp only)) | ((fail_if_success (with_reducible show wpAny _ _ (PySem.call (Value.ref 102) _ _) _ _ _)); (fail_if_success (with_reducible show wpAny _ _ (PySem.call (Value.ref 76) _ _) _ _ _)); (fail_if_success (with_reducible show wpAny _ _ (PySem.call (Value.ref 83) _ _) _ _ _)); (fail_if_success (with_reducible show wpAny _ _ (PySem.call (Value.ref 90) _ _) _ _ _)); (fail_if_success (with_reducible show wpAny _ _ (PySem.call (Value.ref 109) _ _) _ _ _)); (fail_if_success (with_reducible show wpAny _ _ (PySem.call (Value.ref 114) _ _) _ _ _)); (fail_if_success (with_reducible show wpAny _ _ (PySem.call (Value.ref 121) _ _) _ _ _)); (fail_if_success (with_reducible show wpAny _ _ (PySem.exec (PySem.Stmt.For _ _ _ _ _) _) _ _ _)); (fail_if_success (with_reducible show wpAny _ _ (PySem.pyIter (Value.ref _)) _ _ _)); (fail_if_success (with_reducible show wpAny _ _ (PySem.eval (PySem.Expr.IfExp _ _ _ _) _) _ _ _)); (fail_if_success (with_reducible show wpAny _ _ (PySem.call (Value.builtin "str.join") _ _) _ _ _)); (fail_if_success (with_reducible show wpAny _ _ (PySem.call (Value.type "range") _ _) _ _ _)); (fail_if_success (with_reducible show wpAny _ _ (subscriptTail _ _ (Value.str _ _) (Value.int _ _)) _ _ _)); (fail_if_success (with_reducible show wpAny _ _ (compareOp CmpOp.NotEq (Value.ref _) (Value.ref _)) _ _ _)); (fail_if_success (with_reducible show wpAny _ _ (PySem.exec (PySem.Stmt.If _ _ _ _) _) _ _ _)); (fail_if_success (with_reducible show wpAny _ _ (PySem.eval (PySem.Expr.Lambda _ _ _ _) _) _ _ _)); first | (walk1 <;> (try dsimp only)) | (dsimp only; walk1) | (dsimp only; k_unfold; (try dsimp only))) | fail "no step"))
        (rename Fr g0 _ _ _ => F9); (rename News g0 _ _ _ => N9)
        have hCne : ∀ p ∈ (D, listOf ys50.toArray n50) :: (I, oI) :: (s1.heap.objs.size + 1, deckc) :: (123, tabObj ps) :: ext, p.1 ≠ s1.heap.objs.size + 1 + 1 := by
          intro p hp
          rcases List.mem_cons.mp hp with rfl | hp
          · exact fun q => hDL.1 q.symm
          · rcases List.mem_cons.mp hp with rfl | hp
            · exact fun q => hneI _ (.tail _ (.head _)) q.symm
            · rcases List.mem_cons.mp hp with rfl | hp
              · exact Nat.ne_of_lt (Nat.lt_succ_self _)
              · rcases List.mem_cons.mp hp with rfl | hp
                · exact Nat.ne_of_lt (Nat.lt_trans h123 (Nat.lt_trans (Nat.lt_succ_self _) (Nat.lt_succ_self _)))
                · exact Nat.ne_of_gt (extGt htab p hp).2
        subst hNR
        replace N9 : News g0 s1.heap.objs.size _ ((s1.heap.objs.size + 1 + 1, cutc) :: (D, listOf ys50.toArray n50) :: (I, oI) :: (s1.heap.objs.size + 1, deckc) :: (123, tabObj ps) :: ext) := fun p hp => N9 p (by
          rcases List.mem_cons.mp hp with rfl | hp
          · exact .tail _ (.tail _ (.tail _ (.head _)))
          · rcases List.mem_cons.mp hp with rfl | hp
            · exact .head _
            · rcases List.mem_cons.mp hp with rfl | hp
              · exact .tail _ (.tail _ (.head _))
              · rcases List.mem_cons.mp hp with rfl | hp
                · exact .tail _ (.head _)
                · exact .tail _ (.tail _ (.tail _ (.tail _ hp))))
        k_dflt (refine' storeX_C F9 N9 ?hc51L7 (UpdF.head hCne) hcv ?_ ?hk51L7 ?hx51L7; (case hc51L7 => exact rfl); (case hk51L7 => exact rfl); (case hx51L7 => exact rfl))
        clear F9 N9
        intro hh51 cutc2 F9 N9 hcut2
        (try dsimp only at N9)
        (try dsimp only)
        (repeat' (first | (k_unfold; (try dsimp only)) | ((fail_if_success (with_reducible show wpAny _ _ (PySem.call (Value.ref 102) _ _) _ _ _)); (fail_if_success (with_reducible show wpAny _ _ (PySem.call (Value.ref 76) _ _) _ _ _)); (fail_if_success (with_reducible show wpAny _ _ (PySem.call (Value.ref 83) _ _) _ _ _)); (fail_if_success (with_reducible show wpAny _ _ (PySem.call (Value.ref 90) _ _) _ _ _)); (fail_if_success (with_reducible show wpAny _ _ (PySem.call (Value.ref 109) _ _) _ _ _)); (fail_if_success (with_reducible show wpAny _ _ (PySem.call (Value.ref 114) _ _) _ _ _)); (fail_if_success (with_reducible show wpAny _ _ (PySem.call (Value.ref 121) _ _) _ _ _)); (fail_if_success (with_reducible show wpAny _ _ (PySem.exec (PySem.Stmt.For _ _ _ _ _) _) _ _ _)); (fail_if_success (with_reducible show wpAny _ _ (PySem.pyIter (Value.ref _)) _ _ _)); (fail_if_success (with_reducible show wpAny _ _ (PySem.eval (PySem.Expr.IfExp _ _ _ _) _) _ _ _)); (fail_if_success (with_reducible show wpAny _ _ (PySem.call (Value.builtin "str.join") _ _) _ _ _)); (fail_if_success (with_reducible show wpAny _ _ (PySem.call (Value.type "range") _ _) _ _ _)); (fail_if_success (with_reducible show wpAny _ _ (subscriptTail _ _ (Value.str _ _) (Value.int _ _)) _ _ _)); (fail_if_success (with_reducible show wpAny _ _ (compareOp CmpOp.NotEq (Value.ref _) (Value.ref _)) _ _ _)); (fail_if_success (with_reducible show wpAny _ _ (PySem.exec (PySem.Stmt.If _ _ _ _) _) _ _ _)); (fail_if_success (with_reducible show wpAny _ _ (PySem.eval (PySem.Expr.Lambda _ _ _ _) _) _ _ _)); first | (walk1 <;> (try dsimp only)) | (dsimp only; walk1) | (dsimp only; k_unfold; (try dsimp only))) | fail "no step"))
        walk1
        (repeat' (first | (k_unfold; (try dsimp only)) | ((fail_if_success (with_reducible show wpAny _ _ (PySem.call (Value.ref 102) _ _) _ _ _)); (fail_if_success (with_reducible show wpAny _ _ (PySem.call (Value.ref 76) _ _) _ _ _)); (fail_if_success (with_reducible show wpAny _ _ (PySem.call (Value.ref 83) _ _) _ _ _)); (fail_if_success (with_reducible show wpAny _ _ (PySem.call (Value.ref 90) _ _) _ _ _)); (fail_if_success (with_reducible show wpAny _ _ (PySem.call (Value.ref 109) _ _) _ _ _)); (fail_if_success (with_reducible show wpAny _ _ (PySem.call (Value.ref 114) _ _) _ _ _)); (fail_if_success (with_reducible show wpAny _ _ (PySem.call (Value.ref 121) _ _) _ _ _)); (fail_if_success (with_reducible show wpAny _ _ (PySem.exec (PySem.Stmt.For _ _ _ _ _) _) _ _ _)); (fail_if_success (with_reducible show wpAny _ _ (PySem.pyIter (Value.ref _)) _ _ _)); (fail_if_success (with_reducible show wpAny _ _ (PySem.eval (PySem.Expr.IfExp _ _ _ _) _) _ _ _)); (fail_if_success (with_reducible show wpAny _ _ (PySem.call (Value.builtin "str.join") _ _) _ _ _)); (fail_if_success (with_reducible show wpAny _ _ (PySem.call (Value.type "range") _ _) _ _ _)); (fail_if_success (with_reducible show wpAny _ _ (subscriptTail _ _ (Value.str _ _) (Value.int _ _)) _ _ _)); (fail_if_success (with_reducible show wpAny _ _ (compareOp CmpOp.NotEq (Value.ref _) (Value.ref _)) _ _ _)); (fail_if_success (with_reducible show wpAny _ _ (PySem.exec (PySem.Stmt.If _ _ _ _) _) _ _ _)); (fail_if_success (with_reducible show wpAny _ _ (PySem.eval (PySem.Expr.Lambda _ _ _ _) _) _ _ _)); first | (walk1 <;> (try dsimp only)) | (dsimp only; walk1) | (dsimp only; k_unfold; (try dsimp only))) | fail "no step"))
        have h123ne : ∀ p ∈ (s1.heap.objs.size + 1 + 1, cutc2) :: (D, listOf ys50.toArray n50) :: (I, oI) :: (s1.heap.objs.size + 1, deckc) :: ([] : List (Addr × Obj)), p.1 ≠ 123 := by
          intro p hp
          rcases List.mem_cons.mp hp with rfl | hp
          · exact Nat.ne_of_gt (Nat.lt_trans h123 (Nat.lt_trans (Nat.lt_succ_self _) (Nat.lt_succ_self _)))
          · rcases List.mem_cons.mp hp with rfl | hp
            · exact fun q => hDL.2.2 q.symm
            · rcases List.mem_cons.mp hp with rfl | hp
              · exact fun q => hneI _ (.tail _ (.tail _ (.tail _ (.head _)))) q.symm
              · rcases List.mem_cons.mp hp with rfl | hp
                · exact Nat.ne_of_gt (Nat.lt_trans h123 (Nat.lt_succ_self _))
                · cases hp
        replace F9 : Fr g0 s1.heap.objs.size _ _ := F9
        obtain ⟨m52, F9'⟩ : ∃ m52, Fr g0 s1.heap.objs.size _ m52 := ⟨_, F9⟩
        clear F9
        rename Fr g0 _ _ m52 => F9
        with_reducible refine viaLam (fun params body scope qual Q' => ∀ lf c' oc vs t ctv pm hh tk, Fr g0 s1.heap.objs.size hh m52 → News g0 s1.heap.objs.size hh ((lf, kla_obj "<lambda>" qual params body scope [("cut_short", s1.heap.objs.size + 1 + 1)] pm c' ctv) :: (c', oc) :: (123, tabObj (#[] ++ #[rawInt 118, rawInt 0, .ref c'])) :: (s1.heap.objs.size + 1 + 1, cutc2) :: (D, listOf ys50.toArray n50) :: (I, oI) :: (s1.heap.objs.size + 1, deckc) :: []) → oc.data = .fields vs → vs[1]? = some (.str qual t) → D < c' → s1.heap.objs.size + 1 + 1 < c' → I ≠ c' → Q' (.ref lf) { s1 with heap := hh, toks := tk }) (fun Q' hq => ?lamL8) ?aflamL8
        case lamL8 =>
          refine Classical.byContradiction fun hng => ?_
          rcases htab with ⟨hps, hext⟩ | ⟨c', oc, vs, t, hps, hext, hoc, hvs, hDc, hDc2⟩
          · refine hng ?_
            clear hng
            replace N9 : News g0 s1.heap.objs.size _ ((123, tabObj #[]) :: (s1.heap.objs.size + 1 + 1, cutc2) :: (D, listOf ys50.toArray n50) :: (I, oI) :: (s1.heap.objs.size + 1, deckc) :: []) := fun p hp => N9 p (by
            rw [hps, hext]
            rcases List.mem_cons.mp hp with rfl | hp
            · exact .tail _ (.tail _ (.tail _ (.tail _ (.head _))))
            · rcases List.mem_cons.mp hp with rfl | hp
              · exact .head _
              · rcases List.mem_cons.mp hp with rfl | hp
                · exact .tail _ (.head _)
                · rcases List.mem_cons.mp hp with rfl | hp
                  · exact .tail _ (.tail _ (.head _))
                  · rcases List.mem_cons.mp hp with rfl | hp
                    · exact .tail _ (.tail _ (.tail _ (.head _)))
                    · cases hp)
            k_dflt (refine' kla_eval ?d0aL8 ?_; (case d0aL8 => exact rfl))
            k_dflt (refine' kla_nest F9 N9 T0 ?C60L8 ?cd60L8 (UpdF.head h123ne) ?t60L8 ?n60L8 ?cl60L8 ?_; (case cd60L8 => exact rfl); (case C60L8 => kn_code); (case t60L8 => kn_triples); (case n60L8 => kn_among); (case cl60L8 => exact rfl))
            clear F9 N9
            intro lf c' oc vs t ctv hh60 tk60 F9 N9 hoc hvs hcl1 hcl2
            (try dsimp only at N9)
            exact hq _ _ _ _ _ _ _ _ _ F9 N9 hoc hvs (hcl1 _ (.tail _ (.tail _ (.head _)))) (hcl1 _ (.tail _ (.head _))) (Nat.ne_of_lt (hcl1 _ (.tail _ (.tail _ (.tail _ (.head _))))))
          · refine hng ?_
            clear hng
            rw [hps, hext] at N9 hneI
            k_dflt (refine' kla_eval ?d0bL8 ?_; (case d0bL8 => exact rfl))
            k_dflt (refine' kla_hit F9 N9 T0 ?C61L8 ?cd61L8 (.tail _ (.tail _ (.tail _ (.tail _ (.head _))))) ?t61L8 ?n61L8 ?cl61L8 ?_; (case cd61L8 => exact rfl); (case C61L8 => kn_code); (case t61L8 => kn_triples); (case n61L8 => kn_hit); (case cl61L8 => exact rfl))
            clear F9
            intro lf ctv hh60 tk60 F9 N9 hcl1
            (try dsimp only at N9)
            exact hq _ _ _ _ _ _ _ _ _ F9 (perm7 N9) hoc hvs hDc hDc2 (fun q => hneI _ (.tail _ (.tail _ (.tail _ (.tail _ (.head _))))) q.symm)
        clear F9 N9 h123ne
        intro lf c' oc vs t ctv pm hh60 tk60 F9 N9 hoc hvs hDc hDc2 hIc
        (try dsimp only)
        (repeat' (first | (k_unfold; (try dsimp only)) | ((fail_if_success (with_reducible show wpAny _ _ (PySem.call (Value.ref 102) _ _) _ _ _)); (fail_if_success (with_reducible show wpAny _ _ (PySem.call (Value.ref 76) _ _) _ _ _)); (fail_if_success (with_reducible show wpAny _ _ (PySem.call (Value.ref 83) _ _) _ _ _)); (fail_if_success (with_reducible show wpAny _ _ (PySem.call (Value.ref 90) _ _) _ _ _)); (fail_if_success (with_reducible show wpAny _ _ (PySem.call (Value.ref 109) _ _) _ _ _)); (fail_if_success (with_reducible show wpAny _ _ (PySem.call (Value.ref 114) _ _) _ _ _)); (fail_if_success (with_reducible show wpAny _ _ (PySem.call (Value.ref 121) _ _) _ _ _)); (fail_if_success (with_reducible show wpAny _ _ (PySem.exec (PySem.Stmt.For _ _ _ _ _) _) _ _ _)); (fail_if_success (with_reducible show wpAny _ _ (PySem.pyIter (Value.ref _)) _ _ _)); (fail_if_success (with_reducible show wpAny _ _ (PySem.eval (PySem.Expr.IfExp _ _ _ _) _) _ _ _)); (fail_if_success (with_reducible show wpAny _ _ (PySem.call (Value.builtin "str.join") _ _) _ _ _)); (fail_if_success (with_reducible show wpAny _ _ (PySem.call (Value.type "range") _ _) _ _ _)); (fail_if_success (with_reducible show wpAny _ _ (subscriptTail _ _ (Value.str _ _) (Value.int _ _)) _ _ _)); (fail_if_success (with_reducible show wpAny _ _ (compareOp CmpOp.NotEq (Value.ref _) (Value.ref _)) _ _ _)); (fail_if_success (with_reducible show wpAny _ _ (PySem.exec (PySem.Stmt.If _ _ _ _) _) _ _ _)); (fail_if_success (with_reducible show wpAny _ _ (PySem.eval (PySem.Expr.Lambda _ _ _ _) _) _ _ _)); first | (walk1 <;> (try dsimp only)) | (dsimp only; walk1) | (dsimp only; k_unfold; (try dsimp only))) | fail "no step"))
        have hcutN := cut_none (field := field) (width := width) (size := size1 - 5) (fl := fl) (lc := lc) (k := ck) (by omega) (by omega) (by omega) (by omega) (by omega) hmem hck0 hck1
        have hcutL := cut_len (x := wordsT field width (size1 - 5) fl lc) (k := ck) hck0 (by omega)
        generalize Txt.slice (wordsT field width (size1 - 5) fl lc) none (some ck) = cutT at *
        refine' refused1 (s := ⟨_, _, _, _, _⟩) (lam := lf) (List.Mem.head _) B0 F9 X0 N9 T0 ?hk70L9 ?dp70L9 ?un70L9 ?deed70L9 ?_
        (case hk70L9 => exact rfl)
        (case dp70L9 => k_room)
        (case un70L9 => units_room)
        case deed70L9 =>
          clear B0 F9 N9
          intro dp' un' gd' cn' cs' L' a' ccd' A' g' m' s' Q' E' Bd Fd Xd Nd Td hkd hdpd hund hEd
          refine wpAny_call ?_
          refine' kla_code Bd Fd Xd Nd Td ?kAL9 ?kFL9 ?kKL9 (List.Mem.head _) ?k7L9 ?k8L9 ?k9L9 ?kBL9 ?_ ?c2L9 ?c3L9 ?c4L9 ?c5L9
          (case kAL9 => exact rfl)
          (case kFL9 => exact rfl)
          (case kKL9 => exact hkd)
          (case k7L9 => exact codeRec_news Nd (.tail _ (.head _)) hoc hvs)
          (case k8L9 => k_room)
          (case k9L9 => exact rfl)
          (case kBL9 => exact locs rfl)
          (case c2L9 => exact rfl)
          (case c3L9 => exact rfl)
          (case c4L9 => exact rfl)
          (case c5L9 => decide)
          intro g2 L2 h2 FG2 F2 N2 B2 X2 T2
          dsimp only
          (try k_fold)
          clear Bd Fd Xd Nd Td
          obtain ⟨mm2, F2'⟩ : ∃ mm2, Fr g2 L2 h2 mm2 := ⟨_, F2⟩
          clear F2
          generalize s'.toks + (List.length _) = tk70
          (repeat' (first | (k_unfold; (try dsimp only)) | ((fail_if_success (with_reducible show wpAny _ _ (PySem.call (Value.ref 102) _ _) _ _ _)); (fail_if_success (with_reducible show wpAny _ _ (PySem.call (Value.ref 76) _ _) _ _ _)); (fail_if_success (with_reducible show wpAny _ _ (PySem.call (Value.ref 83) _ _) _ _ _)); (fail_if_success (with_reducible show wpAny _ _ (PySem.call (Value.ref 90) _ _) _ _ _)); (fail_if_success (with_reducible show wpAny _ _ (PySem.call (Value.ref 109) _ _) _ _ _)); (fail_if_success (with_reducible show wpAny _ _ (PySem.call (Value.ref 114) _ _) _ _ _)); (fail_if_success (with_reducible show wpAny _ _ (PySem.call (Value.ref 121) _ _) _ _ _)); (fail_if_success (with_reducible show wpAny _ _ (PySem.exec (PySem.Stmt.For _ _ _ _ _) _) _ _ _)); (fail_if_success (with_reducible show wpAny _ _ (PySem.pyIter (Value.ref _)) _ _ _)); (fail_if_success (with_reducible show wpAny _ _ (PySem.eval (PySem.Expr.IfExp _ _ _ _) _) _ _ _)); (fail_if_success (with_reducible show wpAny _ _ (PySem.call (Value.builtin "str.join") _ _) _ _ _)); (fail_if_success (with_reducible show wpAny _ _ (PySem.call (Value.type "range") _ _) _ _ _)); (fail_if_success (with_reducible show wpAny _ _ (subscriptTail _ _ (Value.str _ _) (Value.int _ _)) _ _ _)); (fail_if_success (with_reducible show wpAny _ _ (compareOp CmpOp.NotEq (Value.ref _) (Value.ref _)) _ _ _)); (fail_if_success (with_reducible show wpAny _ _ (PySem.exec (PySem.Stmt.If _ _ _ _) _) _ _ _)); (fail_if_success (with_reducible show wpAny _ _ (PySem.eval (PySem.Expr.Lambda _ _ _ _) _) _ _ _)); first | (walk1 <;> (try dsimp only)) | (dsimp only; walk1) | (dsimp only; k_unfold; (try dsimp only))) | fail "no step"))
          refine' codes1 (s := ⟨_, _, _, _, _⟩) B2 F2' X2 N2 T2 ?hk72L9 ?hl72L9 ?dp72L9 ?un72L9 ?_
          (case hk72L9 => exact rfl)
          (case hl72L9 => omega)
          (case dp72L9 => k_room)
          (case un72L9 => units_room)
          clear F2' N2
          intro cA72 hh72 tk72 cvs72 cn72 F2 N2 hne72 hI72
          replace hI72 : IntsAre cvs72 (cd cutT) := hI72
          have hlen72 : (cd cutT).length ≤ 1000 := by rw [cd_length]; omega
          (try dsimp only)
          (repeat' (first | (k_unfold; (try dsimp only)) | ((fail_if_success (with_reducible show wpAny _ _ (PySem.call (Value.ref 102) _ _) _ _ _)); (fail_if_success (with_reducible show wpAny _ _ (PySem.call (Value.ref 76) _ _) _ _ _)); (fail_if_success (with_reducible show wpAny _ _ (PySem.call (Value.ref 83) _ _) _ _ _)); (fail_if_success (with_reducible show wpAny _ _ (PySem.call (Value.ref 90) _ _) _ _ _)); (fail_if_success (with_reducible show wpAny _ _ (PySem.call (Value.ref 109) _ _) _ _ _)); (fail_if_success (with_reducible show wpAny _ _ (PySem.call (Value.ref 114) _ _) _ _ _)); (fail_if_success (with_reducible show wpAny _ _ (PySem.call (Value.ref 121) _ _) _ _ _)); (fail_if_success (with_reducible show wpAny _ _ (PySem.exec (PySem.Stmt.For _ _ _ _ _) _) _ _ _)); (fail_if_success (with_reducible show wpAny _ _ (PySem.pyIter (Value.ref _)) _ _ _)); (fail_if_success (with_reducible show wpAny _ _ (PySem.eval (PySem.Expr.IfExp _ _ _ _) _) _ _ _)); (fail_if_success (with_reducible show wpAny _ _ (PySem.call (Value.builtin "str.join") _ _) _ _ _)); (fail_if_success (with_reducible show wpAny _ _ (PySem.call (Value.type "range") _ _) _ _ _)); (fail_if_success (with_reducible show wpAny _ _ (subscriptTail _ _ (Value.str _ _) (Value.int _ _)) _ _ _)); (fail_if_success (with_reducible show wpAny _ _ (compareOp CmpOp.NotEq (Value.ref _) (Value.ref _)) _ _ _)); (fail_if_success (with_reducible show wpAny _ _ (PySem.exec (PySem.Stmt.If _ _ _ _) _) _ _ _)); (fail_if_success (with_reducible show wpAny _ _ (PySem.eval (PySem.Expr.Lambda _ _ _ _) _) _ _ _)); first | (walk1 <;> (try dsimp only)) | (dsimp only; walk1) | (dsimp only; k_unfold; (try dsimp only))) | fail "no step"))
          refine' read1 (s := ⟨_, _, _, _, _⟩) (at₀ := 0) B2 F2 X2 N2 T2 ?hk73L9 (List.Mem.head _) hI72 hlen72 ?at73L9 ?hat73L9 ?dp73L9 ?un73L9 ?ret73L9 ?err73L9
          (case hk73L9 => exact rfl)
          (case at73L9 => exact rfl)
          (case hat73L9 => exact Nat.zero_le _)
          (case dp73L9 => k_room)
          (case un73L9 => units_room)
          (case ret73L9 => intro v p h; rw [hcutN] at h; cases h)
          intro _ g3 H3 e3 dx3 hh73 tk73 FG3 fl3
          refine fl3.leave rfl rfl FG3 fun h3 fl3' => ?_
          exact hEd _ _ _ _ _ _ FG2 (fl3'.less fun p hp => .tail _ hp)
        intro hh71 tk71 F9 N9
        (try dsimp only)
        (repeat' (first | (k_unfold; (try dsimp only)) | ((fail_if_success (with_reducible show wpAny _ _ (PySem.call (Value.ref 102) _ _) _ _ _)); (fail_if_success (with_reducible show wpAny _ _ (PySem.call (Value.ref 76) _ _) _ _ _)); (fail_if_success (with_reducible show wpAny _ _ (PySem.call (Value.ref 83) _ _) _ _ _)); (fail_if_success (with_reducible show wpAny _ _ (PySem.call (Value.ref 90) _ _) _ _ _)); (fail_if_success (with_reducible show wpAny _ _ (PySem.call (Value.ref 109) _ _) _ _ _)); (fail_if_success (with_reducible show wpAny _ _ (PySem.call (Value.ref 114) _ _) _ _ _)); (fail_if_success (with_reducible show wpAny _ _ (PySem.call (Value.ref 121) _ _) _ _ _)); (fail_if_success (with_reducible show wpAny _ _ (PySem.exec (PySem.Stmt.For _ _ _ _ _) _) _ _ _)); (fail_if_success (with_reducible show wpAny _ _ (PySem.pyIter (Value.ref _)) _ _ _)); (fail_if_success (with_reducible show wpAny _ _ (PySem.eval (PySem.Expr.IfExp _ _ _ _) _) _ _ _)); (fail_if_success (with_reducible show wpAny _ _ (PySem.call (Value.builtin "str.join") _ _) _ _ _)); (fail_if_success (with_reducible show wpAny _ _ (PySem.call (Value.type "range") _ _) _ _ _)); (fail_if_success (with_reducible show wpAny _ _ (subscriptTail _ _ (Value.str _ _) (Value.int _ _)) _ _ _)); (fail_if_success (with_reducible show wpAny _ _ (compareOp CmpOp.NotEq (Value.ref _) (Value.ref _)) _ _ _)); (fail_if_success (with_reducible show wpAny _ _ (PySem.exec (PySem.Stmt.If _ _ _ _) _) _ _ _)); (fail_if_success (with_reducible show wpAny _ _ (PySem.eval (PySem.Expr.Lambda _ _ _ _) _) _ _ _)); first | (walk1 <;> (try dsimp only)) | (dsimp only; walk1) | (dsimp only; k_unfold; (try dsimp only))) | fail "no step"))
        refine ⟨hh71, tk71, m52, _, rfl, F9, perm7b N9, ?off71L9, ys50, ns50, n50, cutc2, _, _, rfl, hiy50, hpos50, hlen50, ⟨_, hcut2⟩, Or.inr ⟨c', oc, vs, t, rfl, rfl, hoc, hvs, hDc, hDc2⟩⟩
        intro p hp
        rcases List.mem_cons.mp hp with rfl | hp
        · exact fun q => hneI _ (.head _) q
        · rcases List.mem_cons.mp hp with rfl | hp
          · exact fun q => hneI _ (.tail _ (.head _)) q
          · rcases List.mem_cons.mp hp with rfl | hp
            · exact fun q => hneI _ (.tail _ (.tail _ (.head _))) q
            · rcases List.mem_cons.mp hp with rfl | hp
              · exact fun q => hneI _ (.tail _ (.tail _ (.tail _ (.head _)))) q
              · rcases List.mem_cons.mp hp with rfl | hp
                · exact hIc.symm
                · cases hp
      case turn39L5 =>
        clear F9
        intro v39 m39 hh39 tk39 oI39 NL39 hNL39 hv39 e39 F9 N39
        have hlNL : ∀ p ∈ NL39, p.1 < iT := by rw [hNL39]; exact hiT
        have N38 := N39
        rw [hNL39] at N38
        clear hNL39
        refine Classical.byContradiction fun hng => ?_
        obtain ⟨T39, x39, r39, u1, u2, rfl, NT, hl39⟩ : ∃ T39 x39 r39 u1 u2, v39 = .ref T39 ∧ News g0 s1.heap.objs.size hh39 [(T39, tupleOf [.str x39 u1, .int ((r39 : Nat) : Int) u2])] ∧ (x39 = Str.ofString "d" ∧ r39 = 10 ∨ x39 = Str.ofString "o" ∧ r39 = 8 ∨ x39 = Str.ofString "x" ∧ r39 = 16 ∨ x39 = Str.ofString "X" ∧ r39 = 16) := by
          simp only [List.mem_cons, List.not_mem_nil, or_false] at hv39
          rcases hv39 with rfl | rfl | rfl | rfl
          · exact ⟨_, _, _, _, _, rfl, fun p hp => N38 p (by rw [List.mem_singleton.mp hp]; exact .tail _ (.tail _ (.tail _ (.tail _ (.tail _ (.head _)))))), Or.inl ⟨rfl, rfl⟩⟩
          · exact ⟨_, _, _, _, _, rfl, fun p hp => N38 p (by rw [List.mem_singleton.mp hp]; exact .tail _ (.tail _ (.tail _ (.tail _ (.head _))))), Or.inr (Or.inl ⟨rfl, rfl⟩)⟩
          · exact ⟨_, _, _, _, _, rfl, fun p hp => N38 p (by rw [List.mem_singleton.mp hp]; exact .tail _ (.tail _ (.tail _ (.head _)))), Or.inr (Or.inr (Or.inl ⟨rfl, rfl⟩))⟩
          · exact ⟨_, _, _, _, _, rfl, fun p hp => N38 p (by rw [List.mem_singleton.mp hp]; exact .tail _ (.tail _ (.head _))), Or.inr (Or.inr (Or.inr ⟨rfl, rfl⟩))⟩
        refine hng ?_
        clear hng
        clear hv39
        replace F9 : Fr g0 s1.heap.objs.size hh39 m39 := F9
        clear N9
        have N9 : News g0 s1.heap.objs.size hh39 ((T39, tupleOf [.str x39 u1, .int ((r39 : Nat) : Int) u2]) :: (iT, oI39) :: NL39) := fun p hp => (List.mem_cons.mp hp).elim (fun h => h ▸ NT _ (.head _)) fun h => N39 p h
        clear NT N39 N38
        dsimp only
        with_reducible show wpAny _ _ _ _ _ _
        k_fold
        replace F9 := frOv F9 [("words", .str (wordsT field width (size1 - 5) fl lc) tw6), ("number", .int ((nb : Nat) : Int) tnb)] (by intro p hp; simp only [List.mem_cons, List.not_mem_nil, or_false] at hp; rcases hp with rfl | rfl; exact e39.1; exact e39.2)
        dsimp only [kstB] at F9
        clear e39
        (repeat' (first | (k_unfold; (try dsimp only)) | ((fail_if_success (with_reducible show wpAny _ _ (PySem.call (Value.ref 102) _ _) _ _ _)); (fail_if_success (with_reducible show wpAny _ _ (PySem.call (Value.ref 76) _ _) _ _ _)); (fail_if_success (with_reducible show wpAny _ _ (PySem.call (Value.ref 83) _ _) _ _ _)); (fail_if_success (with_reducible show wpAny _ _ (PySem.call (Value.ref 90) _ _) _ _ _)); (fail_if_success (with_reducible show wpAny _ _ (PySem.call (Value.ref 109) _ _) _ _ _)); (fail_if_success (with_reducible show wpAny _ _ (PySem.call (Value.ref 114) _ _) _ _ _)); (fail_if_success (with_reducible show wpAny _ _ (PySem.call (Value.ref 121) _ _) _ _ _)); (fail_if_success (with_reducible show wpAny _ _ (PySem.exec (PySem.Stmt.For _ _ _ _ _) _) _ _ _)); (fail_if_success (with_reducible show wpAny _ _ (PySem.pyIter (Value.ref _)) _ _ _)); (fail_if_success (with_reducible show wpAny _ _ (PySem.eval (PySem.Expr.IfExp _ _ _ _) _) _ _ _)); (fail_if_success (with_reducible show wpAny _ _ (PySem.call (Value.builtin "str.join") _ _) _ _ _)); (fail_if_success (with_reducible show wpAny _ _ (PySem.call (Value.type "range") _ _) _ _ _)); (fail_if_success (with_reducible show wpAny _ _ (subscriptTail _ _ (Value.str _ _) (Value.int _ _)) _ _ _)); (fail_if_success (with_reducible show wpAny _ _ (compareOp CmpOp.NotEq (Value.ref _) (Value.ref _)) _ _ _)); (fail_if_success (with_reducible show wpAny _ _ (PySem.exec (PySem.Stmt.If _ _ _ _) _) _ _ _)); first | (walk1 <;> (try dsimp only)) | (dsimp only; walk1) | (dsimp only; k_unfold; (try dsimp only))) | fail "no step"))
        (rename Fr g0 _ _ _ => F9); (rename News g0 _ _ _ => N9)
        refine' nums1 (s := ⟨_, _, _, _, _⟩) (r := r39) B0 F9 X0 N9 T0 ?hk40L6 ?hr40L6 hnb ?dp40L6 ?un40L6 ?_
        (case hk40L6 => exact rfl)
        (case hr40L6 => omega)
        (case dp40L6 => k_room)
        (case un40L6 => units_room)
        clear F9 N9
        intro tdue hh40 tk40 k40 hk40 F9 N9 hkn40 hk040
        have hdl40 : (numT (dw r39 (k40 + 1) nb)).length ≤ 60 := by rw [numT_length, dw_length]; omega
        have hfin40 := dueT_eq hl39 hkn40 hk040
        have hdl41 := dueT_len (x := x39) hdl40
        generalize numT (dw r39 (k40 + 1) nb) = due40 at *
        (try dsimp only)
        (repeat' (first | (k_unfold; (try dsimp only)) | ((fail_if_success (with_reducible show wpAny _ _ (PySem.call (Value.ref 102) _ _) _ _ _)); (fail_if_success (with_reducible show wpAny _ _ (PySem.call (Value.ref 76) _ _) _ _ _)); (fail_if_success (with_reducible show wpAny _ _ (PySem.call (Value.ref 83) _ _) _ _ _)); (fail_if_success (with_reducible show wpAny _ _ (PySem.call (Value.ref 90) _ _) _ _ _)); (fail_if_success (with_reducible show wpAny _ _ (PySem.call (Value.ref 109) _ _) _ _ _)); (fail_if_success (with_reducible show wpAny _ _ (PySem.call (Value.ref 114) _ _) _ _ _)); (fail_if_success (with_reducible show wpAny _ _ (PySem.call (Value.ref 121) _ _) _ _ _)); (fail_if_success (with_reducible show wpAny _ _ (PySem.exec (PySem.Stmt.For _ _ _ _ _) _) _ _ _)); (fail_if_success (with_reducible show wpAny _ _ (PySem.pyIter (Value.ref _)) _ _ _)); (fail_if_success (with_reducible show wpAny _ _ (PySem.eval (PySem.Expr.IfExp _ _ _ _) _) _ _ _)); (fail_if_success (with_reducible show wpAny _ _ (PySem.call (Value.builtin "str.join") _ _) _ _ _)); (fail_if_success (with_reducible show wpAny _ _ (PySem.call (Value.type "range") _ _) _ _ _)); (fail_if_success (with_reducible show wpAny _ _ (subscriptTail _ _ (Value.str _ _) (Value.int _ _)) _ _ _)); (fail_if_success (with_reducible show wpAny _ _ (compareOp CmpOp.NotEq (Value.ref _) (Value.ref _)) _ _ _)); (fail_if_success (with_reducible show wpAny _ _ (PySem.exec (PySem.Stmt.If _ _ _ _) _) _ _ _)); first | (walk1 <;> (try dsimp only)) | (dsimp only; walk1) | (dsimp only; k_unfold; (try dsimp only))) | fail "no step"))
        walk1
        (repeat' (first | (k_unfold; (try dsimp only)) | ((fail_if_success (with_reducible show wpAny _ _ (PySem.call (Value.ref 102) _ _) _ _ _)); (fail_if_success (with_reducible show wpAny _ _ (PySem.call (Value.ref 76) _ _) _ _ _)); (fail_if_success (with_reducible show wpAny _ _ (PySem.call (Value.ref 83) _ _) _ _ _)); (fail_if_success (with_reducible show wpAny _ _ (PySem.call (Value.ref 90) _ _) _ _ _)); (fail_if_success (with_reducible show wpAny _ _ (PySem.call (Value.ref 109) _ _) _ _ _)); (fail_if_success (with_reducible show wpAny _ _ (PySem.call (Value.ref 114) _ _) _ _ _)); (fail_if_success (with_reducible show wpAny _ _ (PySem.call (Value.ref 121) _ _) _ _ _)); (fail_if_success (with_reducible show wpAny _ _ (PySem.exec (PySem.Stmt.For _ _ _ _ _) _) _ _ _)); (fail_if_success (with_reducible show wpAny _ _ (PySem.pyIter (Value.ref _)) _ _ _)); (fail_if_success (with_reducible show wpAny _ _ (PySem.eval (PySem.Expr.IfExp _ _ _ _) _) _ _ _)); (fail_if_success (with_reducible show wpAny _ _ (PySem.call (Value.builtin "str.join") _ _) _ _ _)); (fail_if_success (with_reducible show wpAny _ _ (PySem.call (Value.type "range") _ _) _ _ _)); (fail_if_success (with_reducible show wpAny _ _ (subscriptTail _ _ (Value.str _ _) (Value.int _ _)) _ _ _)); (fail_if_success (with_reducible show wpAny _ _ (compareOp CmpOp.NotEq (Value.ref _) (Value.ref _)) _ _ _)); (fail_if_success (with_reducible show wpAny _ _ (PySem.exec (PySem.Stmt.If _ _ _ _) _) _ _ _)); first | (walk1 <;> (try dsimp only)) | (dsimp only; walk1) | (dsimp only; k_unfold; (try dsimp only))) | fail "no step"))
        (rename Fr g0 _ _ _ => F9); (rename News g0 _ _ _ => N9)
        refine' figs1 (s := ⟨_, _, _, _, _⟩) (r := r39) (n := nb) (letter := x39) B0 F9 X0 N9 T0 ?hk41L6 hl39 hnb ?dp41L6 ?un41L6 ?_
        (case hk41L6 => exact rfl)
        (case dp41L6 => k_room)
        (case un41L6 => units_room)
        clear F9 N9
        intro fA41 hh41 tk41 fvs41 fn41 F9 N9 hlt41 hFg41
        (try dsimp only)
        (repeat' (first | (k_unfold; (try dsimp only)) | ((fail_if_success (with_reducible show wpAny _ _ (PySem.call (Value.ref 102) _ _) _ _ _)); (fail_if_success (with_reducible show wpAny _ _ (PySem.call (Value.ref 76) _ _) _ _ _)); (fail_if_success (with_reducible show wpAny _ _ (PySem.call (Value.ref 83) _ _) _ _ _)); (fail_if_success (with_reducible show wpAny _ _ (PySem.call (Value.ref 90) _ _) _ _ _)); (fail_if_success (with_reducible show wpAny _ _ (PySem.call (Value.ref 109) _ _) _ _ _)); (fail_if_success (with_reducible show wpAny _ _ (PySem.call (Value.ref 114) _ _) _ _ _)); (fail_if_success (with_reducible show wpAny _ _ (PySem.call (Value.ref 121) _ _) _ _ _)); (fail_if_success (with_reducible show wpAny _ _ (PySem.exec (PySem.Stmt.For _ _ _ _ _) _) _ _ _)); (fail_if_success (with_reducible show wpAny _ _ (PySem.pyIter (Value.ref _)) _ _ _)); (fail_if_success (with_reducible show wpAny _ _ (PySem.eval (PySem.Expr.IfExp _ _ _ _) _) _ _ _)); (fail_if_success (with_reducible show wpAny _ _ (PySem.call (Value.builtin "str.join") _ _) _ _ _)); (fail_if_success (with_reducible show wpAny _ _ (PySem.call (Value.type "range") _ _) _ _ _)); (fail_if_success (with_reducible show wpAny _ _ (subscriptTail _ _ (Value.str _ _) (Value.int _ _)) _ _ _)); (fail_if_success (with_reducible show wpAny _ _ (compareOp CmpOp.NotEq (Value.ref _) (Value.ref _)) _ _ _)); (fail_if_success (with_reducible show wpAny _ _ (PySem.exec (PySem.Stmt.If _ _ _ _) _) _ _ _)); first | (walk1 <;> (try dsimp only)) | (dsimp only; walk1) | (dsimp only; k_unfold; (try dsimp only))) | fail "no step"))
        with_reducible refine viaT (dueT x39 due40) (fun Q' hq => ?ifxL6) ?afxL6
        case ifxL6 =>
          unfold dueT at hq
          rcases hl39 with ⟨rfl, rfl⟩ | ⟨rfl, rfl⟩ | ⟨rfl, rfl⟩ | ⟨rfl, rfl⟩
          · rw [if_neg (by decide)] at hq
            walk1
            (repeat' (first | (k_unfold; (try dsimp only)) | ((fail_if_success (with_reducible show wpAny _ _ (PySem.call (Value.ref 102) _ _) _ _ _)); (fail_if_success (with_reducible show wpAny _ _ (PySem.call (Value.ref 76) _ _) _ _ _)); (fail_if_success (with_reducible show wpAny _ _ (PySem.call (Value.ref 83) _ _) _ _ _)); (fail_if_success (with_reducible show wpAny _ _ (PySem.call (Value.ref 90) _ _) _ _ _)); (fail_if_success (with_reducible show wpAny _ _ (PySem.call (Value.ref 109) _ _) _ _ _)); (fail_if_success (with_reducible show wpAny _ _ (PySem.call (Value.ref 114) _ _) _ _ _)); (fail_if_success (with_reducible show wpAny _ _ (PySem.call (Value.ref 121) _ _) _ _ _)); (fail_if_success (with_reducible show wpAny _ _ (PySem.exec (PySem.Stmt.For _ _ _ _ _) _) _ _ _)); (fail_if_success (with_reducible show wpAny _ _ (PySem.pyIter (Value.ref _)) _ _ _)); (fail_if_success (with_reducible show wpAny _ _ (PySem.eval (PySem.Expr.IfExp _ _ _ _) _) _ _ _)); (fail_if_success (with_reducible show wpAny _ _ (PySem.call (Value.builtin "str.join") _ _) _ _ _)); (fail_if_success (with_reducible show wpAny _ _ (PySem.call (Value.type "range") _ _) _ _ _)); (fail_if_success (with_reducible show wpAny _ _ (subscriptTail _ _ (Value.str _ _) (Value.int _ _)) _ _ _)); (fail_if_success (with_reducible show wpAny _ _ (compareOp CmpOp.NotEq (Value.ref _) (Value.ref _)) _ _ _)); (fail_if_success (with_reducible show wpAny _ _ (PySem.exec (PySem.Stmt.If _ _ _ _) _) _ _ _)); first | (walk1 <;> (try dsimp only)) | (dsimp only; walk1) | (dsimp only; k_unfold; (try dsimp only))) | fail "no step"))
            all_goals exact hq _ _
          · rw [if_neg (by decide)] at hq
            walk1
            (repeat' (first | (k_unfold; (try dsimp only)) | ((fail_if_success (with_reducible show wpAny _ _ (PySem.call (Value.ref 102) _ _) _ _ _)); (fail_if_success (with_reducible show wpAny _ _ (PySem.call (Value.ref 76) _ _) _ _ _)); (fail_if_success (with_reducible show wpAny _ _ (PySem.call (Value.ref 83) _ _) _ _ _)); (fail_if_success (with_reducible show wpAny _ _ (PySem.call (Value.ref 90) _ _) _ _ _)); (fail_if_success (with_reducible show wpAny _ _ (PySem.call (Value.ref 109) _ _) _ _ _)); (fail_if_success (with_reducible show wpAny _ _ (PySem.call (Value.ref 114) _ _) _ _ _)); (fail_if_success (with_reducible show wpAny _ _ (PySem.call (Value.ref 121) _ _) _ _ _)); (fail_if_success (with_reducible show wpAny _ _ (PySem.exec (PySem.Stmt.For _ _ _ _ _) _) _ _ _)); (fail_if_success (with_reducible show wpAny _ _ (PySem.pyIter (Value.ref _)) _ _ _)); (fail_if_success (with_reducible show wpAny _ _ (PySem.eval (PySem.Expr.IfExp _ _ _ _) _) _ _ _)); (fail_if_success (with_reducible show wpAny _ _ (PySem.call (Value.builtin "str.join") _ _) _ _ _)); (fail_if_success (with_reducible show wpAny _ _ (PySem.call (Value.type "range") _ _) _ _ _)); (fail_if_success (with_reducible show wpAny _ _ (subscriptTail _ _ (Value.str _ _) (Value.int _ _)) _ _ _)); (fail_if_success (with_reducible show wpAny _ _ (compareOp CmpOp.NotEq (Value.ref _) (Value.ref _)) _ _ _)); (fail_if_success (with_reducible show wpAny _ _ (PySem.exec (PySem.Stmt.If _ _ _ _) _) _ _ _)); first | (walk1 <;> (try dsimp only)) | (dsimp only; walk1) | (dsimp only; k_unfold; (try dsimp only))) | fail "no step"))
            all_goals exact hq _ _
          · rw [if_neg (by decide)] at hq
            walk1
            (repeat' (first | (k_unfold; (try dsimp only)) | ((fail_if_success (with_reducible show wpAny _ _ (PySem.call (Value.ref 102) _ _) _ _ _)); (fail_if_success (with_reducible show wpAny _ _ (PySem.call (Value.ref 76) _ _) _ _ _)); (fail_if_success (with_reducible show wpAny _ _ (PySem.call (Value.ref 83) _ _) _ _ _)); (fail_if_success (with_reducible show wpAny _ _ (PySem.call (Value.ref 90) _ _) _ _ _)); (fail_if_success (with_reducible show wpAny _ _ (PySem.call (Value.ref 109) _ _) _ _ _)); (fail_if_success (with_reducible show wpAny _ _ (PySem.call (Value.ref 114) _ _) _ _ _)); (fail_if_success (with_reducible show wpAny _ _ (PySem.call (Value.ref 121) _ _) _ _ _)); (fail_if_success (with_reducible show wpAny _ _ (PySem.exec (PySem.Stmt.For _ _ _ _ _) _) _ _ _)); (fail_if_success (with_reducible show wpAny _ _ (PySem.pyIter (Value.ref _)) _ _ _)); (fail_if_success (with_reducible show wpAny _ _ (PySem.eval (PySem.Expr.IfExp _ _ _ _) _) _ _ _)); (fail_if_success (with_reducible show wpAny _ _ (PySem.call (Value.builtin "str.join") _ _) _ _ _)); (fail_if_success (with_reducible show wpAny _ _ (PySem.call (Value.type "range") _ _) _ _ _)); (fail_if_success (with_reducible show wpAny _ _ (subscriptTail _ _ (Value.str _ _) (Value.int _ _)) _ _ _)); (fail_if_success (with_reducible show wpAny _ _ (compareOp CmpOp.NotEq (Value.ref _) (Value.ref _)) _ _ _)); (fail_if_success (with_reducible show wpAny _ _ (PySem.exec (PySem.Stmt.If _ _ _ _) _) _ _ _)); first | (walk1 <;> (try dsimp only)) | (dsimp only; walk1) | (dsimp only; k_unfold; (try dsimp only))) | fail "no step"))
            all_goals exact hq _ _
          · rw [if_pos rfl] at hq
            walk1
            (repeat' (first | (k_unfold; (try dsimp only)) | ((fail_if_success (with_reducible show wpAny _ _ (PySem.call (Value.ref 102) _ _) _ _ _)); (fail_if_success (with_reducible show wpAny _ _ (PySem.call (Value.ref 76) _ _) _ _ _)); (fail_if_success (with_reducible show wpAny _ _ (PySem.call (Value.ref 83) _ _) _ _ _)); (fail_if_success (with_reducible show wpAny _ _ (PySem.call (Value.ref 90) _ _) _ _ _)); (fail_if_success (with_reducible show wpAny _ _ (PySem.call (Value.ref 109) _ _) _ _ _)); (fail_if_success (with_reducible show wpAny _ _ (PySem.call (Value.ref 114) _ _) _ _ _)); (fail_if_success (with_reducible show wpAny _ _ (PySem.call (Value.ref 121) _ _) _ _ _)); (fail_if_success (with_reducible show wpAny _ _ (PySem.exec (PySem.Stmt.For _ _ _ _ _) _) _ _ _)); (fail_if_success (with_reducible show wpAny _ _ (PySem.pyIter (Value.ref _)) _ _ _)); (fail_if_success (with_reducible show wpAny _ _ (PySem.eval (PySem.Expr.IfExp _ _ _ _) _) _ _ _)); (fail_if_success (with_reducible show wpAny _ _ (PySem.call (Value.builtin "str.join") _ _) _ _ _)); (fail_if_success (with_reducible show wpAny _ _ (PySem.call (Value.type "range") _ _) _ _ _)); (fail_if_success (with_reducible show wpAny _ _ (subscriptTail _ _ (Value.str _ _) (Value.int _ _)) _ _ _)); (fail_if_success (with_reducible show wpAny _ _ (compareOp CmpOp.NotEq (Value.ref _) (Value.ref _)) _ _ _)); (fail_if_success (with_reducible show wpAny _ _ (PySem.exec (PySem.Stmt.If _ _ _ _) _) _ _ _)); first | (walk1 <;> (try dsimp only)) | (dsimp only; walk1) | (dsimp only; k_unfold; (try dsimp only))) | fail "no step"))
            all_goals exact hq _ _
        intro tdue2 tk42
        (try dsimp only)
        (repeat' (first | (k_unfold; (try dsimp only)) | ((fail_if_success (with_reducible show wpAny _ _ (PySem.call (Value.ref 102) _ _) _ _ _)); (fail_if_success (with_reducible show wpAny _ _ (PySem.call (Value.ref 76) _ _) _ _ _)); (fail_if_success (with_reducible show wpAny _ _ (PySem.call (Value.ref 83) _ _) _ _ _)); (fail_if_success (with_reducible show wpAny _ _ (PySem.call (Value.ref 90) _ _) _ _ _)); (fail_if_success (with_reducible show wpAny _ _ (PySem.call (Value.ref 109) _ _) _ _ _)); (fail_if_success (with_reducible show wpAny _ _ (PySem.call (Value.ref 114) _ _) _ _ _)); (fail_if_success (with_reducible show wpAny _ _ (PySem.call (Value.ref 121) _ _) _ _ _)); (fail_if_success (with_reducible show wpAny _ _ (PySem.exec (PySem.Stmt.For _ _ _ _ _) _) _ _ _)); (fail_if_success (with_reducible show wpAny _ _ (PySem.pyIter (Value.ref _)) _ _ _)); (fail_if_success (with_reducible show wpAny _ _ (PySem.eval (PySem.Expr.IfExp _ _ _ _) _) _ _ _)); (fail_if_success (with_reducible show wpAny _ _ (PySem.call (Value.builtin "str.join") _ _) _ _ _)); (fail_if_success (with_reducible show wpAny _ _ (PySem.call (Value.type "range") _ _) _ _ _)); (fail_if_success (with_reducible show wpAny _ _ (subscriptTail _ _ (Value.str _ _) (Value.int _ _)) _ _ _)); (fail_if_success (with_reducible show wpAny _ _ (compareOp CmpOp.NotEq (Value.ref _) (Value.ref _)) _ _ _)); (fail_if_success (with_reducible show wpAny _ _ (PySem.exec (PySem.Stmt.If _ _ _ _) _) _ _ _)); first | (walk1 <;> (try dsimp only)) | (dsimp only; walk1) | (dsimp only; k_unfold; (try dsimp only))) | fail "no step"))
        refine' codes1 (s := ⟨_, _, _, _, _⟩) B0 F9 X0 N9 T0 ?hk43L6 ?hl43L6 ?dp43L6 ?un43L6 ?_
        (case hk43L6 => exact rfl)
        (case hl43L6 => omega)
        (case dp43L6 => k_room)
        (case un43L6 => units_room)
        clear F9 N9
        intro cA43 hh43 tk43 cvs43 cn43 F9 N9 hne43 hI43
        replace hI43 : IntsAre cvs43 (cd (dueT x39 due40)) := hI43
        (try dsimp only)
        (repeat' (first | (k_unfold; (try dsimp only)) | ((fail_if_success (with_reducible show wpAny _ _ (PySem.call (Value.ref 102) _ _) _ _ _)); (fail_if_success (with_reducible show wpAny _ _ (PySem.call (Value.ref 76) _ _) _ _ _)); (fail_if_success (with_reducible show wpAny _ _ (PySem.call (Value.ref 83) _ _) _ _ _)); (fail_if_success (with_reducible show wpAny _ _ (PySem.call (Value.ref 90) _ _) _ _ _)); (fail_if_success (with_reducible show wpAny _ _ (PySem.call (Value.ref 109) _ _) _ _ _)); (fail_if_success (with_reducible show wpAny _ _ (PySem.call (Value.ref 114) _ _) _ _ _)); (fail_if_success (with_reducible show wpAny _ _ (PySem.call (Value.ref 121) _ _) _ _ _)); (fail_if_success (with_reducible show wpAny _ _ (PySem.exec (PySem.Stmt.For _ _ _ _ _) _) _ _ _)); (fail_if_success (with_reducible show wpAny _ _ (PySem.pyIter (Value.ref _)) _ _ _)); (fail_if_success (with_reducible show wpAny _ _ (PySem.eval (PySem.Expr.IfExp _ _ _ _) _) _ _ _)); (fail_if_success (with_reducible show wpAny _ _ (PySem.call (Value.builtin "str.join") _ _) _ _ _)); (fail_if_success (with_reducible show wpAny _ _ (PySem.call (Value.type "range") _ _) _ _ _)); (fail_if_success (with_reducible show wpAny _ _ (subscriptTail _ _ (Value.str _ _) (Value.int _ _)) _ _ _)); (fail_if_success (with_reducible show wpAny _ _ (compareOp CmpOp.NotEq (Value.ref _) (Value.ref _)) _ _ _)); (fail_if_success (with_reducible show wpAny _ _ (PySem.exec (PySem.Stmt.If _ _ _ _) _) _ _ _)); first | (walk1 <;> (try dsimp only)) | (dsimp only; walk1) | (dsimp only; k_unfold; (try dsimp only))) | fail "no step"))
        refine neInts N9 (.tail _ (.head _)) hFg41 (.head _) hI43 hfin40 (by units_room) ?_
        (repeat' (first | (k_unfold; (try dsimp only)) | ((fail_if_success (with_reducible show wpAny _ _ (PySem.call (Value.ref 102) _ _) _ _ _)); (fail_if_success (with_reducible show wpAny _ _ (PySem.call (Value.ref 76) _ _) _ _ _)); (fail_if_success (with_reducible show wpAny _ _ (PySem.call (Value.ref 83) _ _) _ _ _)); (fail_if_success (with_reducible show wpAny _ _ (PySem.call (Value.ref 90) _ _) _ _ _)); (fail_if_success (with_reducible show wpAny _ _ (PySem.call (Value.ref 109) _ _) _ _ _)); (fail_if_success (with_reducible show wpAny _ _ (PySem.call (Value.ref 114) _ _) _ _ _)); (fail_if_success (with_reducible show wpAny _ _ (PySem.call (Value.ref 121) _ _) _ _ _)); (fail_if_success (with_reducible show wpAny _ _ (PySem.exec (PySem.Stmt.For _ _ _ _ _) _) _ _ _)); (fail_if_success (with_reducible show wpAny _ _ (PySem.pyIter (Value.ref _)) _ _ _)); (fail_if_success (with_reducible show wpAny _ _ (PySem.eval (PySem.Expr.IfExp _ _ _ _) _) _ _ _)); (fail_if_success (with_reducible show wpAny _ _ (PySem.call (Value.builtin "str.join") _ _) _ _ _)); (fail_if_success (with_reducible show wpAny _ _ (PySem.call (Value.type "range") _ _) _ _ _)); (fail_if_success (with_reducible show wpAny _ _ (subscriptTail _ _ (Value.str _ _) (Value.int _ _)) _ _ _)); (fail_if_success (with_reducible show wpAny _ _ (compareOp CmpOp.NotEq (Value.ref _) (Value.ref _)) _ _ _)); (fail_if_success (with_reducible show wpAny _ _ (PySem.exec (PySem.Stmt.If _ _ _ _) _) _ _ _)); first | (walk1 <;> (try dsimp only)) | (dsimp only; walk1) | (dsimp only; k_unfold; (try dsimp only))) | fail "no step"))
        exact ⟨_, _, _, NL39, rfl, F9, fun p hp => N9 p (.tail _ (.tail _ (.tail _ hp))), fun p hp q hq => by rw [List.mem_singleton.mp hq]; exact Nat.ne_of_lt (hlNL p hp), rfl, rfl, rfl⟩)
end Mine
end

end

theorem PySem.Challenge.cw_ok0043_01_holds : PySem.Challenge.rw_ok0043_01.Holds := by
  exact Mine.lawHolds
