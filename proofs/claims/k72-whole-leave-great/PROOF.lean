import PyProof.Rows.All
import Wide.All
import OpenK.AllK
import Wide.FinOn
import KE.KStateDown
import Lean
import KE.SortData
import HandS.ForMost
import HandS.Exc
import HandS.TryOnly
import HandS.ExcOwn
import HandS.WordsExc
import HandS.Defaults
import HandS.Walk
import HandS.Wide
import HandS.IsInst
import HandS.More
import HandS.DictComp
import HandS.Conv
import HandS.Style
import HandS.OwnEq
import HandS.Codes
import HandS.Flt
import HandS.Set
import HandS.TupAny
import HandS.Sort
import HandS.SortOrd
import HandS.Head0
import HandS.Head1
import HandS.Head2
import HandS.HeadEnd
import HandS.HeadHook1
import HandS.HeadHook2
import PySem.Challenge.RW_eitherpays_k72_whole_leave_great
import KE.DataMinMax
import KE.DataEq
import KE.DataCmp
import HandS.SortKw
import HandS.DictTup
import KE.KDictCopyH
import HandS.SetBool
import HandS.Words
set_option Elab.async false
set_option linter.all false
set_option maxRecDepth 100000
set_option maxHeartbeats 4000000
/-! ## base: the text by places, the facts of the top, calls of the text's own defs, heaps that grow -/
namespace Ep
open PySem PySem.Spec PyProof.Rows L2
def top (i : Nat) : Stmt := PySem.Challenge.pw_eitherpays_k72_whole_leave_great.main.body.getD i (.Pass ⟨0, 0, 0, 0⟩)
/-! ### calls -/
abbrev FnP (K : PySem.W.Frag) (x qual : Str) (st : Stmt) (f : Addr) (fd : FuncData) : Prop := FunD K x qual (defArgs st) (defBody st) (defScope st) [] [] f fd
/-- a def of the text, reached by its module's name -/
def Df (P : Program) (w : World) (K : PySem.W.Frag) (mg : Str → Option Value) (base : Heap) (CX : CXT) (k : Nat) (x : Str) (ps : List Str) (sp : Sp) : Prop :=
  ∃ f fd, FnOk P w K mg base CX k f fd ps sp ∧ mg x = some (.ref f) ∧ PySem.W.keepIn K (.ref f) = true ∧ Binds K fd ps []
/-- a method -/
def Dm (P : Program) (w : World) (K : PySem.W.Frag) (mg : Str → Option Value) (base : Heap) (k : Nat) (C : Addr) (m : Str) (ps : List Str) (sp : Sp) : Prop :=
  Cls K C ∧ ∃ f fd, FnOk P w K mg base CX0 k f fd ps sp ∧ Meth K C m f ∧ Binds K fd ps []
/-- a class's __init__ -/
def Dk (P : Program) (w : World) (K : PySem.W.Frag) (mg : Str → Option Value) (base : Heap) (k : Nat) (x : Str) (C : Addr) (ps : List Str) (sp : Sp) : Prop :=
  ∃ f fd, FnOk P w K mg base CX0 k f fd ps sp ∧ Mk K C f ∧ mg x = some (.ref C) ∧ Binds K fd ps []
def tCl (sp : Sp) (E : XK) (t : TA) : TE := fun σ H Q => t σ H fun vs H1 => sp vs H1 Q E
def tMt (C : Addr) (m : Str) (sp : Sp) (ta : TE) (t : TA) : TE := fun σ H Q => ta σ H fun x H1 => ∃ a dx fs, x = .ref a ∧ H1 a = some (.ins C dx fs) ∧ fs.lookup m = none ∧ t σ H1 fun vs H2 => sp (x :: vs) H2 Q E0
def tMk (C : Addr) (sp : Sp) (t : TA) : TE := fun σ H Q => t σ H fun vs H1 => ∀ x dx, H1 x = none → H1 dx = none → dx ≠ x → sp (.ref x :: vs) (upd (upd H1 dx (.own x)) x (.ins C dx [])) (fun v H2 => v = .non ∧ Q (.ref x) H2) E0
section
variable {X : Cx} {k j : Nat} {x m : Str} {C : Addr} {p pos apos : Pos} {e o : Expr} {es : List Expr} {t : TA} {ta : TE} {ps : List Str} {sp : Sp}
theorem pe_df (D : Df X.prog X.w X.K X.mg X.base CX0 k x ps sp) (hr : Room j X.A) (ha : PA X (e :: es) t) (hj : k ≤ j := by decide) (hg : Gl X x := by rfl) (hdb : (x == ("__debug__" : Str)) = false := by decide)
    (he : starEach (e :: es) X.env = (false, eval e X.env) :: starEach es X.env := by rfl) (hpl : (backTo pos (starEach es X.env)).any (·.1) = false := by rfl) : PE X (.Call (.Name x p) (e :: es) [] pos) (tCl sp E0 t) := by
  obtain ⟨f, fd, F, hm, hk, hb⟩ := D
  have q := pe_call (p := p) (E := E0) F (hr.mono hj) hg hm hk hb .nil pass0 ha hdb he hpl
  refine ⟨fun pins s σ H Q I h => q.run pins s σ H Q I ?_⟩
  show t σ H fun vs H1 => sp (vs ++ []) H1 Q E0
  simp only [List.append_nil]
  exact h
/-- a def that may raise, called where it does not -/
theorem pe_dfL (D : Df X.prog X.w X.K X.mg X.base (L2.CX X.prog X.w) k x ps sp) (hr : Room j X.A) (ha : PA X (e :: es) t) (hj : k ≤ j := by decide) (hg : Gl X x := by rfl) (hdb : (x == ("__debug__" : Str)) = false := by decide)
    (he : starEach (e :: es) X.env = (false, eval e X.env) :: starEach es X.env := by rfl) (hpl : (backTo pos (starEach es X.env)).any (·.1) = false := by rfl) : PE X (.Call (.Name x p) (e :: es) [] pos) (tCl sp E0 t) := by
  obtain ⟨f, fd, F, hm, hk, hb⟩ := D
  have q := pe_call (p := p) (E := E0) F (hr.mono hj) hg hm hk hb .nil passL ha hdb he hpl
  refine ⟨fun pins s σ H Q I h => q.run pins s σ H Q I ?_⟩
  show t σ H fun vs H1 => sp (vs ++ []) H1 Q E0
  simp only [List.append_nil]
  exact h
/-- a def that may raise, E what is wanted of it -/
theorem pe_dfX {E : XK} (D : Df X.prog X.w X.K X.mg X.base (L2.CX X.prog X.w) k x ps sp) (hr : Room j X.A) (hx : Passes (L2.CX X.prog X.w) X E) (ha : PA X (e :: es) t) (hj : k ≤ j := by decide) (hg : Gl X x := by rfl) (hdb : (x == ("__debug__" : Str)) = false := by decide)
    (he : starEach (e :: es) X.env = (false, eval e X.env) :: starEach es X.env := by rfl) (hpl : (backTo pos (starEach es X.env)).any (·.1) = false := by rfl) : PE X (.Call (.Name x p) (e :: es) [] pos) (tCl sp E t) := by
  obtain ⟨f, fd, F, hm, hk, hb⟩ := D
  have q := pe_call (p := p) (E := E) F (hr.mono hj) hg hm hk hb .nil hx ha hdb he hpl
  refine ⟨fun pins s σ H Q I h => q.run pins s σ H Q I ?_⟩
  show t σ H fun vs H1 => sp (vs ++ []) H1 Q E
  simp only [List.append_nil]
  exact h
theorem pe_dm {pl : Sem Bool} (D : Dm X.prog X.w X.K X.mg X.base k C m ps sp) (hr : Room j X.A) (he : PE X o ta) (ha : PA X (e :: es) t) (hj : k ≤ j := by decide)
    (hst : starEach (e :: es) X.env = (false, eval e X.env) :: starEach es X.env := by rfl) (hpl : (backTo pos (starEach es X.env)).any (·.1) = false := by rfl)
    (ht : eval (.Call (.Attribute o m apos) (e :: es) [] pos) X.env = (do
      let ov ← eval o X.env
      standAt apos.atName
      let (f, first) ← holding [ov] (getMethod ov m pl)
      callWith pos f first (backTo pos (starEach (e :: es) X.env)) (backToKw pos (keywordEach [] X.env))) := by rfl) :
    PE X (.Call (.Attribute o m apos) (e :: es) [] pos) (tMt C m sp ta t) := by
  obtain ⟨c, f, fd, F, hm, hb⟩ := D
  have q := pe_meth (pl := pl) (E := E0) he c hm F (hr.mono hj) hb .nil pass0 ha hst hpl ht
  refine ⟨fun pins s σ H Q I h => q.run pins s σ H Q I ?_⟩
  show ta σ H fun x H1 => ∃ a dx fs, x = .ref a ∧ H1 a = some (.ins C dx fs) ∧ fs.lookup m = none ∧ t σ H1 fun vs H2 => sp (x :: (vs ++ [])) H2 Q E0
  simp only [List.append_nil]
  exact h
theorem pe_dm0 {pl : Sem Bool} (D : Dm X.prog X.w X.K X.mg X.base k C m ps sp) (hr : Room j X.A) (he : PE X o ta) (hj : k ≤ j := by decide)
    (ht : eval (.Call (.Attribute o m apos) [] [] pos) X.env = (do
      let ov ← eval o X.env
      standAt apos.atName
      let (f, first) ← holding [ov] (getMethod ov m pl)
      callWith pos f first (backTo pos (starEach [] X.env)) (backToKw pos (keywordEach [] X.env))) := by rfl) :
    PE X (.Call (.Attribute o m apos) [] [] pos) (tMt C m sp ta tNil) := by
  obtain ⟨c, f, fd, F, hm, hb⟩ := D
  exact pe_meth0 (pl := pl) (E := E0) he c hm F (hr.mono hj) hb .nil pass0 ht
theorem pe_dk (D : Dk X.prog X.w X.K X.mg X.base k x C ps sp) (hr : Room j X.A) (ha : PA X (e :: es) t) (hj : k + 1 ≤ j := by decide) (hg : Gl X x := by rfl) (hdb : (x == ("__debug__" : Str)) = false := by decide)
    (he : starEach (e :: es) X.env = (false, eval e X.env) :: starEach es X.env := by rfl) (hpl : (backTo pos (starEach es X.env)).any (·.1) = false := by rfl) : PE X (.Call (.Name x p) (e :: es) [] pos) (tMk C sp t) := by
  obtain ⟨f, fd, F, M, hm, hb⟩ := D
  have q := pe_make (p := p) (E := E0) M F (hr.mono hj) hg hm hb .nil pass0 ha hdb he hpl
  refine ⟨fun pins s σ H Q I h => q.run pins s σ H Q I ?_⟩
  show t σ H fun vs H1 => ∀ x dx, H1 x = none → H1 dx = none → dx ≠ x → sp (.ref x :: (vs ++ [])) (upd (upd H1 dx (.own x)) x (.ins C dx [])) (fun v H2 => v = .non ∧ Q (.ref x) H2) E0
  simp only [List.append_nil]
  exact h
end
/-! ### a def by its body -/
section
variable {P : Program} {w : World} {K : PySem.W.Frag} {mg : Str → Option Value} {base : Heap}
/-- no exception leaves it -/
theorem ok0 {x qual : Str} {st : Stmt} {N ps : List Str} {k : Nat} {sp : Sp} {f : Addr} {fd : FuncData} (F : FnP K x qual st f fd) (S : FnScope N ps (defScope st)) (len : ∀ vs H Q E, sp vs H Q E → vs.length = ps.length)
    (hbody : ∀ (cdv : Value) (A : Around) (outer : List Env) (s : Shared) (H : Hp) (vs : List V) (Q : VK) (E : XK), Room k (A.deeper (envOfC qual (defScope st) s.heap.objs.size f cdv)) → sp vs H Q E →
      ∃ t, PSs (cxOf CX0 P w K mg base N qual (defScope st) f cdv A outer s H E).nox (defBody st) t ∧ t { nx := fun _ H' => Q .non H', rt := Q } (start N vs) H) : FnOk P w K mg base CX0 (k + 1) f fd ps sp :=
  F.ok S len fun cdv A outer s H vs Q E hr h => let ⟨t, h1, h2⟩ := hbody cdv A outer s H vs Q E hr h; ⟨t, h1.nox, h2⟩
end
/-! ### heaps: all that was tracked stands, but what S names -/
def Kp (S : List Addr) (H H' : Hp) : Prop := ∀ b o, H b = some o → b ∉ S → H' b = some o
section
variable {S S' : List Addr} {H H' H1 H2 : Hp} {a p : Addr} {o : HO}
theorem Kp.refl : Kp S H H := fun _ _ h _ => h
theorem Kp.trans (x : Kp S H H1) (y : Kp S H1 H2) : Kp S H H2 := fun b o h n => y b o (x b o h n) n
theorem Kp.mono (x : Kp S H H') (h : ∀ b ∈ S, b ∈ S') : Kp S' H H' := fun b o e n => x b o e fun z => n (h b z)
theorem Kp.new (x : Kp S H H') (n : H' p = none) : Kp S H (upd H' p o) := fun b u e nb => by
  have q := x b u e nb
  rw [upd_ne (ne_of_none q n)]
  exact q
theorem Kp.wr (x : Kp S H H') (n : p ∈ S) : Kp S H (upd H' p o) := fun b u e nb => by
  rw [upd_ne (fun z => nb (by rw [z]; exact n))]
  exact x b u e nb
/-- what is written is younger than H -/
theorem Kp.wrN (x : Kp S H H') (n : H p = none) : Kp S H (upd H' p o) := fun b u e nb => by
  rw [upd_ne (ne_of_none e n)]
  exact x b u e nb
theorem Kp.of (x : Kp [] H H') : Same H H' := fun b o h => x b o h List.not_mem_nil
theorem Same.kp (x : Same H H') : Kp S H H' := fun b o h _ => x b o h
theorem new_get {u : HO} (n : H p = none) (h : H a = some o) : upd H p u a = some o := by rw [upd_ne (ne_of_none h n)]; exact h
theorem wr_get {u : HO} (n : a ≠ p) (h : H a = some o) : upd H p u a = some o := by rw [upd_ne n]; exact h
theorem Same.new (x : Same H H') (n : H' p = none) : Same H (upd H' p o) := fun b u e => new_get n (x b u e)
theorem Kp.free (e : Kp S H H') (h : H' a = none) (n : a ∉ S) : H a = none := by
  cases q : H a with
  | none => rfl
  | some o => rw [e a o q n] at h; cases h
theorem upd_none {u : HO} (n : a ≠ p) (h : H a = none) : upd H p u a = none := by rw [upd_ne n]; exact h
end
theorem bt_len : bootBuiltins "len" = some (.builtin "len") := by decide +kernel
theorem bt_isinstance : bootBuiltins "isinstance" = some (.builtin "isinstance") := by decide +kernel
theorem bt_all : bootBuiltins "all" = some (.builtin "all") := by decide +kernel
theorem bt_any : bootBuiltins "any" = some (.builtin "any") := by decide +kernel
theorem bt_min : bootBuiltins "min" = some (.builtin "min") := by decide +kernel
theorem bt_max : bootBuiltins "max" = some (.builtin "max") := by decide +kernel
theorem bt_sorted : bootBuiltins "sorted" = some (.builtin "sorted") := by decide +kernel
theorem bt_sum : bootBuiltins "sum" = some (.builtin "sum") := by decide +kernel
theorem bt_abs : bootBuiltins "abs" = some (.builtin "abs") := by decide +kernel
theorem bt_int : bootBuiltins "int" = some (.type "int") := by decide +kernel
theorem bt_bool : bootBuiltins "bool" = some (.type "bool") := by decide +kernel
theorem bt_str : bootBuiltins "str" = some (.type "str") := by decide +kernel
theorem bt_tuple : bootBuiltins "tuple" = some (.type "tuple") := by decide +kernel
theorem bt_list : bootBuiltins "list" = some (.type "list") := by decide +kernel
theorem bt_dict : bootBuiltins "dict" = some (.type "dict") := by decide +kernel
/-! ### the facts of the top -/
abbrev cL (K : PySem.W.Frag) : Addr := He.ga K "Lot"
abbrev cP (K : PySem.W.Frag) : Addr := He.ga K "Purses"
abbrev cU (K : PySem.W.Frag) : Addr := He.ga K "Unplayable"
structure Txt (K : PySem.W.Frag) (mg : Str → Option Value) : Prop where
  isinstance : mg "isinstance" = none
  int : mg "int" = none
  bool : mg "bool" = none
  str : mg "str" = none
  tuple : mg "tuple" = none
  list : mg "list" = none
  dict : mg "dict" = none
  len : mg "len" = none
  all : mg "all" = none
  any : mg "any" = none
  min : mg "min" = none
  max : mg "max" = none
  sorted : mg "sorted" = none
  sum : mg "sum" = none
  enumerate : mg "enumerate" = none
  range : mg "range" = none
  abs : mg "abs" = none
  LETTERS : ∃ t, mg "LETTERS" = some (.str "abcdefghijklmnopqrstuvwxyz" t)
  LONGEST_NAME : ∃ t, mg "LONGEST_NAME" = some (.int 8 t)
  MOST_TICKETS : ∃ t, mg "MOST_TICKETS" = some (.int 1000000000000000000000000000000 t)
  MOST_TIMES : ∃ t, mg "MOST_TIMES" = some (.int 1000000000000000000000000 t)
  MOST_ITEMS : ∃ t, mg "MOST_ITEMS" = some (.int 500 t)
  MOST_PLAYERS : ∃ t, mg "MOST_PLAYERS" = some (.int 24 t)
  clL : Cls K (cL K)
  ntL : NoAttr K (cL K) "table"
  mkL : Mk K (cL K) (He.ma K (cL K) "__init__")
  mgL : mg "Lot" = some (.ref (cL K))
  clP : Cls K (cP K)
  ntP : NoAttr K (cP K) "table"
  mkP : Mk K (cP K) (He.ma K (cP K) "__init__")
  mgP : mg "Purses" = some (.ref (cP K))
  isP : C8.InsC K (cP K)
  neP : PySem.W.findIn K (.ref (cP K)) "__ne__" = some (some (.builtin "object.__ne__"))
  eqP : Meth K (cP K) "__eq__" (He.ma K (cP K) "__eq__")
  mgU : mg "Unplayable" = some (.ref (cU K))
  exU : PySem.W.excIn K (cU K) He.veBase "ValueError.__new__" = true
  kpU : PySem.W.keepIn K (.ref (cU K)) = true
  sbU : PySem.W.subIn K (.ref (cU K)) (.type "BaseException") = some true
  tyU : PySem.W.typeIn K (.ref (cU K)) = some (.type "type")
  emU : PySem.W.exmOne K (.ref (cU K)) (.ref (cU K)) = some true
end Ep

set_option Elab.async false
set_option linter.all false
set_option maxRecDepth 100000
set_option maxHeartbeats 4000000
/-! ## rules that the layer lacks: xs[i] op= e, min and max of two texts, min(.., default=..), tuples of texts compared, a list against [] -/
namespace Ep
open PySem PySem.Spec PyProof.Rows L2
section
variable {X : Cx}
/-- xs[i] by values, 0 ≤ i -/
def rGetL (K : PySem.W.Frag) : V → V → Hp → VK → Prop := fun o i H Q => ∃ p xs, ∃ k : Nat, ∃ v, o = .ref p ∧ i = .int (k : Int) ∧ SqL K H p xs ∧ xs[k]? = some v ∧ Q v H
theorem get_list : PGet X (rGetL X.K) := by
  intro pins s σ H o i ov iv Q I r1 r2 h
  obtain ⟨p, xs, k, v, rfl, rfl, hq, hx, q⟩ := h
  cases r1
  obtain ⟨t, rfl⟩ := r2
  obtain ⟨its, r, pl, hz⟩ := I.list hq
  obtain ⟨u, eu, ru⟩ := r.get hx
  have hk : k < xs.length := (List.getElem?_eq_some_iff.mp hx).1
  have hn := line63
  have eu' : (its.toArray)[((k : Nat) : Int).toNat]? = some u := by
    rw [Int.toNat_natCast, List.getElem?_toArray]
    exact eu
  exact wpAny_getItem_list pl.isList (Int.natCast_nonneg k) (by omega) eu' ⟨v, H, I, ru, q⟩

/-! ### min, max of two texts -/
section
variable {prog : Program} {w : World} {A : Around} {E : Value → Shared → Prop} {s : Shared}
theorem two_at {x y : Str} {t u : Tok} {i : Nat} {v : Value} (h : (#[Value.str x t, Value.str y u] : Array Value)[i]? = some v) : ∃ t', v = .str (if i = 0 then x else y) t' := by
  match i, h with
  | 0, h => cases (show some (Value.str x t) = some v from h); exact ⟨t, rfl⟩
  | 1, h => cases (show some (Value.str y u) = some v from h); exact ⟨u, rfl⟩
  | n + 2, h => simp at h
theorem two_old {x y : Value} {h' : Heap} (hk : ∀ b o, b ∉ [s.heap.objs.size + 1] → ((s.heap.push { cls := .type "tuple", data := .seq #[x, y] }).push { cls := .type "tuple_iterator", data := .fields #[.ref s.heap.objs.size, rawInt 0] }).get? b = some o → h'.get? b = some o) :
    ∀ c o, s.heap.get? c = some o → h'.get? c = some o := fun c o e =>
  hk c o (fun m => Nat.not_lt.mpr (Nat.le_succ _) (List.mem_singleton.mp m ▸ Heap.lt_size e)) (Heap.get?_push_of_some _ (Heap.get?_push_of_some _ e))
theorem rcLt_str {x y : Str} {t u : Tok} {Q : Value → Shared → Prop} (h : Q (.bool (decide (x.cps.toList < y.cps.toList))) s) : wpAny (model prog w) A (richCompare .Lt (.str x t) (.str y u)) Q E s :=
  (PyProof.Rows.lt_str h : wpAny (model prog w) A (compareOp .Lt (.str x t) (.str y u)) Q E s)
theorem min_strs {x y : Str} {t u : Tok} {Q : Value → Shared → Prop} (hh : A.handled = none)
    (h : ∀ h' tk t', (∀ c o, s.heap.get? c = some o → h'.get? c = some o) → Q (.str (if y.cps.toList < x.cps.toList then y else x) t') { s with heap := h', toks := tk }) : wpAny (model prog w) A (call (.builtin "min") [.str x t, .str y u]) Q E s := by
  have hT : (s.heap.push { cls := .type "tuple", data := .seq #[.str x t, .str y u] }).IsTuple s.heap.objs.size #[.str x t, .str y u] := ⟨_, Heap.get?_push_size _ rfl, rfl, 0, rfl⟩
  have hsz : (s.heap.push { cls := .type "tuple", data := .seq #[.str x t, .str y u] }).objs.size = s.heap.objs.size + 1 := Heap.size_push ..
  refine call_min_two (wpAny_pyIter_tuple hT ?_)
  refine ⟨_, [_, s.heap.objs.size], [_], _, _, _, (fun i j => decide ((if i = 0 then x else y).cps.toList < (if j = 0 then x else y).cps.toList)), rfl,
    Walks.tuple (A := A.in1) hh _ s.heap.objs.size (by rw [hsz]; exact Nat.ne_of_lt (Nat.lt_succ_self _)) #[.str x t, .str y u], ⟨⟨_, Heap.get?_push_size _ rfl, rfl, rfl⟩, hT.push _⟩, fun c hc => ?_, Nat.succ_pos _, fun i j vi vj s2 Q2 E2 hi hj hq => ?_, fun v h' tk hP hk => ?_⟩
  · rw [Heap.size_push, hsz]
    rw [hsz] at hc
    rcases List.mem_cons.mp hc with e | hc
    · exact e ▸ Nat.lt_succ_self _
    · exact List.mem_singleton.mp hc ▸ Nat.lt_succ_of_lt (Nat.lt_succ_self _)
  · obtain ⟨t1, rfl⟩ := two_at hi
    obtain ⟨t2, rfl⟩ := two_at hj
    exact rcLt_str hq
  · rw [hsz] at hk
    obtain ⟨t', e⟩ := two_at hP
    have hb : (argBest (fun i j => decide ((if i = 0 then x else y).cps.toList < (if j = 0 then x else y).cps.toList)) 1) = if y.cps.toList < x.cps.toList then 1 else 0 := by simp [argBest]
    have e2 : v = .str (if y.cps.toList < x.cps.toList then y else x) t' := by
      rw [e]
      show Value.str (if argBest (fun i j => decide ((if i = 0 then x else y).cps.toList < (if j = 0 then x else y).cps.toList)) 1 = 0 then x else y) t' = _
      rw [hb]
      by_cases c : y.cps.toList < x.cps.toList
      · rw [if_pos c, if_pos c]
        rfl
      · rw [if_neg c, if_neg c]
        rfl
    rw [e2]
    exact h h' tk t' (two_old hk)
theorem rcGt_str {x y : Str} {t u : Tok} {Q : Value → Shared → Prop} (h : Q (.bool (decide (y.cps.toList < x.cps.toList))) s) : wpAny (model prog w) A (richCompare .Gt (.str x t) (.str y u)) Q E s :=
  (PySem.P.gt_str h : wpAny (model prog w) A (compareOp .Gt (.str x t) (.str y u)) Q E s)
theorem max_strs {x y : Str} {t u : Tok} {Q : Value → Shared → Prop} (hh : A.handled = none)
    (h : ∀ h' tk t', (∀ c o, s.heap.get? c = some o → h'.get? c = some o) → Q (.str (if x.cps.toList < y.cps.toList then y else x) t') { s with heap := h', toks := tk }) : wpAny (model prog w) A (call (.builtin "max") [.str x t, .str y u]) Q E s := by
  have hT : (s.heap.push { cls := .type "tuple", data := .seq #[.str x t, .str y u] }).IsTuple s.heap.objs.size #[.str x t, .str y u] := ⟨_, Heap.get?_push_size _ rfl, rfl, 0, rfl⟩
  have hsz : (s.heap.push { cls := .type "tuple", data := .seq #[.str x t, .str y u] }).objs.size = s.heap.objs.size + 1 := Heap.size_push ..
  refine call_max_two (wpAny_pyIter_tuple hT ?_)
  refine ⟨_, [_, s.heap.objs.size], [_], _, _, _, (fun i j => decide ((if j = 0 then x else y).cps.toList < (if i = 0 then x else y).cps.toList)), rfl,
    Walks.tuple (A := A.in1) hh _ s.heap.objs.size (by rw [hsz]; exact Nat.ne_of_lt (Nat.lt_succ_self _)) #[.str x t, .str y u], ⟨⟨_, Heap.get?_push_size _ rfl, rfl, rfl⟩, hT.push _⟩, fun c hc => ?_, Nat.succ_pos _, fun i j vi vj s2 Q2 E2 hi hj hq => ?_, fun v h' tk hP hk => ?_⟩
  · rw [Heap.size_push, hsz]
    rw [hsz] at hc
    rcases List.mem_cons.mp hc with e | hc
    · exact e ▸ Nat.lt_succ_self _
    · exact List.mem_singleton.mp hc ▸ Nat.lt_succ_of_lt (Nat.lt_succ_self _)
  · obtain ⟨t1, rfl⟩ := two_at hi
    obtain ⟨t2, rfl⟩ := two_at hj
    exact rcGt_str hq
  · rw [hsz] at hk
    obtain ⟨t', e⟩ := two_at hP
    have hb : (argBest (fun i j => decide ((if j = 0 then x else y).cps.toList < (if i = 0 then x else y).cps.toList)) 1) = if x.cps.toList < y.cps.toList then 1 else 0 := by simp [argBest]
    have e2 : v = .str (if x.cps.toList < y.cps.toList then y else x) t' := by
      rw [e]
      show Value.str (if argBest (fun i j => decide ((if j = 0 then x else y).cps.toList < (if i = 0 then x else y).cps.toList)) 1 = 0 then x else y) t' = _
      rw [hb]
      by_cases c : x.cps.toList < y.cps.toList
      · rw [if_pos c, if_pos c]
        rfl
      · rw [if_neg c, if_neg c]
        rfl
    rw [e2]
    exact h h' tk t' (two_old hk)
end
theorem call_min2S (hc : X.calm = true) : CallR X (.builtin "min") (fun xs H Q => ∃ i j, xs = [.str i, .str j] ∧ Q (.str (if j.cps.toList < i.cps.toList then j else i)) H) := by
  intro pins s σ H xs us Q I r h
  obtain ⟨i, j, rfl, q⟩ := h
  obtain ⟨u, w', rfl, ⟨t, rfl⟩, ⟨t', rfl⟩⟩ := vals2 r
  exact min_strs (I.ok.hd hc) fun h' tk t2 k => ⟨.str _, H, I.kept k, ⟨_, rfl⟩, q⟩
theorem call_max2S (hc : X.calm = true) : CallR X (.builtin "max") (fun xs H Q => ∃ i j, xs = [.str i, .str j] ∧ Q (.str (if i.cps.toList < j.cps.toList then j else i)) H) := by
  intro pins s σ H xs us Q I r h
  obtain ⟨i, j, rfl, q⟩ := h
  obtain ⟨u, w', rfl, ⟨t, rfl⟩, ⟨t', rfl⟩⟩ := vals2 r
  exact max_strs (I.ok.hd hc) fun h' tk t2 k => ⟨.str _, H, I.kept k, ⟨_, rfl⟩, q⟩
end
end Ep

set_option Elab.async false
set_option linter.all false
set_option maxRecDepth 100000
set_option maxHeartbeats 4000000
namespace Ep
open PySem PySem.Spec PyProof.Rows L2
/-! ### data -/
/-- x stands for the data d, without dicts, not deep -/
def Dat (K : PySem.W.Frag) (H : Hp) (x : V) (d : PyData) : Prop := Dp K H x d ∧ d.plain = true ∧ d.depth ≤ 8
theorem depthAll_le {n : Nat} : ∀ {ds : List PyData}, (∀ d ∈ ds, d.depth ≤ n) → PyData.depthAll ds ≤ n
  | [], _ => Nat.zero_le _
  | d :: ds, h => by
    rw [PyData.depthAll]
    exact Nat.max_le.mpr ⟨h d List.mem_cons_self, depthAll_le fun e he => h e (List.mem_cons_of_mem _ he)⟩
theorem plainAll_of : ∀ {ds : List PyData}, (∀ d ∈ ds, d.plain = true) → PyData.plainAll ds = true
  | [], _ => rfl
  | d :: ds, h => by
    rw [PyData.plainAll, h d List.mem_cons_self, plainAll_of fun e he => h e (List.mem_cons_of_mem _ he)]
    rfl
theorem dpAll_of {K : PySem.W.Frag} {H : Hp} {enc : V → PyData} : ∀ {xs : List V}, (∀ x ∈ xs, Dp K H x (enc x)) → DpAll K H xs (xs.map enc)
  | [], _ => .nil
  | x :: xs, h => .cons (h x List.mem_cons_self) (dpAll_of fun y hy => h y (List.mem_cons_of_mem _ hy))
theorem dpAll_ex {K : PySem.W.Frag} {H : Hp} : ∀ {xs : List V}, (∀ x ∈ xs, ∃ d, Dat K H x d) → ∃ ds, DpAll K H xs ds ∧ ds.length = xs.length ∧ (∀ d ∈ ds, d.plain = true) ∧ ∀ d ∈ ds, d.depth ≤ 8
  | [], _ => ⟨[], .nil, rfl, fun _ h => absurd h List.not_mem_nil, fun _ h => absurd h List.not_mem_nil⟩
  | x :: xs, h => by
    obtain ⟨d, h1, h2, h3⟩ := h x List.mem_cons_self
    obtain ⟨ds, g1, g2, g3, g4⟩ := dpAll_ex fun y hy => h y (List.mem_cons_of_mem _ hy)
    refine ⟨d :: ds, .cons h1 g1, by rw [List.length_cons, List.length_cons, g2], fun e he => ?_, fun e he => ?_⟩
    · rcases List.mem_cons.mp he with q | q
      · rw [q]; exact h2
      · exact g3 e q
    · rcases List.mem_cons.mp he with q | q
      · rw [q]; exact h3
      · exact g4 e q
section
variable {X : Cx}
/-- a == b, a != b of data -/
def rEqP (K : PySem.W.Frag) : R2 := fun x y H Q => ∃ d e, Dat K H x d ∧ Dat K H y e ∧ Q (.bl (PyData.eqv d e)) H
def rNeP (K : PySem.W.Frag) : R2 := fun x y H Q => ∃ d e, Dat K H x d ∧ Dat K H y e ∧ Q (.bl (!PyData.eqv d e)) H
theorem op_eqP (hu : X.A.units + 64 < cLine) : OpR X (compareOp .Eq) (rEqP X.K) := by
  intro pins s σ H x y v u Q I rx ry h
  obtain ⟨d, e, ⟨hd, pd, zd⟩, ⟨he, pe, ze⟩, q⟩ := h
  obtain ⟨as, r1⟩ := Dp.reads I d x v hd rx
  obtain ⟨bs, r2⟩ := Dp.reads I e y u he ry
  exact PySem.SeqAt.eq_plain r1 r2 pd pe (by have := Nat.min_le_left d.depth e.depth; omega) ⟨.bl _, H, I, rfl, q⟩
theorem op_neP (hu : X.A.units + 64 < cLine) : OpR X (compareOp .NotEq) (rNeP X.K) := by
  intro pins s σ H x y v u Q I rx ry h
  obtain ⟨d, e, ⟨hd, pd, zd⟩, ⟨he, pe, ze⟩, q⟩ := h
  obtain ⟨as, r1⟩ := Dp.reads I d x v hd rx
  obtain ⟨bs, r2⟩ := Dp.reads I e y u he ry
  exact PySem.SeqAt.ne_plain r1 r2 pd pe (by have := Nat.min_le_left d.depth e.depth; omega) ⟨.bl _, H, I, rfl, q⟩
/-- xs == [], xs != [] -/
def rNil (K : PySem.W.Frag) (neg : Bool) : R2 := fun x y H Q => ∃ a b xs, x = .ref a ∧ y = .ref b ∧ SqL K H a xs ∧ SqL K H b [] ∧ (∀ v ∈ xs, ∃ d, Dat K H v d) ∧ Q (.bl (if neg then !xs.isEmpty else xs.isEmpty)) H
theorem nil_dat {K : PySem.W.Frag} {H : Hp} {b : Addr} (h : SqL K H b []) : Dat K H (.ref b) (.list []) := ⟨.lst h .nil, rfl, by decide⟩
theorem list_dat {K : PySem.W.Frag} {H : Hp} {a : Addr} {xs : List V} {ds : List PyData} (h : SqL K H a xs) (hd : DpAll K H xs ds) (hp : ∀ d ∈ ds, d.plain = true) (hz : ∀ d ∈ ds, d.depth ≤ 7) : Dat K H (.ref a) (.list ds) :=
  ⟨.lst h hd, plainAll_of hp, by show PyData.depthAll ds + 1 ≤ 8; have := depthAll_le hz; omega⟩
theorem eqv_nil (ds : List PyData) : PyData.eqv (.list ds) (.list []) = ds.isEmpty := by
  cases ds <;> rfl
theorem len_empty {α β : Type} {xs : List α} {ys : List β} (h : xs.length = ys.length) : xs.isEmpty = ys.isEmpty := by
  cases xs <;> cases ys <;> first | rfl | (simp at h)
theorem op_eq_nil (hu : X.A.units + 64 < cLine) : OpR X (compareOp .Eq) (rNil X.K false) := by
  intro pins s σ H x y v u Q I rx ry h
  obtain ⟨a, b, xs, rfl, rfl, ha, hb, hx, q⟩ := h
  obtain ⟨ds, g1, g2, g3, g4⟩ := dpAll_ex hx
  obtain ⟨as, r1⟩ := Dp.reads I _ _ v (Dp.lst ha g1) rx
  obtain ⟨bs, r2⟩ := Dp.reads I _ _ u (Dp.lst hb .nil) ry
  refine PySem.SeqAt.eq_plain r1 r2 (plainAll_of g3) rfl (by have e : (PyData.list []).depth = 1 := rfl; have := Nat.min_le_right (PyData.list ds).depth (PyData.list []).depth; omega) ⟨.bl _, H, I, rfl, ?_⟩
  rw [eqv_nil, len_empty g2]
  exact q
theorem op_ne_nil (hu : X.A.units + 64 < cLine) : OpR X (compareOp .NotEq) (rNil X.K true) := by
  intro pins s σ H x y v u Q I rx ry h
  obtain ⟨a, b, xs, rfl, rfl, ha, hb, hx, q⟩ := h
  obtain ⟨ds, g1, g2, g3, g4⟩ := dpAll_ex hx
  obtain ⟨as, r1⟩ := Dp.reads I _ _ v (Dp.lst ha g1) rx
  obtain ⟨bs, r2⟩ := Dp.reads I _ _ u (Dp.lst hb .nil) ry
  refine PySem.SeqAt.ne_plain r1 r2 (plainAll_of g3) rfl (by have e : (PyData.list []).depth = 1 := rfl; have := Nat.min_le_right (PyData.list ds).depth (PyData.list []).depth; omega) ⟨.bl _, H, I, rfl, ?_⟩
  rw [eqv_nil, len_empty g2]
  exact q
/-- a >= b of tuples of texts -/
def rGeT (K : PySem.W.Frag) : R2 := fun x y H Q => ∃ d e, Dat K H x d ∧ Dat K H y e ∧ PySem.W.alike d e = true ∧ d ≠ .none ∧ Q (.bl (!PySem.W.dataLt d e)) H
theorem op_ge_tup (hu : X.A.units + 64 < cLine) : OpR X (compareOp .GtE) (rGeT X.K) := by
  intro pins s σ H x y v u Q I rx ry h
  obtain ⟨d, e, ⟨hd, pd, zd⟩, ⟨he, pe, ze⟩, al, nn, q⟩ := h
  obtain ⟨as, r1⟩ := Dp.reads I d x v hd rx
  obtain ⟨bs, r2⟩ := Dp.reads I e y u he ry
  exact PySem.W.ge_data r1 r2 al nn (by have := Nat.min_le_left d.depth e.depth; omega) ⟨.bl _, H, I, rfl, q⟩
/-! ### min(xs, default=d), xs not empty -/
theorem foldl_min : ∀ (y : Int) (ys : List Int), ys.foldl min y ∈ y :: ys ∧ ∀ z ∈ y :: ys, ys.foldl min y ≤ z
  | y, [] => ⟨List.mem_cons_self, fun z hz => by rw [List.mem_singleton.mp hz]; exact Int.le_refl _⟩
  | y, a :: ys => by
    obtain ⟨h1, h2⟩ := foldl_min (min y a) ys
    refine ⟨?_, fun z hz => ?_⟩
    · show ys.foldl min (min y a) ∈ y :: a :: ys
      rcases List.mem_cons.mp h1 with e | e
      · rw [e]
        by_cases c : y ≤ a
        · rw [Int.min_eq_left c]; exact List.mem_cons_self
        · rw [Int.min_eq_right (by omega)]; exact List.mem_cons_of_mem _ List.mem_cons_self
      · exact List.mem_cons_of_mem _ (List.mem_cons_of_mem _ e)
    · show ys.foldl min (min y a) ≤ z
      have h3 := h2 (min y a) List.mem_cons_self
      rcases List.mem_cons.mp hz with e | hz
      · rw [e]; exact Int.le_trans h3 (Int.min_le_left _ _)
      · rcases List.mem_cons.mp hz with e | hz
        · rw [e]; exact Int.le_trans h3 (Int.min_le_right _ _)
        · exact h2 z (List.mem_cons_of_mem _ hz)
def rMinDef (K : PySem.W.Frag) : List V → List V → Hp → VK → Prop := fun xs zs H Q => ∃ a ns d, xs = [.ref a] ∧ zs = [d] ∧ SqL K H a (ns.map V.int) ∧ ns ≠ [] ∧ ∀ m, m ∈ ns → (∀ y ∈ ns, m ≤ y) → Q (.int m) H
theorem ints_dp {K : PySem.W.Frag} {H : Hp} : ∀ ns : List Int, DpAll K H (ns.map V.int) (ns.map PyData.int)
  | [] => .nil
  | n :: ns => .cons (.int n) (ints_dp ns)
theorem alike_intsAll (ns : List Int) : PySem.W.AlikeAll (ns.map PyData.int) := by
  refine ⟨fun x hx y hy => ?_, fun x hx => ?_⟩
  · obtain ⟨i, _, rfl⟩ := List.mem_map.mp hx
    obtain ⟨j, _, rfl⟩ := List.mem_map.mp hy
    rfl
  · obtain ⟨i, _, rfl⟩ := List.mem_map.mp hx
    exact fun z => nomatch z
theorem depth_ints0 : ∀ ns : List Int, PyData.depthAll (ns.map PyData.int) = 0 := PySem.W.depth_ints
theorem crk_min (hc : X.calm = true) (hu : X.A.units + 64 < cLine) : CallRK X (.builtin "min") ["default"] (rMinDef X.K) := by
  intro pins s σ H xs zs us ws Q I r1 r2 h
  obtain ⟨a, ns, d, rfl, rfl, hs, hne, q⟩ := h
  obtain ⟨u, rfl, ru⟩ := vals1 r1
  obtain ⟨w, rfl, rw'⟩ := vals1 r2
  cases ru
  obtain ⟨its, rv, pl, hz⟩ := I.list hs
  obtain ⟨as, ra⟩ := Dp.readsAll I _ _ _ (ints_dp ns) rv
  refine PySem.W.min_list_default (xs := ns.map PyData.int) (I.ok.hd hc) pl.isList (by simpa using ra) (alike_intsAll ns) (by rw [depth_ints0]; omega) (fun e => ?_) fun y ys i v h' tk bs e1 hv rd hk => ?_
  · exact absurd (List.map_eq_nil_iff.mp e) hne
  · cases ns with
    | nil => exact absurd rfl hne
    | cons n ns =>
      rw [List.map_cons] at e1
      injection e1 with e2 e3
      subst e2 e3
      rw [PySem.W.minD_ints] at rd
      cases rd with
      | int _ t =>
        obtain ⟨h1, h2⟩ := foldl_min n ns
        exact ⟨.int _, H, I.kept hk, ⟨t, rfl⟩, q _ h1 h2⟩
end
end Ep

set_option Elab.async false
set_option linter.all false
set_option maxRecDepth 100000
set_option maxHeartbeats 4000000
/-! ## sorted of tuples (any data), of a dict with tuple keys -/
namespace Ep
open PySem PySem.Spec PyProof.Rows L2
theorem each_vals : ∀ {xs : List V} {us : List Value}, Vals xs us → PySem.W.EachIs (fun v b => RelV b v) us xs
  | _, _, .nil => .nil
  | _, _, .cons r t => .cons r (each_vals t)
theorem vals_each : ∀ {us : List Value} {xs : List V}, PySem.W.EachIs (fun v b => RelV b v) us xs → Vals xs us
  | _, _, .nil => .nil
  | _, _, .cons r t => .cons r (vals_each t)
theorem each_ind {α β : Type} {R R' : α → β → Prop} : ∀ {as : List α} {bs : List β}, PySem.W.EachIs R as bs → (∀ a b, b ∈ bs → R a b → R' a b) → PySem.W.EachIs R' as bs
  | _, _, .nil, _ => .nil
  | _, _, .cons r t, f => .cons (f _ _ List.mem_cons_self r) (each_ind t fun a b hb => f a b (List.mem_cons_of_mem _ hb))
/-- the items xs read as enc: tuples (not empty), alike -/
structure Tups (K : PySem.W.Frag) (H : Hp) (xs : List V) (enc : V → PyData) : Prop where
  dat : ∀ x ∈ xs, Dat K H x (enc x)
  tup : ∀ x, ∃ d ds, enc x = .tuple (d :: ds)
  al : ∀ x y, PySem.W.alike (enc x) (enc y) = true
section
variable {X : Cx}
theorem le_perm {xs : List V} {enc : V → PyData} : (xs.mergeSort (PySem.W.dataLe false enc)).Perm xs := List.mergeSort_perm _ _
theorem le_pair {xs : List V} {enc : V → PyData} : (xs.mergeSort (PySem.W.dataLe false enc)).Pairwise fun x y => PySem.W.dataLt (enc y) (enc x) = false := by
  have q := PySem.W.sort_pairwise (PySem.W.sortLe_total (PyProof.Rows.listOrd PyProof.Rows.itemOrd) false fun b => PySem.W.keyToks (enc b)) xs
  refine List.Pairwise.imp (fun {x y} h => ?_) q
  have h2 : (!PySem.W.dataLt (enc y) (enc x)) = true := h
  simpa using h2
def rSortTup (K : PySem.W.Frag) : List V → Hp → VK → Prop := fun vs H Q => ∃ (a : Addr) (xs : List V) (enc : V → PyData), vs = [V.ref a] ∧ SqL K H a xs ∧ Tups K H xs enc ∧
  ∀ ys p, ys.Perm xs → (ys.Pairwise fun x y => PySem.W.dataLt (enc y) (enc x) = false) → H p = none → Q (.ref p) (upd H p (.lst ys))
theorem cr_sortedTup (hu : X.A.units + 64 < cLine) : CallR X (.builtin "sorted") (rSortTup X.K) := by
  intro pins s σ H vs us Q I r h
  obtain ⟨a, xs, enc, rfl, hs, T, q⟩ := h
  obtain ⟨u, rfl, ru⟩ := vals1 r
  cases ru
  obtain ⟨its, rv, pl, hz⟩ := I.list hs
  have e := each_vals rv
  refine PySem.W.sorted_data (R := fun v b => RelV b v) (enc := enc) pl.isList e (each_ind e fun v b hb rb => Dp.reads I _ _ _ (T.dat b hb).1 rb) (PySem.W.AllAlike.of T.al) (PySem.W.Sortable.tuples T.tup) (by simpa using hz) (fun b hb => by have := (T.dat b hb).2.2; omega) fun out hl he => ?_
  obtain ⟨ep, he'⟩ := PyProof.Rows.sortedAll_at s.heap its out.toArray
  have hlen : (xs.mergeSort (PySem.W.dataLe false enc)).length ≤ sizeLine := by rw [le_perm.length_eq]; exact hz
  exact ⟨.ref _, upd H (s.heap.objs.size + 1) (.lst (xs.mergeSort (PySem.W.dataLe false enc))), I.laid (t' := s.toks) (fun _ _ => PyProof.Rows.sortedAll_old) (Nat.le_succ _) ⟨hlen, out, ep, vals_each he, he'⟩, rfl, q _ _ le_perm le_pair (I.hok.fresh (Nat.le_succ _))⟩
/-- sorted(d), d with tuple keys: the key tuples themselves -/
def rSortDT (K : PySem.W.Frag) : List V → Hp → VK → Prop := fun vs H Q => ∃ (d : Addr) (kvs : List (List Key × V)) (enc : V → PyData), vs = [V.ref d] ∧ Rd H d (.dT kvs) ∧
  ∀ bs, IsKeys H kvs bs → Tups K H (bs.map V.ref) enc ∧ ∀ ys p, ys.Perm (bs.map V.ref) → (ys.Pairwise fun x y => PySem.W.dataLt (enc y) (enc x) = false) → H p = none → Q (.ref p) (upd H p (.lst ys))
theorem cr_sortedDT (hc : X.calm = true) (hu : X.A.units + 64 < cLine) : CallR X (.builtin "sorted") (rSortDT X.K) := by
  intro pins s σ H vs us Q I r h
  obtain ⟨d, kvs, enc, rfl, hd, q⟩ := h
  obtain ⟨u, rfl, ru⟩ := vals1 r
  cases ru
  obtain ⟨z, hs, ks, pr, o, es, ep, ho, hx, hdt, he, hn⟩ := (show ObjOk X.prog X.w H s.heap d (.dT kvs) from hd.ok I.hok)
  have l1 : es.size = ks.length := size_of_entries he
  have l2 : kvs.length = ks.length := Paired.length pr
  obtain ⟨T, q⟩ := q _ (isKeys_of pr)
  refine Calls.call_function_entry PyProof.Rows.kind_sorted PyProof.Rows.plain_sorted PyProof.Rows.entry_sorted (PyProof.Rows.args_sorted1 _) ?_
  unfold Builtin.«sorted»
  refine wpAny_bind (m := checkCount "sorted" 1 1 _) (wpAny_pure ?_)
  refine wpAny_bind (PySem.W.kdu_collect (A := X.A.in1) (kdl_raw hs hx hdt) (I.ok.hd hc) ho (by omega) fun h' tk acc hk it => ?_)
  have ea : acc.toList = ks.map fun x => Value.ref x.2.1 := by
    have hl : acc.toList.length = ks.length := by rw [Array.length_toList, it.1]; exact l1
    refine List.ext_getElem? fun j => ?_
    rw [List.getElem?_map]
    cases hj : acc.toList[j]? with
    | none =>
      have h1 := List.getElem?_eq_none_iff.mp hj
      rw [List.getElem?_eq_none (by omega)]
      all_goals rfl
    | some v =>
      obtain ⟨en, hen, hv⟩ := it.2 j v (by rw [← Array.getElem?_toList]; exact hj)
      have qe := entry_at he j
      rw [hen] at qe
      cases hb : ks[j]? with
      | none => rw [hb] at qe; exact nomatch (show some en = none from qe)
      | some b =>
        rw [hb] at qe
        have e2 : en = entryOfKey (tupleKind (mixKind X.prog X.w)) b := Option.some.inj qe
        rw [hv, e2]
        all_goals rfl
  have rv : Vals ((ks.map fun x => x.2.1).map V.ref) acc.toList := by
    rw [ea, show (ks.map fun x => Value.ref x.2.1) = (ks.map fun x => x.2.1).map Value.ref by rw [List.map_map]; rfl]
    exact vals_refs _
  have hlen : ((ks.map fun x => x.2.1).map V.ref).length = acc.toList.length := rv.length
  have hlen2 : ((ks.map fun x => x.2.1).map V.ref).length ≤ sizeLine := by rw [List.length_map, List.length_map]; omega
  have I1 : Inv X pins σ H { s with heap := h', toks := tk } := I.kept hk
  refine wpAny_bind (wpAny_newList ?_ (by omega))
  have hoL : (h'.push (seqObj "list" acc.toList.toArray 0)).get? h'.objs.size = some (seqObj "list" acc.toList.toArray 0) := Heap.get?_push_size _ rfl
  show wpAny _ _ _ _ _ { s with heap := h'.push (seqObj "list" acc.toList.toArray 0), toks := tk }
  have e := each_vals rv
  have I2 : Inv X pins σ H { s with heap := h'.push (seqObj "list" acc.toList.toArray 0), toks := tk } := I1.kept (t' := tk) fun b o q => Heap.get?_push_of_some _ q
  have old : ∀ (v : Value) (b : V), b ∈ ((ks.map fun x => x.2.1).map V.ref) → RelV b v → ∃ as, Reads (h'.push (seqObj "list" acc.toList.toArray 0)) v (enc b) as ∧ h'.objs.size ∉ as := fun v b hb rb => by
    obtain ⟨as, ra⟩ := Dp.reads I1 _ _ _ (T.dat b hb).1 rb
    refine ⟨as, PyProof.Rows.Reads.keeps (fun _ _ q => Heap.get?_push_of_some _ q) ra, fun m => ?_⟩
    obtain ⟨ob, hob⟩ := PyProof.On.reads_mem_get ra _ m
    exact absurd (Heap.lt_size hob) (Nat.lt_irrefl _)
  refine wpAny_bind (wpAny_holding (PySem.W.list_sort_data (R := fun v b => RelV b v) (enc := enc) (A := X.A.in1) (s := { s with heap := h'.push (seqObj "list" acc.toList.toArray 0), toks := tk }) hoL e (each_ind e old)
    (PySem.W.AllAlike.of T.al) (PySem.W.Sortable.tuples T.tup) hlen2 (fun b hb => by have := (T.dat b hb).2.2; have e : X.A.in1.units = X.A.units + 1 := rfl; omega) fun out hl hout => ?_))
  obtain ⟨e', he'⟩ := PyProof.Rows.sortedHeap_at (vs := acc.toList) (out := out.toArray) hoL
  refine wpAny_pure ⟨_, rfl, .ref h'.objs.size, upd H h'.objs.size (.lst (((ks.map fun x => x.2.1).map V.ref).mergeSort (PySem.W.dataLe false enc))), I1.laid (t' := tk) (fun b u hb => ?_) (Nat.le_refl _) ⟨by rw [le_perm.length_eq]; exact hlen2, out, e', vals_each hout, he'⟩, rfl,
    q _ _ le_perm le_pair (I1.hok.fresh (Nat.le_refl _))⟩
  have hlt : b < h'.objs.size := Heap.lt_size hb
  rw [PyProof.Rows.sortedHeap_old (Nat.ne_of_lt hlt) (by rw [size_push']; exact Nat.lt_succ_of_lt hlt)]
  exact Heap.get?_push_of_some _ hb
end
end Ep

set_option Elab.async false
set_option linter.all false
set_option maxRecDepth 100000
set_option maxHeartbeats 4000000
/-! ## items() of a dict with tuple keys walked; list(d.values()) -/
namespace Ep
open PySem PySem.Spec PyProof.Rows L2
theorem frzTv {X : Cx} {pins : List (Addr × Obj)} {σ : L2.St} {H : Hp} {s : Shared} {d : Addr} {o : Obj} {kvs : List (List Key × V)} (I : Inv X pins σ H s) (h : H d = some (.frz o (.dT kvs))) :
    (d == sysModules) = false ∧ s.heap.get? d = some o ∧ o.ExactDict ∧ ∃ (es : Array DictEntry) (ep : Nat), o.data = .dict es ep ∧ es.size = kvs.length ∧
      ∀ (i : Nat) (k : List Key) (v : V), kvs[i]? = some (k, v) → ∃ (en : DictEntry) (q : Addr), es[i]? = some en ∧ en.key = .ref q ∧ H q = some (.tup (k.map kV)) ∧ RelV v en.val := by
  obtain ⟨hd, z, hs, xs, pr, o', es, ep, ho, hx, hdt, he, _⟩ := I.hok d _ h
  rw [hd] at ho
  cases ho
  refine ⟨hs, hd, hx, es, ep, hdt, ?_, fun i k v e => ?_⟩
  · have l1 : es.size = xs.length := size_of_entries he
    have l2 : kvs.length = xs.length := Paired.length pr
    omega
  · obtain ⟨b, hb, e1, e2, e3⟩ := L2.paired_get pr e
    have q := entry_at he i
    rw [hb] at q
    exact ⟨_, b.2.1, q, rfl, e2, e3⟩
/-- the pairs (key's own tuple, value), each a new tuple -/
def Itit (d : Addr) (o : Obj) (kvs : List (List Key × V)) : It :=
  ⟨fun i H => H d = some (.frz o (.dT kvs)) ∧ i < kvs.length, fun i H x H' => ∃ T k v q, kvs[i]? = some (k, v) ∧ x = .ref T ∧ H T = none ∧ H q = some (.tup (k.map kV)) ∧ H' = upd H T (.tup [.ref q, v]), fun i H => H d = some (.frz o (.dT kvs)) ∧ kvs.length ≤ i⟩
theorem turn_itemsT {P : Program} {w : World} {K : PySem.W.Frag} {d : Addr} {o : Obj} {es : Array DictEntry} {ep : Nat} {kvs : List (List Key × V)} {elts : List Expr} {kk : Nat} {tpos : Pos} (it : Addr) (hod : o.data = .dict es ep) :
    Turn P w K (.Tuple elts kk tpos) (Itit d o kvs) [it] it (fun i h => ∃ ok ov, IsItemIter h it d i kvs.length ep ok ov) where
  mem := by simp
  obj := fun i h st b hb => by
    have e : b = it := by simpa using hb
    subst e
    obtain ⟨ok, ov, e⟩ := st
    exact ⟨_, e, fun v z => nomatch z⟩
  keep := fun i h h' st k => let ⟨ok, ov, e⟩ := st; ⟨ok, ov, k it (by simp) _ e⟩
  item := by
    intro X hP hw hK hc i pins s σ H E I hf st hg
    subst hP hw hK
    obtain ⟨hd, hi⟩ := hg
    obtain ⟨hs, hgd, hx, es', ep', hdt, hsz, kv⟩ := frzTv I hd
    obtain ⟨rfl, rfl⟩ := dict_ep hod hdt
    obtain ⟨⟨k, v⟩, hkv⟩ : ∃ p, kvs[i]? = some p := ⟨kvs[i], List.getElem?_eq_getElem hi⟩
    obtain ⟨en, q, hen, hkey, hq, rv⟩ := kv i k v hkv
    obtain ⟨ok, ov, he⟩ := st
    have hlt : it < s.heap.objs.size := Heap.lt_size he
    rw [← hsz] at he
    have hi' : i < es'.size := by omega
    have een : es'[i] = en := by
      rw [Array.getElem?_eq_getElem hi'] at hen
      exact Option.some.inj hen
    refine wpAny_pyNext_items_item_raw he ⟨o, hgd, hx, hdt⟩ hi' fun h' ho hT hz hk => ?_
    refine ⟨_, rfl, wpAny_letOwnedTupleGo_items (s := { s with heap := h' }) ho fun h'' he' sb => ?_⟩
    have hT2 : h''.get? s.heap.objs.size = some { cls := .type "tuple", data := .seq #[es'[i].key, es'[i].val] } := (sb.2 _ (Nat.ne_of_gt hlt)).trans hT
    have new : ObjOk X.prog X.w (upd H s.heap.objs.size (.tup [.ref q, v])) h'' s.heap.objs.size (.tup [.ref q, v]) :=
      ⟨by show 2 ≤ sizeLine; decide, [es'[i].key, es'[i].val], .cons (by rw [een]; exact hkey) (.cons (by rw [een]; exact rv) .nil), ⟨_, hT2, rfl, _, rfl⟩⟩
    have I1 : Inv X pins σ (upd H s.heap.objs.size (.tup [.ref q, v])) { s with heap := h'' } :=
      I.turnedNew (t' := s.toks) (ch := [it]) (fun b ob hb e => (sb.2 b (by simpa using hb)).trans (hk b ob (by simpa using hb) e)) hf (Nat.le_refl _) new
    refine ⟨.ref s.heap.objs.size, _, I1, rfl, ⟨_, k, v, q, hkv, rfl, I.hok.fresh (Nat.le_refl _), hq, rfl⟩, ⟨es'[i].key, es'[i].val, ?_⟩, fun b hb => ?_⟩
    · rw [← hsz]; exact he'
    · have e : b = it := by simpa using hb
      rw [e, upd_ne (Nat.ne_of_lt hlt)]
      exact (hf it (by simp)).1
  done := by
    intro X hP hw hK hc i pins s σ H E I hf st hg
    subst hP hw hK
    obtain ⟨hd, hi⟩ := hg
    obtain ⟨f0, f1, f2, f3, f4, f5⟩ := hf it (by simp)
    obtain ⟨hs, hgd, hx, es', ep', hdt, hsz, kv⟩ := frzTv I hd
    obtain ⟨rfl, rfl⟩ := dict_ep hod hdt
    obtain ⟨ok, ov, he⟩ := st
    rw [← hsz] at he
    exact wpAny_pyNext_items_end_raw (I.ok.hd hc) he ⟨o, hgd, hx, hdt⟩ (by omega) fun h' eb => ⟨rfl, I.turned (t' := s.toks) (fun b ob hb e => eb b ob hb e) f0 f1 f3 f4 f5⟩
  self := fun A i s Q E st h => let ⟨_, _, e⟩ := st; PySem.W.kcp_self e h
/-- the dict is locked -/
def iItemsT (td : TE) : TI := fun σ H R => td σ H fun x H1 => ∃ d o kvs, x = .ref d ∧ H1 d = some (.frz o (.dT kvs)) ∧ R (Itit d o kvs) H1
section
variable {X : Cx} {e : Expr} {td : TE} {apos cpos : Pos}
theorem pi_itemsT {elts : List Expr} {kk : Nat} {tpos : Pos} (he : PE X e td) (hbase : attributeBase e "items" X.env (eval e X.env) = eval e X.env := by rfl) (hline : (apos.endLine == cpos.line) = true := by rfl) :
    PI X (.Tuple elts kk tpos) (.Call (.Attribute e "items" apos) [] [] cpos) (iItemsT td) := by
  refine ⟨fun pins s σ H R I h => ?_⟩
  refine wpAny_Call_method (T := "dict") (id := "dict.items") hbase rfl hline F.plainAttrs_dict F.slot_dict_items F.type_dict_items (thn (he.run pins s σ H _ I h) fun u s1 ⟨x, H1, I1, rx, d, o, kvs, ex, hd, q⟩ => ?_)
  subst ex
  obtain rfl : u = Value.ref d := rx
  obtain ⟨hs, hgd, hx, es, ep, hdt, hsz, kv⟩ := frzTv I1 hd
  have raw : s1.heap.DictRaw d es ep := ⟨o, hgd, hx, hdt⟩
  refine ⟨raw.typeIs, fun c e => ?_, ?_⟩
  · cases e
    exact ⟨o, hgd, hx.2.1⟩
  have I2 : Inv X pins σ H1 { s1 with heap := s1.heap.push { cls := .type "dict_items", data := .fields #[.ref d] } } := I1.kept (t' := s1.toks) fun b ob q => Heap.get?_push_of_some _ q
  have fin : wpAny (model X.prog X.w) X.A (pyIter (.ref s1.heap.objs.size)) (PIE X pins σ (.Tuple elts kk tpos) R) X.xe { s1 with heap := s1.heap.push { cls := .type "dict_items", data := .fields #[.ref d] } } := by
    refine wpAny_pyIter_items_raw (d := d) ⟨_, Heap.get?_push_size _ rfl, rfl, rfl⟩ (raw.push _) (pi_one (tk := s1.toks) I2 _ (turn_itemsT _ hdt) ⟨.none, .none, ?_⟩ q)
    rw [← hsz]
    exact Heap.get?_push_size _ rfl
  show wpAny _ _ (callWith cpos (.builtin "dict.items") [.ref d] [] []) _ X.xe s1
  exact method_meetsIn F.slot_dict_items F.entry_dict_items rfl (PySem.evalArgs_none ⟨rfl, raw.typeIs, F.args_dict_items_1 _, _, meets_dict_items_raw d hs, ⟨es, ep, raw⟩, fin⟩)
end
theorem walk_itemsT {d : Addr} {o : Obj} {kvs : List (List Key × V)} : Walk (Itit d o kvs) kvs.length (fun H => H d = some (.frz o (.dT kvs)))
    (fun i H x H' => ∃ T k v q, kvs[i]? = some (k, v) ∧ x = .ref T ∧ H T = none ∧ H q = some (.tup (k.map kV)) ∧ H' = upd H T (.tup [.ref q, v])) :=
  ⟨fun _ _ hi q => ⟨q, hi⟩, fun _ q => ⟨q, Nat.le_refl _⟩, fun _ _ _ _ _ _ y => y⟩
/-! ### list(d.values()) -/
theorem each_of {R : Value → V → Prop} : ∀ {us : List Value} {vs : List V}, us.length = vs.length → (∀ (i : Nat) (v : V) (u : Value), vs[i]? = some v → us[i]? = some u → R u v) → PySem.W.EachIs R us vs
  | [], [], _, _ => .nil
  | u :: us, v :: vs, h, f => .cons (f 0 v u rfl rfl) (each_of (Nat.succ.inj h) fun i a b e1 e2 => f (i + 1) a b e1 e2)
  | [], _ :: _, h, _ => nomatch h
  | _ :: _, [], h, _ => nomatch h
def valsO (p d : Addr) : HO := .ext fun h => h.IsValuesView p d
theorem valsO_ok {P : Program} {w : World} {H : Hp} {h : Heap} {p d : Addr} (e : h.get? p = some { cls := .type "dict_values", data := .fields #[.ref d] }) : ObjOk P w H h p (valsO p d) :=
  ⟨⟨_, e, rfl, rfl⟩, ⟨_, e⟩, fun h1 h2 x k => let ⟨o, ho, r⟩ := x; ⟨o, k o ho, r⟩⟩
/-- the values vs of the dict at a, as they stand -/
inductive ValsAt (H : Hp) (a : Addr) : List V → Prop
  | dK (kvs : List (Key × V)) (h : H a = some (.dK kvs)) : ValsAt H a (kvs.map Prod.snd)
  | dT (kvs : List (List Key × V)) (h : H a = some (.dT kvs)) : ValsAt H a (kvs.map Prod.snd)
theorem valsAt_raw {X : Cx} {pins : List (Addr × Obj)} {σ : L2.St} {H : Hp} {s : Shared} {a : Addr} {vs : List V} (I : Inv X pins σ H s) (h : ValsAt H a vs) :
    (a == sysModules) = false ∧ vs.length ≤ sizeLine ∧ ∃ es ep, s.heap.DictRaw a es ep ∧ es.size = vs.length ∧ ∀ (i : Nat) (v : V), vs[i]? = some v → ∃ en, es[i]? = some en ∧ RelV v en.val := by
  cases h with
  | dK kvs h =>
    obtain ⟨z, hd, us, rel, dd⟩ := dk_of I.hok h
    obtain ⟨es, ep, raw, hsz, hp⟩ := dd.raw
    have hl : kvs.length = us.length := Paired.length rel
    refine ⟨hd, by rw [List.length_map]; exact z, es, ep, raw, by rw [List.length_map]; omega, fun i v e => ?_⟩
    rw [List.getElem?_map] at e
    cases e1 : kvs[i]? with
    | none => rw [e1] at e; cases e
    | some p =>
      rw [e1] at e
      obtain ⟨k, v1⟩ := p
      cases (show some v1 = some v from e)
      obtain ⟨u, hu, ru⟩ := kv_get rel e1
      have hi : i < us.length := (List.getElem?_eq_some_iff.mp hu).1
      have hi2 : i < es.size := by omega
      exact ⟨es[i], Array.getElem?_eq_getElem hi2, by rw [(hp i hi2 k u hu).2]; exact ru⟩
  | dT kvs h =>
    obtain ⟨z, hd, xs, rel, o, es, ep, ho, hx, hdat, he, _⟩ := dt_of I.hok h
    have l1 : es.size = xs.length := size_of_entries he
    have l2 : kvs.length = xs.length := Paired.length rel
    refine ⟨hd, by rw [List.length_map]; exact z, es, ep, ⟨o, ho, hx, hdat⟩, by rw [List.length_map]; omega, fun i v e => ?_⟩
    rw [List.getElem?_map] at e
    cases e1 : kvs[i]? with
    | none => rw [e1] at e; cases e
    | some p =>
      rw [e1] at e
      obtain ⟨k, v1⟩ := p
      cases (show some v1 = some v from e)
      obtain ⟨b, hb, _, _, r⟩ := L2.paired_get rel e1
      have q := entry_at he i
      rw [hb] at q
      exact ⟨_, q, r⟩
section
variable {X : Cx}
def rValues : V → List V → Hp → VK → Prop := fun x xs H Q => ∃ (a : Addr) (vs : List V), x = .ref a ∧ xs = [] ∧ ValsAt H a vs ∧ ∀ p, H p = none → Q (.ref p) (upd H p (valsO p a))
theorem mt_values : MtR X "dict.values" rValues := by
  intro pins s σ H x xs v us Q I rx rxs h
  obtain ⟨a, vs, rfl, rfl, ha, q⟩ := h
  cases rx
  cases rxs
  obtain ⟨hd, z, es, ep, raw, _⟩ := valsAt_raw I ha
  refine call_meetsIn PySem.F.slot_dict_values raw.typeIs PySem.F.entry_dict_values (PySem.F.args_dict_values_1 _) (meets_dict_values_raw a hd) ⟨⟨es, ep, raw⟩, ?_⟩
  have hf : H s.heap.objs.size = none := I.hok.fresh (Nat.le_refl _)
  exact ⟨.ref s.heap.objs.size, upd H s.heap.objs.size (valsO s.heap.objs.size a), I.laid (t' := s.toks) (fun b u e => Heap.get?_push_of_some _ e) (Nat.le_refl _) (valsO_ok (Heap.get?_push_size _ rfl)), rfl, q _ hf⟩
def rListVals : List V → Hp → VK → Prop := fun xs H Q => ∃ (p a : Addr) (vs : List V), xs = [V.ref p] ∧ H p = some (valsO p a) ∧ ValsAt H a vs ∧ ∀ q, H q = none → Q (.ref q) (upd H q (.lst vs))
theorem call_list_vals (hc : X.calm = true) : CallR X (.type "list") rListVals := by
  intro pins s σ H xs us Q I r h
  obtain ⟨p, a, vs, rfl, hp, ha, q⟩ := h
  obtain ⟨u, rfl, rx⟩ := r.one
  cases rx
  obtain ⟨hd, z, es, ep, raw, hsz, hv⟩ := valsAt_raw I ha
  have hview : s.heap.IsValuesView p a := (I.hok p _ hp).1
  refine PySem.W.kdl_call (KdlSrc.rawValues (r := p) (d := a) (es := es) (ep := ep)) (I.ok.hd hc) ⟨hview, raw⟩ (by omega) fun h' tk acc' c' kp e it => ?_
  have hl : acc'.toList.length = vs.length := by rw [Array.length_toList, it.1]; exact hsz
  have rv : Vals vs acc'.toList := by
    refine vals_each (Ep.each_of hl fun i v u e1 e2 => ?_)
    rw [Array.getElem?_toList] at e2
    obtain ⟨hi, e3⟩ := it.2 i u e2
    obtain ⟨en, hen, r⟩ := hv i v e1
    rw [Array.getElem?_eq_getElem hi] at hen
    cases hen
    rw [e3]
    exact r
  refine ⟨.ref s.heap.objs.size, _, I.laid (t' := tk) (o := .lst vs) kp (Nat.le_refl _) ?_, rfl, q _ (I.hok.fresh (Nat.le_refl _))⟩
  exact ⟨z, acc'.toList, c', rv, by rw [Array.toArray_toList]; exact e⟩
end
end Ep

set_option Elab.async false
set_option linter.all false
set_option maxRecDepth 100000
set_option maxHeartbeats 4000000
/-! ## == of two dicts with tuple keys that hold the same -/
namespace Ep
open PySem PySem.Spec PyProof.Rows L2
section
variable {prog : Program} {w : World} {K : Type} [DecidableEq K] {knd : HeapKind prog w K} {A : Around} {E : Value → Shared → Prop} {s : Shared}
theorem samePairsT {nm : String} {a b : Addr} {xa xb : List (K × Addr × Value)} {Q : Bool → Shared → Prop} (hu : knd.room A) (ha : (a == sysModules) = false) (hb : (b == sysModules) = false)
    (da : s.heap.DictOfH knd a xa) (db : s.heap.DictOfH knd b xb) (hl : xa.length = xb.length)
    (hits : ∀ (i : Nat) (k : K) (p : Addr × Value), xa[i]? = some (k, p) → ∃ (j : Nat) (q : Addr × Value), xb[j]? = some (k, q) ∧ SeqAt.EqAt A s p.2 q.2 true) (h : Q true s) :
    wpAny (model prog w) A (Builtin.Dict.samePairs nm a b) Q E s := by
  obtain ⟨oa, es, ep, hoa, _, hda, hea, hia, hna⟩ := da
  obtain ⟨ob, es', ep', hob, _, hdb, heb, hib, hnb⟩ := db
  have hla : es.size = xa.length := size_of_entries hea
  have hlb : es'.size = xb.length := size_of_entries heb
  have hsz : es.size = es'.size := by omega
  unfold Builtin.Dict.samePairs Builtin.Dict.showsAll
  rw [if_neg (show ¬ (a == sysModules) = true by rw [ha]; exact Bool.false_ne_true), if_neg (show ¬ (b == sysModules) = true by rw [hb]; exact Bool.false_ne_true)]
  refine wpAny_bind (wpAny_pure (wpAny_bind (wpAny_pure ?_)))
  refine wpAny_bind (wpAny_dictEntries hoa hda ?_)
  dsimp only
  refine wpAny_bind (wpAny_dictEntries hob hdb ?_)
  rw [if_neg (by rw [hsz]; simp)]
  refine wpAny_bind (wpAny_dictEpoch hoa hda ?_)
  refine wpAny_bind ?_
  rw [Std.Legacy.Range.forIn_eq_forIn_range']
  simp only [Std.Legacy.Range.size, Nat.sub_zero, Nat.add_sub_cancel, Nat.div_one]
  refine wpAny_forIn_list _
    (fun rest q s' => s' = s ∧ q = (none, ()) ∧ ∃ i, rest = List.range' i (es.size - i) ∧ i ≤ es.size)
    _ ?_ ?_ _ _ ⟨rfl, rfl, 0, by simp, Nat.zero_le _⟩
  · rintro x rest q s' ⟨rfl, rfl, i, hr, hi⟩
    have hlt : i < es.size := by
      rcases Nat.lt_or_ge i es.size with h | h
      · exact h
      · rw [Nat.sub_eq_zero_of_le h] at hr; simp at hr
    obtain ⟨rfl, hrest⟩ : x = i ∧ rest = List.range' (i + 1) (es.size - (i + 1)) := by
      have e : es.size - i = (es.size - (i + 1)) + 1 := by omega
      rw [e, List.range'_succ] at hr
      injection hr with h1 h2
      exact ⟨h1, h2⟩
    refine wpAny_bind (wpAny_dictEntries hoa hda ?_)
    rw [Array.getElem?_eq_getElem hlt]
    obtain ⟨⟨k, c, v⟩, hkv⟩ : ∃ y, xa[x]? = some y := ⟨xa[x]'(by rw [← hla]; exact hlt), List.getElem?_eq_getElem _⟩
    have een : es[x] = ⟨knd.hash k, .ref c, v⟩ := by
      have q := entry_at hea x
      rw [hkv, Array.getElem?_eq_getElem hlt] at q
      exact Option.some.inj q
    obtain ⟨j, ⟨c2, v2⟩, hj, hev⟩ := hits x k (c, v) hkv
    have hjlt : j < es'.size := by rw [hlb]; exact (List.getElem?_eq_some_iff.mp hj).1
    have een2 : es'[j] = ⟨knd.hash k, .ref c2, v2⟩ := by
      have q := entry_at heb j
      rw [hj, Array.getElem?_eq_getElem hjlt] at q
      exact Option.some.inj q
    show wpAny _ _ (holding [es[x].key, es[x].val] _ >>= _) _ _ _
    rw [een]
    refine wpAny_bind (wpAny_holding (wpAny_bind (wpAny_dictFind_heap hu (hia _ (List.mem_of_getElem? hkv)) hob hdb heb hib hnb (fun hno => absurd hj (hno j _)) fun j' p' hj' => ?_)))
    have ej : j' = j := by
      have l1 : j' < xb.length := (List.getElem?_eq_some_iff.mp hj').1
      have l2 : j < xb.length := (List.getElem?_eq_some_iff.mp hj).1
      have e1 : (xb.map (·.1))[j']'(by rw [List.length_map]; exact l1) = k := by rw [List.getElem_map, (List.getElem?_eq_some_iff.mp hj').2]
      have e2 : (xb.map (·.1))[j]'(by rw [List.length_map]; exact l2) = k := by rw [List.getElem_map, (List.getElem?_eq_some_iff.mp hj).2]
      exact (List.getElem_inj hnb).mp (e1.trans e2.symm)
    subst ej
    refine wpAny_bind (wpAny_dictEntries hob hdb ?_)
    rw [Array.getElem?_eq_getElem hjlt]
    dsimp only
    rw [een2]
    refine wpAny_holding (hev _ _ _ _ ?_)
    show wpAny _ _ (if (!true) = true then _ else _) _ _ _
    rw [if_neg (by decide)]
    refine wpAny_bind (wpAny_dictEpoch hoa hda ?_)
    rw [if_neg (by simp)]
    exact wpAny_pure ⟨rfl, rfl, x + 1, hrest, hlt⟩
  · rintro q s' ⟨rfl, rfl, i, hr, hi⟩
    exact wpAny_pure h
theorem eq_dictsT {a b : Addr} {xa xb : List (K × Addr × Value)} {Q : Value → Shared → Prop} (hu : knd.room A.in1) (hu0 : A.units < cLine) (ha : (a == sysModules) = false) (hb : (b == sysModules) = false)
    (da : s.heap.DictOfH knd a xa) (db : s.heap.DictOfH knd b xb) (hl : xa.length = xb.length)
    (hits : ∀ (i : Nat) (k : K) (p : Addr × Value), xa[i]? = some (k, p) → ∃ (j : Nat) (q : Addr × Value), xb[j]? = some (k, q) ∧ SeqAt.EqAt A.in1 s p.2 q.2 true) (h : Q (.bool true) s) :
    wpAny (model prog w) A (compareOp .Eq (.ref a) (.ref b)) Q E s := by
  refine wpAny_richCompare_same_room (op := .Eq) da.typeIs db.typeIs PySem.F.slot_dict_eq (wpAny_call_entry PySem.F.slot_dict_eq da.typeIs PySem.F.entry_dict_eq ?_ (PySem.F.args_dict_eq_2 _ _)) hu0
  show wpAny _ _ (Builtin.Dict.dictSlotArgs "__eq__" ⟨[.ref a, .ref b], []⟩ >>= _) _ _ s
  refine wpAny_bind ?_
  unfold Builtin.Dict.dictSlotArgs
  refine wpAny_bind (wpAny_notOrdered_dict da.typeIs ?_)
  show wpAny _ _ (pure (Value.ref a, Value.ref b)) _ _ s
  refine wpAny_pure ?_
  refine wpAny_bind (wpAny_isInstance (T := "dict") db.typeIs PySem.F.sub_dict_dict ?_)
  simp only [Bool.not_true, Bool.false_eq_true, if_false]
  refine wpAny_bind (wpAny_pure (wpAny_bind (wpAny_pure ?_)))
  refine wpAny_bind (samePairsT hu ha hb da db hl hits ?_)
  refine wpAny_pure ⟨_, rfl, ?_, ?_⟩
  · exact fun x => nomatch x
  · simpa using h
end
section
variable {X : Cx}
def rEqT : R2 := fun x y H Q => ∃ a b ks ls, x = .ref a ∧ y = .ref b ∧ H a = some (.dT ks) ∧ H b = some (.dT ls) ∧ ks.length = ls.length ∧ (∀ p ∈ ks, valV ls p.1 = some p.2 ∧ flatB p.2 = true) ∧ Q (.bl true) H
theorem at_of_atKey {K : Type} [DecidableEq K] {xs : List (K × Addr × Value)} {k : K} {p : Addr × Value} (h : atKey xs k = some p) : ∃ j : Nat, xs[j]? = some (k, p) := by
  unfold atKey at h
  obtain ⟨y, hy, e⟩ := Option.map_eq_some_iff.mp h
  have hk := List.find?_some hy
  obtain ⟨j, hj⟩ := List.mem_iff_getElem?.mp (List.mem_of_find?_eq_some hy)
  refine ⟨j, hj.trans ?_⟩
  obtain ⟨k', p'⟩ := y
  cases (show p' = p from e)
  rw [show k' = k from of_decide_eq_true hk]
theorem paired_getR {α β : Type} {G : α → β → Prop} {l₁ : List α} {l₂ : List β} (h : Paired G l₁ l₂) : ∀ {i : Nat} {b : β}, l₂[i]? = some b → ∃ a, l₁[i]? = some a ∧ G a b := by
  induction h with
  | nil => intro i a e; simp at e
  | @cons a b l₁ l₂ r t ih =>
    intro i a' e
    cases i with
    | zero =>
      simp only [List.getElem?_cons_zero, Option.some.injEq] at e
      subst e
      exact ⟨a, rfl, r⟩
    | succ j =>
      simp only [List.getElem?_cons_succ] at e ⊢
      exact ih e
theorem op_eq_dictT (hu : X.A.units + 1 < cLine) : OpR X (compareOp .Eq) rEqT := by
  intro pins s σ H x y v u Q I rx ry h
  obtain ⟨a, b, ks, ls, rfl, rfl, ea, eb, hlen, hp, q⟩ := h
  obtain rfl : v = Value.ref a := rx
  obtain rfl : u = Value.ref b := ry
  obtain ⟨_, ya, xa, ra, da⟩ := dt_of I.hok ea
  obtain ⟨_, yb, xb, rb, db⟩ := dt_of I.hok eb
  have l1 : ks.length = xa.length := Paired.length ra
  have l2 : ls.length = xb.length := Paired.length rb
  refine eq_dictsT (knd := tupleKind (mixKind X.prog X.w)) (tupleKind_room_in1 hu) (by omega) ya yb da db (by omega) (fun i k p hi => ?_) ⟨.bl true, H, I, rfl, q⟩
  obtain ⟨kv, hkv, e1, _, rv⟩ := paired_getR ra hi
  obtain ⟨e, f⟩ := hp kv (List.mem_of_getElem? hkv)
  have e1' : kv.1 = k := e1
  have rr : RelO (some kv.2) ((atKey xb k).map (·.2)) := by rw [← e, e1']; exact rb.val k
  obtain ⟨y, hy, ry⟩ := rr.some_of
  obtain ⟨p2, hp2, rfl⟩ := Option.map_eq_some_iff.mp hy
  obtain ⟨j, hj⟩ := at_of_atKey hp2
  exact ⟨j, p2, hj, eqAt_same rv ry f⟩
end
end Ep

set_option Elab.async false
set_option linter.all false
set_option maxRecDepth 100000
set_option maxHeartbeats 4000000
/-! ## a set of texts made by a comprehension with two clauses; sorted of it -/
namespace Ep
open PySem PySem.Spec PyProof.Rows L2
/-- an entry that is a text of which p holds -/
def GoodS (P : Program) (w : World) (p : Str → Prop) (e : Int × Value) : Prop := ∃ x tk, e.2 = Value.str x tk ∧ e.1 = (strKind P w).hash x ∧ p x
/-- a set of texts at a, no more than n, of each p holds -/
def SetS (P : Program) (w : World) (h : Heap) (a : Addr) (p : Str → Prop) (n : Nat) : Prop :=
  ∃ o es ep t, h.get? a = some o ∧ o.ExactSet ∧ o.data = .set es ep t ∧ (∀ e ∈ es.toList, GoodS P w p e) ∧ es.size ≤ n ∧ n < scanBound ∧ t.fits es.size = true ∧ Ris t.place.toList ∧ (w.params.followText "set-order" = true ∨ t.led = true)
section
variable {P : Program} {w : World} {h h' : Heap} {a : Addr} {p : Str → Prop} {n : Nat}
theorem SetS.at (R : SetS P w h a p n) (k : ∀ o, h.get? a = some o → h'.get? a = some o) : SetS P w h' a p n := by
  obtain ⟨o, es, ep, t, ho, r⟩ := R
  exact ⟨o, es, ep, t, k o ho, r⟩
theorem strK_is (k : Str) (u : Tok) : (strKind P w).is k (.str k u) = true := by
  show (k == k) = true
  exact beq_self_eq_true k
theorem goodS_elems {l : List (Int × Value)} (g : ∀ e ∈ l, GoodS P w p e) : ElemsOf (strKind P w) l := fun e he => by
  obtain ⟨k, tk, h1, h2, _⟩ := g e he
  exact ⟨⟨k, by rw [h1]; exact strK_is k tk, h2⟩, by rw [h1] <;> rfl⟩
end
section
variable {P : Program} {w : World} {A : Around} {E : Value → Shared → Prop} {s : Shared} {a : Addr} {p : Str → Prop} {n : Nat}
theorem storeS_at {h : Heap} {a : Addr} {o : Obj} {es es' : Array (Int × Value)} {ep : Nat} {t t' : SetTable} (ho : h.get? a = some o) (hd : o.data = .set es ep t) :
    (h.update a (Obj.putSet es' t')).get? a = some { o with data := .set es' (ep + 1) t' } := PpSet.storeB_at ho hd
theorem setS_add_tail {g : Bool → Sem Unit} (hg : ∀ (b : Bool) (s₁ : Shared) (Q' : Unit → Shared → Prop), Q' () s₁ → wpAny (model P w) A (g b) Q' E s₁)
    {o : Obj} {es : Array (Int × Value)} {ep : Nat} {t : SetTable} (ho : s.heap.get? a = some o) (hex : o.ExactSet) (hd : o.data = .set es ep t)
    {es1 : Array (Int × Value)} {t2 : SetTable} (g1 : ∀ e ∈ es1.toList, GoodS P w p e) (hn1 : es1.size ≤ n)
    (hb1 : n < scanBound) (hf2 : t2.fits es1.size = true) (hr : Ris t2.place.toList) (hl : w.params.followText "set-order" = true ∨ t2.led = true) {wasDummy : Bool} {R : Option Bool → Shared → Prop}
    (hR : ∀ h', Heap.SameBut a s.heap h' → SetS P w h' a p n → R (some true) { s with heap := h' }) :
    wpAny (model P w) A (do
        storeSet a es1 t2
        if (!wasDummy && t2.tooFull) = true then do
            g (relayAll t2 es1 (SetTable.grown es1.size)).2.2
            storeSet a (relayAll t2 es1 (SetTable.grown es1.size)).1 (relayAll t2 es1 (SetTable.grown es1.size)).2.1
            pure (some true)
          else pure (some true)) R E s := by
  refine wpAny_bind (wpAny_storeSet_of ho hd ?_ (fits_of_scanBound (Nat.lt_of_le_of_lt hn1 hb1)))
  have ho1 := storeS_at (es' := es1) (t' := t2) ho hd
  have sb1 := Heap.SameBut.update s.heap a (Obj.putSet es1 t2)
  split
  · have pm := relayAll_perm t2 es1 (SetTable.grown es1.size)
    have hf3 := relayAll_fits t2 es1 (SetTable.grown es1.size)
    have hr3 := relayAll_ris t2 es1 (SetTable.grown es1.size)
    have hl3 := relayAll_led t2 es1 (SetTable.grown es1.size)
    generalize relayAll t2 es1 (SetTable.grown es1.size) = Z at pm hf3 hr3 hl3 ⊢
    obtain ⟨es2, t3, gave⟩ := Z
    dsimp only at pm hf3 hr3 hl3 ⊢
    have hsz : es2.size = es1.size := by rw [← Array.length_toList, pm.length_eq, Array.length_toList]
    have hn2 : es2.size ≤ n := by rw [hsz]; exact hn1
    refine wpAny_bind (hg _ _ _ ?_)
    refine wpAny_bind (wpAny_storeSet_of ho1 rfl ?_ (fits_of_scanBound (Nat.lt_of_le_of_lt hn2 hb1)))
    have ho2 := storeS_at (es' := es2) (t' := t3) ho1 rfl
    refine wpAny_pure (hR _ (sb1.trans (Heap.SameBut.update _ a _)) ?_)
    exact ⟨_, es2, _, t3, ho2, hex, rfl, fun e he => g1 e (pm.mem_iff.mp he), hn2, hb1, hf3, hr3, hl.imp id fun z => by rw [hl3]; exact z⟩
  · exact wpAny_pure (hR _ sb1 ⟨_, es1, _, t2, ho1, hex, rfl, g1, hn1, hb1, hf2, hr, hl⟩)
theorem setS_add_hashed {k : Str} {tk : Tok} {Q : Bool → Shared → Prop} (R : SetS P w s.heap a p n) (hk : p k) (room : n + 1 < scanBound)
    (hQ : ∀ h' b, Heap.SameBut a s.heap h' → SetS P w h' a p (n + 1) → Q b { s with heap := h' }) :
    wpAny (model P w) A (setAddHashed a (.str k tk) ((strKind P w).hash k)) Q E s := by
  obtain ⟨o, es, ep, t, ho, hex, hd, g, hn, hb, hf, hr, hl⟩ := R
  have hkey : (strKind P w).is k (.str k tk) = true := strK_is k tk
  have hsc : (Value.str k tk).scannable = true := rfl
  have hel : ElemsOf (strKind P w) es.toList := goodS_elems g
  have hes : es.size < scanBound := Nat.lt_of_le_of_lt hn hb
  unfold setAddHashed setAddHashedIn
  refine wpAny_holding (wpAny_bind (wpAny_setState_of ho hd hf ?_))
  dsimp only
  rw [byScan_of hsc hes hel]
  simp only [↓reduceIte]
  unfold setAddByScan
  refine wpAny_bind ?_
  refine wpAny_bind (wpAny_rule ?_)
  refine wpAny_bind (wpAny_setScan_of hkey ho hd hf hel ?_)
  cases hfi : List.findIdx? (fun e => (strKind P w).is k e.2) es.toList with
  | some j =>
    dsimp only
    exact wpAny_pure (wpAny_pure (hQ s.heap false (Heap.SameBut.refl a s.heap) ⟨o, es, ep, t, ho, hex, hd, g, Nat.le_succ_of_le hn, room, hf, hr, hl⟩))
  | none =>
    dsimp only
    have hgw : ∀ (b : Bool) {s₁ : Shared} {Q' : Unit → Shared → Prop}, Q' () s₁ → wpAny (model P w) A (match b with | true => rule "set.scan.the-table-gave-way" | false => pure ()) Q' E s₁ :=
      fun b s₁ Q' q => by cases b <;> first | exact wpAny_pure q | exact wpAny_rule q
    have pm := layNew_perm t es ((strKind P w).hash k) (.str k tk)
    have hf1 := layNew_fits t es ((strKind P w).hash k) (.str k tk)
    have hr1 := layNew_ris t es ((strKind P w).hash k) (.str k tk) hr
    have hl1 := layNew_led t es ((strKind P w).hash k) (.str k tk)
    generalize layNew t es ((strKind P w).hash k) (.str k tk) = Z at pm hf1 hr1 hl1 ⊢
    obtain ⟨es1, t1, wasDummy, gave⟩ := Z
    dsimp only at pm hf1 hr1 hl1 ⊢
    rw [Array.toList_push] at pm
    have pc : es1.toList.Perm (((strKind P w).hash k, Value.str k tk) :: es.toList) := pm.trans (List.perm_append_singleton _ _)
    have g1 : ∀ e ∈ es1.toList, GoodS P w p e := fun e he => by
      rcases List.mem_cons.mp (pc.mem_iff.mp he) with z | z
      · rw [z]; exact ⟨k, tk, rfl, rfl, hk⟩
      · exact g e z
    have hsz : es1.size ≤ n + 1 := by rw [← Array.length_toList, pc.length_eq, List.length_cons, Array.length_toList]; exact Nat.succ_le_succ hn
    have hled : w.params.followText "set-order" = true ∨ t1.led = true := hl.imp id fun z => by rw [hl1]; exact z
    refine wpAny_bind (hgw _ ?_)
    split
    · refine wpAny_bind ?_
      rw [hashByValue_scannable 8 hsc]
      refine wpAny_pure ?_
      refine setS_add_tail (n := n + 1) ?_ ho hex hd g1 hsz room ?_ ?_ ?_ ?_
      · intro b s₁ Q' q; cases b <;> first | exact wpAny_pure q | exact wpAny_rule q
      · first | (split <;> first | exact hf1 | exact SetTable.fits_plain_off hf1) | exact hf1
      · first | (split <;> exact hr1) | exact hr1
      · first | (split <;> exact hled) | exact hled
      · intro h' sb r; dsimp only; exact wpAny_pure (hQ h' true sb r)
    · refine wpAny_bind (wpAny_pure ?_)
      simp only [↓reduceIte]
      refine setS_add_tail (n := n + 1) ?_ ho hex hd g1 hsz room hf1 hr1 hled ?_
      · intro b s₁ Q' q; cases b <;> first | exact wpAny_pure q | exact wpAny_rule q
      · intro h' sb r; dsimp only; exact wpAny_pure (hQ h' true sb r)
theorem setS_add {k : Str} {tk : Tok} {Q : Value → Shared → Prop} (R : SetS P w s.heap a p n) (hk : p k) (room : n + 1 < scanBound)
    (hQ : ∀ h', Heap.SameBut a s.heap h' → SetS P w h' a p (n + 1) → Q .none { s with heap := h', toks := s.toks + 1 }) :
    wpAny (model P w) A (call (.builtin "set.add") [.ref a, .str k tk]) Q E s := by
  have hT : s.TypeIs (.ref a) "set" := let ⟨o, _, _, _, ho, hex, _⟩ := R; ⟨o, ho, hex.1⟩
  refine wpAny_call_entry F.slot_set_add hT F.entry_set_add ?_ (F.args_set_add_2 _ _)
  unfold Builtin.«set.add» Builtin.Frozenset.oneOther
  simp only [List.isEmpty_nil, bind_assoc]
  unfold Builtin.Frozenset.addrOf setAdd
  refine wpAny_bind (wpAny_pure ?_)
  try dsimp only
  refine wpAny_bind (wpAny_pure ?_)
  try dsimp only
  refine wpAny_bind ?_
  refine wpAny_holding ?_
  refine wpAny_bind ((strKind P w).pyHash (strK_is k tk) ?_)
  refine setS_add_hashed (s := { s with toks := s.toks + 1 }) R hk room fun h' b sb r => ?_
  show wpAny _ _ (ret Value.none) _ _ _
  exact wpAny_pure ⟨_, rfl, hQ h' sb r⟩
theorem setS_fresh {P : Program} {h : Heap} {p : Str → Prop} (w : World) : SetS P w (h.push { cls := .type "set", dict := none, data := .set #[] 0 (.fresh 0 0 (!w.params.followText "set-order")) }) h.objs.size p 0 :=
  ⟨_, #[], 0, _, Heap.get?_push_size _ rfl, ⟨rfl, rfl, rfl⟩, rfl, (fun e he => by simp at he), Nat.le_refl _, (by decide), (by rfl), List.Pairwise.nil, by
    show _ ∨ (!w.params.followText "set-order") = true
    cases w.params.followText "set-order"
    · exact .inr rfl
    · exact .inl rfl⟩
end
/-! ### as tracked -/
def SetSO (P : Program) (w : World) (a : Addr) (p : Str → Prop) (n : Nat) : HO := .ext fun h => SetS P w h a p n
theorem setSO_new {w : World} {P : Program} {H : Hp} {h : Heap} {a : Addr} {p : Str → Prop} {n : Nat} (R : SetS P w h a p n) : ObjOk P w H h a (SetSO P w a p n) := by
  have ⟨o, _, _, _, ho, _⟩ := R
  exact ⟨R, ⟨o, ho⟩, fun h1 h2 p k => SetS.at p k⟩
section
variable {X : Cx}
theorem setSO_get {pins : List (Addr × Obj)} {σ : L2.St} {H : Hp} {s : Shared} {a : Addr} {p : Str → Prop} {n : Nat} (I : L2.Inv X pins σ H s) (ha : H a = some (SetSO X.prog X.w a p n)) : SetS X.prog X.w s.heap a p n := (I.hok a _ ha).1
theorem addS_ok {pins : List (Addr × Obj)} {σ : L2.St} {H : Hp} {s : Shared} {E : Value → Shared → Prop} {D : Addr} {p : Str → Prop} {n : Nat} {y : Str} {v : Value} {Q : Value → Shared → Prop} (I : L2.Inv X pins σ H s) (hD : H D = some (SetSO X.prog X.w D p n)) (room : n + 1 < scanBound) (hy : p y) (rv : RelV (.str y) v)
    (h : ∀ s', L2.Inv X pins σ (upd H D (SetSO X.prog X.w D p (n + 1))) s' → Q .none s') : wpAny (model X.prog X.w) X.A (call (.builtin "set.add") [.ref D, v]) Q E s := by
  have R := setSO_get I hD
  obtain ⟨tk, rfl⟩ := rv
  refine setS_add R hy room fun h' sb new => ?_
  have he : ∃ u, h'.get? D = some u := by
    have ⟨o, _, _, _, ho, _⟩ := new
    exact ⟨o, ho⟩
  exact h _ (I.write (e := D) (t' := s.toks + 1) (by rw [hD]; trivial) (.inl rfl) (fun b u hb hu => (sb.2 b hb).trans hu) he (setSO_new new))
end

theorem compTurnS_out (elt t0 i0 t1 i1 : Expr) (ifs0 ifs1 : List Expr) (scope : Scope) (pos : Pos) (it acc : Value) (env : Env) :
    compTurn (.SetComp elt [⟨t0, i0, ifs0, 0⟩, ⟨t1, i1, ifs1, 0⟩] scope pos) 0 it acc env = (do
      standAt i0.pos
      match ← pyNext it with
      | none => pure (.done .next)
      | some v =>
        letOwnedTupleGo t0 it v
        assign t0 env v
        let mut ok := true
        for c in ifs0 do
          if ok then ok ← isTrue c env (eval c env)
        if ok then
          let x ← eval i1 env
          standAt i1.pos
          let x ← foldedSetIterable i1 env x
          let _ ← runOwn (.compStart (.SetComp elt [⟨t0, i0, ifs0, 0⟩, ⟨t1, i1, ifs1, 0⟩] scope pos) 1 (← holding [x] (pyIter x)) acc env) env
        again (.compLoop (.SetComp elt [⟨t0, i0, ifs0, 0⟩, ⟨t1, i1, ifs1, 0⟩] scope pos) 0 it acc env)) := by rfl
theorem compTurnS_in (elt t0 i0 t1 i1 : Expr) (ifs0 ifs1 : List Expr) (scope : Scope) (pos : Pos) (it acc : Value) (env : Env) :
    compTurn (.SetComp elt [⟨t0, i0, ifs0, 0⟩, ⟨t1, i1, ifs1, 0⟩] scope pos) 1 it acc env = (do
      standAt i1.pos
      match ← pyNext it with
      | none => pure (.done .next)
      | some v =>
        letOwnedTupleGo t1 it v
        assign t1 env v
        let mut ok := true
        for c in ifs1 do
          if ok then ok ← isTrue c env (eval c env)
        if ok then
          (do let v ← eval elt env; standAt elt.pos; let _ ← call (.builtin "set.add") [acc, v])
        again (.compLoop (.SetComp elt [⟨t0, i0, ifs0, 0⟩, ⟨t1, i1, ifs1, 0⟩] scope pos) 1 it acc env)) := by rfl

section
variable {prog : Program} {w : World} {A : Around} {R : Result → Shared → Prop} {s : Shared} {elt t0 i0 t1 i1 : Expr} {ifs0 ifs1 : List Expr} {scope : Scope} {pos : Pos} {it acc : Value} {env : Env}
/-- the loop of the first clause -/
theorem compLoopS_out (hs : ∀ x, foldedSetIterable i1 env x = pure x) (I : Nat → Shared → Prop)
    (turn : ∀ n s, I n s → wpAny (model prog w) A (pyNext it) (fun r s₁ => match r with
      | none => R (.ok .next) s₁
      | some v => wpAny (model prog w) A (letOwnedTupleGo t0 it v) (fun _ s₁' => wpAny (model prog w) A (assign t0 env v) (fun _ s₂ =>
          wpAny (model prog w) A (forIn ifs0 true fun c r => if r = true then do let ok ← isTrue c env (eval c env); pure (ForInStep.yield ok) else pure (ForInStep.yield r)) (fun ok s₃ =>
            if ok = true then wpAny (model prog w) A (eval i1 env) (fun x s₄ => wpAny (model prog w) A (pyIter x) (fun it1 s₅ =>
              codeAny (model prog w) A (.compStart (.SetComp elt [⟨t0, i0, ifs0, 0⟩, ⟨t1, i1, ifs1, 0⟩] scope pos) 1 it1 acc env) (fun r s' => match r with
                | .ok _ => ∃ m, m < n ∧ I m s'
                | .error _ => False) s₅) (notedBy (model prog w) A env fun e s' => R (.error e) s') s₄) (notedBy (model prog w) A env fun e s' => R (.error e) s') s₃
            else ∃ m, m < n ∧ I m s₃) (notedBy (model prog w) A env fun e s' => R (.error e) s') s₂) (notedBy (model prog w) A env fun e s' => R (.error e) s') s₁') (notedBy (model prog w) A env fun e s' => R (.error e) s') s₁) (notedBy (model prog w) A env fun e s' => R (.error e) s') s)
    (n : Nat) (h : I n s) :
    codeAny (model prog w) A (.compLoop (.SetComp elt [⟨t0, i0, ifs0, 0⟩, ⟨t1, i1, ifs1, 0⟩] scope pos) 0 it acc env) R s := by
  refine codeAny_loop rfl I (fun n s hI => ?_) n h
  show wpAny _ A ((compTurn (.SetComp elt [⟨t0, i0, ifs0, 0⟩, ⟨t1, i1, ifs1, 0⟩] scope pos) 0 it acc env).onRaise (fun x => do noteFrame x env; theTreesLotGoes x)) _ _ s
  refine wpAny_noted ?_
  rw [compTurnS_out]
  refine wpAny_bind (wpAny_standAt (wpAny_bind (wpAny_mono (turn n s hI) (fun r s₁ h₁ => ?_) fun _ _ h' => h')))
  cases r with
  | none => exact wpAny_pure h₁
  | some v =>
    refine wpAny_bind (wpAny_mono h₁ (fun _ s₁' h₁' => ?_) fun _ _ h' => h')
    refine wpAny_bind (wpAny_mono h₁' (fun _ s₂ h₂ => wpAny_bind (wpAny_mono h₂ (fun ok s₃ h₃ => ?_) fun _ _ h' => h')) fun _ _ h' => h')
    cases ok with
    | false => exact wpAny_pure ⟨rfl, h₃⟩
    | true =>
      refine wpAny_bind (wpAny_mono h₃ (fun x s₄ h₄ => ?_) fun _ _ h' => h')
      refine wpAny_bind (wpAny_standAt (wpAny_bind (wpAny_of_eq (hs x) (wpAny_bind (wpAny_holding (wpAny_mono h₄ (fun it1 s₅ h₅ => ?_) fun _ _ h' => h'))))))
      refine wpAny_bind (wpAny_runOwn ?_)
      rw [Around.mark_none]
      refine codeAny_mono h₅ fun r s' hr => ?_
      cases r with
      | ok f =>
        first
          | exact wpAny_pure ⟨rfl, hr⟩
          | exact wpAny_bind (wpAny_pure (wpAny_pure ⟨rfl, hr⟩))
      | error e => exact hr.elim
/-- the loop of the second -/
theorem compLoopS_in (I : Nat → Shared → Prop)
    (turn : ∀ n s, I n s → wpAny (model prog w) A (pyNext it) (fun r s₁ => match r with
      | none => R (.ok .next) s₁
      | some v => wpAny (model prog w) A (letOwnedTupleGo t1 it v) (fun _ s₁' => wpAny (model prog w) A (assign t1 env v) (fun _ s₂ =>
          wpAny (model prog w) A (forIn ifs1 true fun c r => if r = true then do let ok ← isTrue c env (eval c env); pure (ForInStep.yield ok) else pure (ForInStep.yield r)) (fun ok s₃ =>
            if ok = true then wpAny (model prog w) A (eval elt env) (fun x s₄ =>
              wpAny (model prog w) A (call (.builtin "set.add") [acc, x]) (fun _ s₅ => ∃ m, m < n ∧ I m s₅) (notedBy (model prog w) A env fun e s' => R (.error e) s') s₄) (notedBy (model prog w) A env fun e s' => R (.error e) s') s₃
            else ∃ m, m < n ∧ I m s₃) (notedBy (model prog w) A env fun e s' => R (.error e) s') s₂) (notedBy (model prog w) A env fun e s' => R (.error e) s') s₁') (notedBy (model prog w) A env fun e s' => R (.error e) s') s₁) (notedBy (model prog w) A env fun e s' => R (.error e) s') s)
    (n : Nat) (h : I n s) :
    codeAny (model prog w) A (.compLoop (.SetComp elt [⟨t0, i0, ifs0, 0⟩, ⟨t1, i1, ifs1, 0⟩] scope pos) 1 it acc env) R s := by
  refine codeAny_loop rfl I (fun n s hI => ?_) n h
  show wpAny _ A ((compTurn (.SetComp elt [⟨t0, i0, ifs0, 0⟩, ⟨t1, i1, ifs1, 0⟩] scope pos) 1 it acc env).onRaise (fun x => do noteFrame x env; theTreesLotGoes x)) _ _ s
  refine wpAny_noted ?_
  rw [compTurnS_in]
  refine wpAny_bind (wpAny_standAt (wpAny_bind (wpAny_mono (turn n s hI) (fun r s₁ h₁ => ?_) fun _ _ h' => h')))
  cases r with
  | none => exact wpAny_pure h₁
  | some v =>
    refine wpAny_bind (wpAny_mono h₁ (fun _ s₁' h₁' => ?_) fun _ _ h' => h')
    refine wpAny_bind (wpAny_mono h₁' (fun _ s₂ h₂ => wpAny_bind (wpAny_mono h₂ (fun ok s₃ h₃ => ?_) fun _ _ h' => h')) fun _ _ h' => h')
    cases ok with
    | false => exact wpAny_pure ⟨rfl, h₃⟩
    | true =>
      exact wpAny_bind (wpAny_bind (wpAny_mono h₃ (fun x s₄ h₄ => wpAny_bind (wpAny_standAt (wpAny_bind (wpAny_mono h₄ (fun _ s₅ h₅ => wpAny_pure (wpAny_pure ⟨rfl, h₅⟩)) fun _ _ h' => h')))) fun _ _ h' => h'))
/-- the second clause's start -/
theorem compStartS_ok (h0 : codeAny (model prog w) A (.compLoop (.SetComp elt [⟨t0, i0, ifs0, 0⟩, ⟨t1, i1, ifs1, 0⟩] scope pos) 1 it acc env) R s)
    (h : wpAny (model prog w) A (pyIter it) (fun it' s' => codeAny (model prog w) A (.compLoop (.SetComp elt [⟨t0, i0, ifs0, 0⟩, ⟨t1, i1, ifs1, 0⟩] scope pos) 1 it' acc env) R s')
      (notedBy (model prog w) A env fun x s' => R (.error x) s') s) :
    codeAny (model prog w) A (.compStart (.SetComp elt [⟨t0, i0, ifs0, 0⟩, ⟨t1, i1, ifs1, 0⟩] scope pos) 1 it acc env) R s := by
  refine codeAny_of_tree ?_
  show wpAny _ _ ((compStart (.SetComp elt [⟨t0, i0, ifs0, 0⟩, ⟨t1, i1, ifs1, 0⟩] scope pos) 1 it acc env).onRaise (fun x => do noteFrame x env; standAt theWindowsPlace)) _ _ s
  refine wpAny_notedAt ?_
  unfold compStart
  show wpAny _ _ (ask >>= _) _ _ s
  refine wpAny_bind (wpAny_askSetting (wpAny_ite ?_))
  split
  · first
      | exact wpAny_bind (wpAny_pure (wpAny_pure (And.intro rfl h0)))
      | exact wpAny_pure (And.intro rfl h0)
  · first
      | exact wpAny_bind (wpAny_rule (wpAny_bind (wpAny_standAt (wpAny_bind (wpAny_mono h (fun it' s' h' => wpAny_pure (And.intro rfl h')) fun _ _ x => x)))))
      | (refine wpAny_bind (wpAny_rule ?_); show wpAny _ _ (standAt i1.pos >>= _) _ _ s; exact wpAny_bind (wpAny_standAt (wpAny_bind (wpAny_mono h (fun it' s' h' => wpAny_pure (And.intro rfl h')) fun _ _ x => x))))
end


section
variable {X : Cx}
/-- [elt for tg in iter if .. for tg1 in iter1 if ..]: behind the first clause's store and tests the second source's own loop, from which Nx is reached. vs: the block's names; vs1: those of the second target -/
def tSc2 (P : Program) (w : World) (pr : Str → Prop) (wi : TI) (g : TG) (tt : TT) (wi1 : TI) (g1 : TG) (tt1 : TT) (te : TE) (vs vs1 : List Nat) : TE := fun σ H Q => wi σ H fun J H1 => ∀ D, H1 D = none → ∃ W : Nat → Nat → Hp → Prop, (∃ m, W 0 m (upd H1 D (SetSO P w D pr 0))) ∧ ∀ i m H, W i m H →
  (J.stop i H ∧ Q (.ref D) H) ∨ (J.go i H ∧ ∃ Nx : Hp → Prop, (∀ H', Nx H' → ∃ m', m' < m ∧ W (i + 1) m' H') ∧ ∀ x H', J.yld i H x H' → g x (wipe σ vs) H' fun σ2 H2 => wipe σ2 vs = wipe σ vs ∧ tt σ2 H2 fun b H3 =>
    if b = true then wi1 σ2 H3 fun J1 H4 => ∃ W1 : Nat → Nat → Hp → Prop, (∃ m, W1 0 m H4) ∧ ∀ j k H, W1 j k H →
      (J1.stop j H ∧ Nx H) ∨ (J1.go j H ∧ ∃ Nx1 : Hp → Prop, (∀ H', Nx1 H' → ∃ k', k' < k ∧ W1 (j + 1) k' H') ∧ ∀ x H', J1.yld j H x H' → g1 x (wipe σ2 vs1) H' fun σ3 H5 => wipe σ3 vs1 = wipe σ2 vs1 ∧ tt1 σ3 H5 fun b H6 =>
        if b = true then te σ3 H6 fun y H7 => ∃ z n, y = .str z ∧ pr z ∧ H7 D = some (SetSO P w D pr n) ∧ n + 1 < scanBound ∧ Nx1 (upd H7 D (SetSO P w D pr (n + 1))) else Nx1 H6)
    else Nx H3)
theorem sc2_core {pr : Str → Prop} {pins : List (Addr × Obj)} {s : Shared} {σ : L2.St} {H : Hp} {Q : VK} {elt tg iter tg1 iter1 : Expr} {ifs ifs1 : List Expr} {scope : Scope} {own : List (Str × Nat)} {vs1 : List Nat} {pos pos' : Pos} {wi wi1 : TI} {g g1 : TG} {tt tt1 : TT} {te : TE} {use : Option (Value → Sem Unit)} {Qf : Value → Shared → Prop}
    (hc : X.calm = true) (hN : X.N.Nodup) (I : L2.Inv X pins σ H s) (hi : PI X tg iter wi) (ok : BlkOk X.N X.env.scope scope own) (hv : ∀ i ∈ vs1, i ∈ own.map (·.2))
    (hg : ∀ (s : Shared) (H : Hp) (C : Addr) (cl : List (Str × Addr)) (fp : List Addr), PG (X.blk s H scope (compEnvC scope cl C X.env) fp) tg g) (ht : ∀ (s : Shared) (H : Hp) (C : Addr) (cl : List (Str × Addr)) (fp : List Addr), PTs (X.blk s H scope (compEnvC scope cl C X.env) fp) ifs tt)
    (he : ∀ (s : Shared) (H : Hp) (C : Addr) (cl : List (Str × Addr)) (fp : List Addr), PE (X.blk s H scope (compEnvC scope cl C X.env) fp) elt te) (hs : ∀ x, foldedSetIterable iter X.env x = pure x)
    (hi1 : ∀ (s : Shared) (H : Hp) (C : Addr) (cl : List (Str × Addr)) (fp : List Addr), PI (X.blk s H scope (compEnvC scope cl C X.env) fp) tg1 iter1 wi1)
    (hg1 : ∀ (s : Shared) (H : Hp) (C : Addr) (cl : List (Str × Addr)) (fp : List Addr), PG (X.blk s H scope (compEnvC scope cl C X.env) fp) tg1 g1)
    (ht1 : ∀ (s : Shared) (H : Hp) (C : Addr) (cl : List (Str × Addr)) (fp : List Addr), PTs (X.blk s H scope (compEnvC scope cl C X.env) fp) ifs1 tt1)
    (hs1 : ∀ env x, foldedSetIterable iter1 env x = pure x)
    (h : tSc2 X.prog X.w pr wi g tt wi1 g1 tt1 te (own.map (·.2)) vs1 σ H Q)
    (hRR : ∀ D C s' m H', L2.Inv X pins σ H' s' → Q (.ref D) H' → s'.heap.Ns C m → FpOk X pins H' C → compPost (model X.prog X.w) X.A X.xe use Qf (.ref D) C (.ok .next) s') :
    wpAny (model X.prog X.w) X.A (comprehension (.SetComp elt [⟨tg, iter, ifs, 0⟩, ⟨tg1, iter1, ifs1, 0⟩] scope pos) scope X.env pos' (newSet (.type "set")) false (eval iter X.env) use) Qf X.xe s := by
  have hfree : ∀ y ∈ scope.names, y.2 = .free → ∃ c, X.env.cells.lookup y.1 = some c := fun y hy e => by
    rcases ok.free y hy e with k | k
    · exact I.ok.has _ (.inl k)
    · exact I.ok.has _ (.inr k)
  refine wpAny_comprehension_free (use := use) rfl hs (closure_ok hfree) ok.kind (fun y hy e => by rw [ok.uniq y hy, e])
    (thn (hi.run pins s σ H _ I h) fun xv s1 hx => thn hx fun itv s2 h2 => ?_)
  obtain ⟨it, fp, tn, J, H2, e, I2, T, st2, f2, q⟩ := h2
  subst e
  refine PpSet.newSet_ok (newEnv_comp ?_)
  generalize hD : s2.heap.objs.size = D
  have hDn : H2 D = none := I2.hok.fresh (Nat.le_of_eq hD)
  obtain ⟨W, ⟨m0, w0⟩, turn⟩ := q D hDn
  -- the new list
  generalize hs3 : ({ s2 with heap := s2.heap.push { cls := .type "set", dict := none, data := .set #[] 0 (.fresh 0 0 (!X.w.params.followText "set-order")) } } : Shared) = s3
  have I3 : L2.Inv X pins σ (upd H2 D (SetSO X.prog X.w D pr 0)) s3 := by
    rw [← hs3]
    refine I2.laid (t' := s2.toks) (fun b o e => Heap.get?_push_of_some _ e) (Nat.le_of_eq hD) ?_
    rw [← hD]
    exact setSO_new (setS_fresh X.w)
  have h3 : s3.heap = s2.heap.push { cls := .type "set", dict := none, data := .set #[] 0 (.fresh 0 0 (!X.w.params.followText "set-order")) } := by rw [← hs3]
  have sz : ∀ b ∈ fp, b < s2.heap.objs.size := fun b hb => by
    obtain ⟨o, e, _⟩ := T.obj _ _ st2 b hb
    exact Heap.lt_size e
  have f3 : ∀ b ∈ fp, FpOk X pins (upd H2 D (SetSO X.prog X.w D pr 0)) b ∧ b < s3.heap.objs.size := fun b hb => by
    have hlt := sz b hb
    refine ⟨⟨?_, (f2 b hb).2⟩, by rw [h3, Heap.size_push]; exact Nat.lt_succ_of_lt hlt⟩
    rw [upd_ne (by rw [← hD]; exact Nat.ne_of_lt hlt)]
    exact (f2 b hb).1
  have st3 : tn 0 s3.heap := T.keep _ _ _ st2 fun b _ o e => by rw [h3]; exact Heap.get?_push_of_some _ e
  have I4 := block_start I3 ok hN f3
  have pg := hg s3 (upd H2 D (SetSO X.prog X.w D pr 0)) s3.heap.objs.size (cellsFrom (s3.heap.objs.size + 1) scope.names (cloFrom X.env.cells scope.names [])) fp
  have pt := ht s3 (upd H2 D (SetSO X.prog X.w D pr 0)) s3.heap.objs.size (cellsFrom (s3.heap.objs.size + 1) scope.names (cloFrom X.env.cells scope.names [])) fp
  have pe := he s3 (upd H2 D (SetSO X.prog X.w D pr 0)) s3.heap.objs.size (cellsFrom (s3.heap.objs.size + 1) scope.names (cloFrom X.env.cells scope.names [])) fp
  have pi1 := hi1 s3 (upd H2 D (SetSO X.prog X.w D pr 0)) s3.heap.objs.size (cellsFrom (s3.heap.objs.size + 1) scope.names (cloFrom X.env.cells scope.names [])) fp
  have pg1 := hg1 s3 (upd H2 D (SetSO X.prog X.w D pr 0)) s3.heap.objs.size (cellsFrom (s3.heap.objs.size + 1) scope.names (cloFrom X.env.cells scope.names [])) fp
  have pt1 := ht1 s3 (upd H2 D (SetSO X.prog X.w D pr 0)) s3.heap.objs.size (cellsFrom (s3.heap.objs.size + 1) scope.names (cloFrom X.env.cells scope.names [])) fp
  show codeAny _ _ (.compStart (.SetComp elt [⟨tg, iter, ifs, 0⟩, ⟨tg1, iter1, ifs1, 0⟩] scope pos) 0 (.ref it) (.ref D) (compEnvC scope (cellsFrom (s3.heap.objs.size + 1) scope.names (cloFrom X.env.cells scope.names [])) s3.heap.objs.size X.env)) (compPost (model X.prog X.w) X.A X.xe use Qf (.ref D) s3.heap.objs.size) { s3 with heap := pushCells (s3.heap.push { cls := .type "dict", data := .dict #[] }) scope.names }
  have nfp : ∀ b ∈ fp, (upd H2 D (SetSO X.prog X.w D pr 0)) b = none := fun b hb => (f3 b hb).1.1
  generalize hce : compEnvC scope (cellsFrom (s3.heap.objs.size + 1) scope.names (cloFrom X.env.cells scope.names [])) s3.heap.objs.size X.env = ce at I4 pg pt pe pi1 pg1 pt1 ⊢
  have cL : ce.locals = s3.heap.objs.size := by subst hce; rfl
  generalize hH3 : upd H2 D (SetSO X.prog X.w D pr 0) = H3 at I3 I4 pg pt pe pi1 pg1 pt1 w0 nfp f3
  generalize hs4 : ({ s3 with heap := pushCells (s3.heap.push { cls := .type "dict", data := .dict #[] }) scope.names } : Shared) = s4 at I4 ⊢
  have st4 : tn 0 s4.heap := T.keep _ _ _ st3 fun b _ o e => by rw [← hs4]; exact pushCells_keeps _ _ _ _ (Heap.get?_push_of_some _ e)
  have stat : ∀ {σ' : L2.St} {H' : Hp} {s' : Shared}, L2.Inv (X.blk s3 H3 scope ce fp) [] σ' H' s' → (∀ b ∈ fp, H' b = none) → ∀ b ∈ fp, FpOk (X.blk s3 H3 scope ce fp) [] H' b := fun {σ' H' s'} I' hn b hb =>
    ⟨hn b hb, (I'.ok.exf b hb).1, I'.ok.exfs b hb, .inl hb, fun x c e => (I'.ok.exf b hb).2 x c e, fun p hp => absurd (show p ∈ ([] : List (Addr × Obj)) ++ [] from hp) (by simp)⟩
  have loop : codeAny (model X.prog X.w) X.A (.compLoop (.SetComp elt [⟨tg, iter, ifs, 0⟩, ⟨tg1, iter1, ifs1, 0⟩] scope pos) 0 (.ref it) (.ref D) ce) (compPost (model X.prog X.w) X.A X.xe use Qf (.ref D) s3.heap.objs.size) s4 := by
    refine compLoopS_out (hs1 ce) (fun n s' => ∃ i H', L2.Inv (X.blk s3 H3 scope ce fp) [] (wipe σ (own.map (·.2))) H' s' ∧ tn i s'.heap ∧ (∀ b ∈ fp, H' b = none) ∧ W i n H') ?_ m0 ⟨0, H3, I4, st4, nfp, w0⟩
    rintro n s5 ⟨i, H5, I5, st5, n5, w5⟩
    rcases turn i n H5 w5 with ⟨stop, qq⟩ | ⟨go, Nx, hNx, step⟩
    · have td := T.done (X.blk s3 H3 scope ce fp) rfl rfl rfl hc i [] s5 _ H5 (fun _ _ => False) I5 (stat I5 n5) st5 stop
      refine thnF td fun r s6 ⟨hr, I6⟩ => ?_
      subst hr
      -- back in the def's context
      have I7 : L2.Inv X pins σ H5 s6 := I3.call' (ch := fp) I6.os I6.base I6.hok I6.bare fun b hb => ⟨(f3 b hb).1.2.2.2.1, (f3 b hb).1.2.1, (f3 b hb).1.2.2.2.2.1, (f3 b hb).1.2.2.2.2.2⟩
      have nC : H5 s3.heap.objs.size = none := by
        have z : H5 ce.locals = none := I6.free
        rw [cL] at z
        exact z
      obtain ⟨m, hn, _⟩ := I6.loc
      have hn : s6.heap.Ns ce.locals m := hn
      rw [cL] at hn
      exact hRR D s3.heap.objs.size s6 m H5 I7 qq hn (I3.fpOk (Nat.le_refl _) nC)
    · have ti := T.item (X.blk s3 H3 scope ce fp) rfl rfl rfl hc i [] s5 _ H5 (fun _ _ => False) I5 (stat I5 n5) st5 go
      refine thnF ti fun r s6 ⟨u, hr, h6⟩ => ?_
      subst hr
      refine thnF h6 fun _ s7 ⟨x, H7, I7, r7, y7, st7, n7⟩ => ?_
      have I7' := I7.pinned (stat I7 n7) (T.obj _ _ st7)
      refine thnF (pg.run _ s7 _ H7 x u _ I7' r7 (step x H7 y7)) fun _ s8 ⟨σ8, H8, I8, hw8, q8⟩ => ?_
      refine thnF (pt.run _ s8 σ8 H8 _ I8 q8) fun b s9 ⟨H9, I9, q9⟩ => ?_
      -- the turn's end, from any slots that know what the block knew at its start
      have fin : ∀ {σ9 : L2.St} {s' : Shared} {H' : Hp}, L2.Inv (X.blk s3 H3 scope ce fp) ([] ++ pinsAt fp s7.heap) σ9 H' s' → (wipe σ (own.map (·.2))).length = σ9.length → (∀ (j : Nat) v, (wipe σ (own.map (·.2)))[j]? = some (some v) → σ9[j]? = some (some v)) → Nx H' →
          ∃ m, m < n ∧ ∃ i H', L2.Inv (X.blk s3 H3 scope ce fp) [] (wipe σ (own.map (·.2))) H' s' ∧ tn i s'.heap ∧ (∀ b ∈ fp, H' b = none) ∧ W i m H' := fun {σ9 s' H'} I' hl hk nx => by
        obtain ⟨m', hm, w'⟩ := hNx H' nx
        have pin' : ∀ b ∈ fp, ∀ o, s7.heap.get? b = some o → s'.heap.get? b = some o ∧ H' b = none := fun b hb o e =>
          let z := I'.pin (b, o) (List.mem_append_right _ (List.mem_append_right _ (mem_pinsAt hb e)))
          ⟨z.1, z.2.1⟩
        refine ⟨m', hm, i + 1, H', (I'.unpinned (pins := [])).weak hl hk, T.keep _ _ _ st7 fun b hb o e => (pin' b hb o e).1, fun b hb => ?_, w'⟩
        obtain ⟨o, e, _⟩ := T.obj _ _ st7 b hb
        exact (pin' b hb o e).2
      have hl8 : (wipe σ (own.map (·.2))).length = σ8.length := by rw [← hw8, wipe_length]
      have hk8 : ∀ (j : Nat) v, (wipe σ (own.map (·.2)))[j]? = some (some v) → σ8[j]? = some (some v) := fun j v e => by
        rw [← hw8] at e
        exact (wipe_some e).1
      have hk9 : ∀ (j : Nat) v, (wipe σ (own.map (·.2)))[j]? = some (some v) → (wipe σ8 vs1)[j]? = some (some v) := fun j v e => by
        rw [← hw8] at e
        obtain ⟨e1, e2⟩ := wipe_some e
        rw [wipe_out fun z => e2 (hv j z)]
        exact e1
      cases b with
      | false =>
        simp only [Bool.false_eq_true, if_false] at q9 ⊢
        exact fin I9 hl8 hk8 q9
      | true =>
        simp only [if_true] at q9 ⊢
        refine thnF (pi1.run _ s9 σ8 H9 _ I9 q9) fun xv s10 hx => thnF hx fun itv s11 h11 => ?_
        obtain ⟨it1, fp1, tn1, J1, H11, e1, I11, T1, st11, f11, W1, ⟨m1, w1⟩, turn1⟩ := h11
        subst e1
        -- the inner loop
        have stat1 : ∀ {H' : Hp}, (∀ b ∈ fp1, H' b = none) → ∀ b ∈ fp1, FpOk (X.blk s3 H3 scope ce fp) ([] ++ pinsAt fp s7.heap) H' b := fun hn b hb => ⟨hn b hb, (f11 b hb).2⟩
        have loop1 : codeAny (model X.prog X.w) X.A (.compLoop (.SetComp elt [⟨tg, iter, ifs, 0⟩, ⟨tg1, iter1, ifs1, 0⟩] scope pos) 1 (.ref it1) (.ref D) ce)
            (fun r s' => match r with
              | .ok _ => ∃ m, m < n ∧ ∃ i H', L2.Inv (X.blk s3 H3 scope ce fp) [] (wipe σ (own.map (·.2))) H' s' ∧ tn i s'.heap ∧ (∀ b ∈ fp, H' b = none) ∧ W i m H'
              | .error _ => False) s11 := by
          refine compLoopS_in (fun k s' => ∃ j H', L2.Inv (X.blk s3 H3 scope ce fp) ([] ++ pinsAt fp s7.heap) (wipe σ8 vs1) H' s' ∧ tn1 j s'.heap ∧ (∀ b ∈ fp1, H' b = none) ∧ W1 j k H') ?_ m1 ⟨0, H11, I11.weak (wipe_length _ _) (fun j v e => (wipe_some e).1), st11, fun b hb => (f11 b hb).1, w1⟩
          rintro k s12 ⟨j, H12, I12, st12, n12, w12⟩
          rcases turn1 j k H12 w12 with ⟨stop1, nx1⟩ | ⟨go1, Nx1, hNx1, step1⟩
          · refine thnF (T1.done (X.blk s3 H3 scope ce fp) rfl rfl rfl hc j _ s12 (wipe σ8 vs1) H12 (fun _ _ => False) I12 (stat1 n12) st12 stop1) fun r s13 ⟨hr, I13⟩ => ?_
            subst hr
            exact fin I13 (hl8.trans (wipe_length σ8 vs1).symm) hk9 nx1
          · refine thnF (T1.item (X.blk s3 H3 scope ce fp) rfl rfl rfl hc j _ s12 (wipe σ8 vs1) H12 (fun _ _ => False) I12 (stat1 n12) st12 go1) fun r s13 ⟨u1, hr, h13⟩ => ?_
            subst hr
            refine thnF h13 fun _ s14 ⟨x1, H14, I14, r14, y14, st14, n14⟩ => ?_
            have I14' := I14.pinned (stat1 n14) (T1.obj _ _ st14)
            refine thnF (pg1.run _ s14 (wipe σ8 vs1) H14 x1 u1 _ I14' r14 (step1 x1 H14 y14)) fun _ s15 ⟨σ15, H15, I15, hw15, q15⟩ => ?_
            refine thnF (pt1.run _ s15 σ15 H15 _ I15 q15) fun b1 s16 ⟨H16, I16, q16⟩ => ?_
            have fin1 : ∀ {s' : Shared} {H' : Hp}, L2.Inv (X.blk s3 H3 scope ce fp) (([] ++ pinsAt fp s7.heap) ++ pinsAt fp1 s14.heap) σ15 H' s' → Nx1 H' → ∃ m, m < k ∧ ∃ j H', L2.Inv (X.blk s3 H3 scope ce fp) ([] ++ pinsAt fp s7.heap) (wipe σ8 vs1) H' s' ∧ tn1 j s'.heap ∧ (∀ b ∈ fp1, H' b = none) ∧ W1 j m H' := fun {s' H'} I' nx => by
              obtain ⟨m', hm, w'⟩ := hNx1 H' nx
              have pin' : ∀ b ∈ fp1, ∀ o, s14.heap.get? b = some o → s'.heap.get? b = some o ∧ H' b = none := fun b hb o e =>
                let z := I'.pin (b, o) (List.mem_append_right _ (List.mem_append_right _ (mem_pinsAt hb e)))
                ⟨z.1, z.2.1⟩
              refine ⟨m', hm, j + 1, H', I'.unpinned.weak (by rw [← hw15, wipe_length]) (fun j v e => by rw [← hw15] at e; exact (wipe_some e).1), T1.keep _ _ _ st14 fun b hb o e => (pin' b hb o e).1, fun b hb => ?_, w'⟩
              obtain ⟨o, e, _⟩ := T1.obj _ _ st14 b hb
              exact (pin' b hb o e).2
            cases b1 with
            | false =>
              simp only [Bool.false_eq_true, if_false] at q16 ⊢
              exact fin1 I16 q16
            | true =>
              simp only [if_true] at q16 ⊢
              refine thnF (pe.run _ s16 σ15 H16 _ I16 q16) fun z s17 ⟨yv, H17, I17, r17, zz, nn, ey, hpz, hD17, hz17, nx⟩ => ?_
              subst ey
              exact addS_ok (X := X.blk s3 H3 scope ce fp) I17 hD17 hz17 hpz r17 fun s18 I18 => fin1 I18 nx
        exact compStartS_ok loop1 (T1.self X.A 0 _ _ _ st11 loop1)
  exact PpSet.codeAny_compStart_set loop (T.self X.A 0 _ _ _ st4 loop)
/-- as a value -/
theorem pe_sc2 {pr : Str → Prop} {elt tg iter tg1 iter1 : Expr} {ifs ifs1 : List Expr} {scope : Scope} {own : List (Str × Nat)} {vs1 : List Nat} {pos : Pos} {wi wi1 : TI} {g g1 : TG} {tt tt1 : TT} {te : TE} (hc : X.calm = true) (hN : X.N.Nodup) (hi : PI X tg iter wi) (ok : BlkOk X.N X.env.scope scope own) (hv : ∀ i ∈ vs1, i ∈ own.map (·.2))
    (hg : ∀ (s : Shared) (H : Hp) (C : Addr) (cl : List (Str × Addr)) (fp : List Addr), PG (X.blk s H scope (compEnvC scope cl C X.env) fp) tg g) (ht : ∀ (s : Shared) (H : Hp) (C : Addr) (cl : List (Str × Addr)) (fp : List Addr), PTs (X.blk s H scope (compEnvC scope cl C X.env) fp) ifs tt)
    (hi1 : ∀ (s : Shared) (H : Hp) (C : Addr) (cl : List (Str × Addr)) (fp : List Addr), PI (X.blk s H scope (compEnvC scope cl C X.env) fp) tg1 iter1 wi1)
    (hg1 : ∀ (s : Shared) (H : Hp) (C : Addr) (cl : List (Str × Addr)) (fp : List Addr), PG (X.blk s H scope (compEnvC scope cl C X.env) fp) tg1 g1) (ht1 : ∀ (s : Shared) (H : Hp) (C : Addr) (cl : List (Str × Addr)) (fp : List Addr), PTs (X.blk s H scope (compEnvC scope cl C X.env) fp) ifs1 tt1)
    (he : ∀ (s : Shared) (H : Hp) (C : Addr) (cl : List (Str × Addr)) (fp : List Addr), PE (X.blk s H scope (compEnvC scope cl C X.env) fp) elt te) (hs : ∀ x, foldedSetIterable iter X.env x = pure x := by intro _; rfl) (hs1 : ∀ env x, foldedSetIterable iter1 env x = pure x := by intro _ _; rfl) :
    PE X (.SetComp elt [⟨tg, iter, ifs, 0⟩, ⟨tg1, iter1, ifs1, 0⟩] scope pos) (tSc2 X.prog X.w pr wi g tt wi1 g1 tt1 te (own.map (·.2)) vs1) := by
  refine ⟨fun pins s σ H Q I h => ?_⟩
  rw [PpSet.eval_SetComp]
  refine sc2_core hc hN I hi ok hv hg ht he hs hi1 hg1 ht1 hs1 h fun D C s' m H' I' q hn f => ⟨m, hn, fun h'' sb => ?_⟩
  obtain ⟨f0, f1, f2, f3, f4, f5⟩ := f
  exact ⟨.ref D, H', I'.turned (t' := s'.toks) (fun b o hb e => (sb.2 b hb).trans e) f0 f1 f3 f4 f5, rfl, q⟩
end


/-! ### sorted of it: some list of such texts -/
section
variable {prog : Program} {w : World} {A : Around} {E : Value → Shared → Prop} {s : Shared}
theorem strs_each {p : Str → Prop} : ∀ (vs : List Value), (∀ v ∈ vs, ∃ x tk, v = Value.str x tk ∧ p x) → ∃ xs : List Str, Vals (xs.map V.str) vs ∧ ∀ x ∈ xs, p x
  | [], _ => ⟨[], .nil, fun _ h => absurd h List.not_mem_nil⟩
  | v :: vs, h => by
    obtain ⟨x, tk, rfl, hp⟩ := h v List.mem_cons_self
    obtain ⟨xs, r, hq⟩ := strs_each vs fun u hu => h u (List.mem_cons_of_mem _ hu)
    exact ⟨x :: xs, .cons ⟨tk, rfl⟩ r, fun y hy => by
      rcases List.mem_cons.mp hy with e | e
      · rw [e]; exact hp
      · exact hq y e⟩
end
section
variable {X : Cx}
def rSortSet (P : Program) (w : World) : List V → Hp → VK → Prop := fun vs H Q => ∃ (a : Addr) (p : Str → Prop) (n : Nat), vs = [V.ref a] ∧ H a = some (SetSO P w a p n) ∧
  ∀ (ys : List Str) q, (∀ y ∈ ys, p y) → ys.length ≤ n → H q = none → Q (.ref q) (upd H q (.lst (ys.map V.str)))
def encS : V → PyData
  | .str x => .str x
  | _ => .str ""
theorem encS_map (xs : List Str) : (xs.map V.str).map encS = xs.map PyData.str := by rw [List.map_map]; rfl
theorem cr_sortedSetS (hc : X.calm = true) (hu : X.A.units + 64 < cLine) : CallR X (.builtin "sorted") (rSortSet X.prog X.w) := by
  intro pins s σ H vs us Q I r h
  obtain ⟨a, p, n, rfl, ha, q⟩ := h
  obtain ⟨u, rfl, ru⟩ := vals1 r
  cases ru
  obtain ⟨o, es, ep, t, ho, hex, hd, g, hn, hb, hf, hr, hl⟩ := setSO_get I ha
  have hsz : es.size < scanBound := Nat.lt_of_le_of_lt hn hb
  refine Calls.call_function_entry PyProof.Rows.kind_sorted PyProof.Rows.plain_sorted PyProof.Rows.entry_sorted (PyProof.Rows.args_sorted1 _) ?_
  unfold Builtin.«sorted»
  refine wpAny_bind (m := checkCount "sorted" 1 1 _) (wpAny_pure ?_)
  refine wpAny_bind (collect_set (A := X.A.in1) (I.ok.hd hc) ⟨o, ho, hex.1, hd⟩ hf hsz hr hl fun s1 vs k1 hz g1 o1 pm => ?_)
  have hvl : vs.length ≤ n := by rw [pm.length_eq, List.length_map, Array.length_toList]; exact hn
  obtain ⟨xs, rv, hp⟩ := strs_each (p := p) vs fun v hv => by
    obtain ⟨e, he, q⟩ := List.mem_map.mp (pm.mem_iff.mp hv)
    obtain ⟨k, tk, h1, _, h2⟩ := g e he
    exact ⟨k, tk, by rw [← q]; exact h1, h2⟩
  have hlen : (xs.map V.str).length = vs.length := rv.length
  have hlen2 : (xs.map V.str).length ≤ sizeLine := by rw [hlen]; exact Nat.le_trans hvl (fits_of_scanBound hb)
  refine wpAny_bind (wpAny_newList ?_ (by omega))
  have hoL : (s1.heap.push (seqObj "list" vs.toArray 0)).get? s1.heap.objs.size = some (seqObj "list" vs.toArray 0) := Heap.get?_push_size _ rfl
  have I1 : L2.Inv X pins σ H s1 := I.call' (ch := []) o1 (Un.kept k1) (I.hok.kept k1) (by rw [g1]; exact I.bare) (fun _ z => nomatch z)
  show wpAny _ _ _ _ _ { s1 with heap := s1.heap.push (seqObj "list" vs.toArray 0) }
  have e := each_vals rv
  have dp : ∀ b ∈ xs.map V.str, Dp X.K H b (encS b) := fun b hb => by
    obtain ⟨x, _, rfl⟩ := List.mem_map.mp hb
    exact .str x
  have al : ∀ x y : V, PySem.W.alike (encS x) (encS y) = true := fun x y => by cases x <;> cases y <;> rfl
  have old : ∀ (v : Value) (b : V), b ∈ xs.map V.str → RelV b v → ∃ as, Reads (s1.heap.push (seqObj "list" vs.toArray 0)) v (encS b) as ∧ s1.heap.objs.size ∉ as := fun v b hb rb => by
    obtain ⟨as, ra⟩ := Dp.reads I1 _ _ _ (dp b hb) rb
    refine ⟨as, PyProof.Rows.Reads.keeps (fun _ _ q => Heap.get?_push_of_some _ q) ra, fun m => ?_⟩
    obtain ⟨ob, hob⟩ := PyProof.On.reads_mem_get ra _ m
    exact absurd (Heap.lt_size hob) (Nat.lt_irrefl _)
  refine wpAny_bind (wpAny_holding (PySem.W.list_sort_data (R := fun v b => RelV b v) (enc := encS) (A := X.A.in1) (s := { s1 with heap := s1.heap.push (seqObj "list" vs.toArray 0) }) hoL e (each_ind e old)
    (PySem.W.AllAlike.of al) (PySem.W.Sortable.others fun b => by cases b <;> exact ⟨(nomatch ·), fun _ => (nomatch ·)⟩) hlen2 (fun b hb => ?_) fun out hl2 hout => ?_))
  · obtain ⟨x, _, rfl⟩ := List.mem_map.mp hb
    have e : X.A.in1.units = X.A.units + 1 := rfl
    have e2 : (encS (.str x)).depth = 0 := rfl
    omega
  · obtain ⟨e', he'⟩ := PyProof.Rows.sortedHeap_at (vs := vs) (out := out.toArray) hoL
    have hperm := le_perm (xs := xs.map V.str) (enc := encS)
    obtain ⟨ys, ey, hy⟩ : ∃ ys : List Str, (xs.map V.str).mergeSort (PySem.W.dataLe false encS) = ys.map V.str ∧ ∀ y ∈ ys, p y := by
      have mem : ∀ v ∈ (xs.map V.str).mergeSort (PySem.W.dataLe false encS), ∃ y, v = V.str y ∧ p y := fun v hv => by
        obtain ⟨x, hx, rfl⟩ := List.mem_map.mp (hperm.mem_iff.mp hv)
        exact ⟨x, rfl, hp x hx⟩
      generalize (xs.map V.str).mergeSort (PySem.W.dataLe false encS) = zs at mem
      induction zs with
      | nil => exact ⟨[], rfl, fun _ h => absurd h List.not_mem_nil⟩
      | cons z zs ih =>
        obtain ⟨y, rfl, hy⟩ := mem z List.mem_cons_self
        obtain ⟨ys, rfl, h2⟩ := ih fun v hv => mem v (List.mem_cons_of_mem _ hv)
        exact ⟨y :: ys, rfl, fun x hx => by
          rcases List.mem_cons.mp hx with e | e
          · rw [e]; exact hy
          · exact h2 x e⟩
    have hyl : ys.length ≤ n := by
      have e1 : (ys.map V.str).length = (xs.map V.str).length := by rw [← ey, hperm.length_eq]
      rw [List.length_map] at e1
      omega
    rw [ey] at hout
    refine wpAny_pure ⟨_, rfl, .ref s1.heap.objs.size, upd H s1.heap.objs.size (.lst (ys.map V.str)), I1.laid (t' := s1.toks) (fun b u hb => ?_) (Nat.le_refl _) ⟨by rw [List.length_map]; exact Nat.le_trans hyl (fits_of_scanBound hb), out, e', vals_each hout, he'⟩, rfl,
      q ys _ hy hyl (I1.hok.fresh (Nat.le_refl _))⟩
    have hlt : b < s1.heap.objs.size := Heap.lt_size hb
    rw [PyProof.Rows.sortedHeap_old (Nat.ne_of_lt hlt) (by rw [size_push']; exact Nat.lt_succ_of_lt hlt)]
    exact Heap.get?_push_of_some _ hb
end
end Ep

set_option Elab.async false
set_option linter.all false
set_option maxRecDepth 100000
set_option maxHeartbeats 4000000
/-! ## a != b of two instances of a class with an own __eq__ alone -/
namespace Ep
open PySem PySem.Spec PyProof.Rows L2
section
variable {prog : Program} {w : World} {A : Around} {E : Value → Shared → Prop} {s : Shared} {K : PySem.W.Frag} {x C L f : Addr} {h₀ : Heap} {m : Str → Option Value} {ox : Obj} {od : Option Obj} {b : Value}
theorem ifBound_B {M : Model} {name : Str} {id : String} {args : List Value} {Q : Option Value → Shared → Prop} (X : K.In s.heap) (I : PySem.W.InstAt s.heap x ox C od) (hs : PySem.W.findIn K (.ref C) name = some (some (.builtin id)))
    (hb : ∀ self, bindSpecial (.builtin id) self = pure (.builtin id, [self]))
    (h : wpAny M A (call (.builtin id) (.ref x :: args)) (fun v => Q (some v)) E s) : wpAny M A (callSpecialIfBound? (.ref x) name args) Q E s := by
  simp only [callSpecialIfBound?, bindSpecialIfBound?]
  refine wpAny_holding (wpAny_bind (wpAny_bind (wpAny_bind (I.type.here ((PySem.W.looks_findIn X hs).here ?_)))))
  refine wpAny_bind (wpAny_askSetting (wpAny_ite ?_))
  have fin : wpAny M A (call (.builtin id) ([.ref x] ++ args) >>= fun v => pure (some v)) Q E s := wpAny_bind (wpAny_mono h (fun v s' h' => wpAny_pure h') fun _ _ h' => h')
  simp only [hb]
  split
  · exact wpAny_bind (wpAny_pure (wpAny_pure fin))
  · exact wpAny_tryCatch (wpAny_bind (wpAny_pure (wpAny_pure fin)))
theorem obj_ne {Q : Value → Shared → Prop} (X : K.In s.heap) (I : PySem.W.InstAt s.heap x ox C od) (hm : PySem.W.mroIn K C (.type "object") = some true) (hu : A.units + 1 < cLine)
    (hs : PySem.W.findIn K (.ref C) "__eq__" = some (some (.ref f))) (hf : PySem.W.isFn K (.ref f) = true)
    (h : wpAny (model prog w) A.in1 (call (.ref f) [.ref x, b]) (fun v s' => ∃ r, v = .bool r ∧ Q (.bool (!r)) s') E s) : wpAny (model prog w) A (call (.builtin "object.__ne__") [.ref x, b]) Q E s := by
  have L0 := I.type (M := model prog w)
  have L1 := PySem.W.looks_mroIn (M := model prog w) X hm
  refine wpAny_call ?_
  refine codeAny_call_builtin (b := Builtin.«object.__ne__») PySem.F.cmp_object.ne.plain PySem.F.cmpEntry_ne ?_
  have body : wpAny (model prog w) A.in1 (Builtin.«object.__ne__» ⟨[.ref x, b], []⟩) (fun fin s' => match fin with
      | .done f => (match (Except.ok f : Result) with | .ok (.ret v) => Q v s' | .ok _ => False | .error e => E e s')
      | .again c' => c'.quiet = true ∧ codeAny (model prog w) A c' (fun r s' => match r with | .ok (.ret v) => Q v s' | .ok _ => False | .error e => E e s') s') E s := by
    unfold Builtin.«object.__ne__»
    refine wpAny_bind (wpAny_pure ?_)
    refine wpAny_bind (wpAny_cRoomFor hu ?_)
    refine wpAny_bind (PySem.W.ifBound_K X I hs hf (wpAny_mono h (fun v s' hv => ?_) fun _ _ e => e))
    obtain ⟨r, rfl, hq⟩ := hv
    exact wpAny_bind (wpAny_truthy_bool (wpAny_pure hq))
  · simp only [checkBuiltinCall, PySem.F.cmpKind_ne, PySem.F.cmpSplit_ne]
    refine wpAny_bind ?_
    unfold isInstance
    refine wpAny_bind (L0.here (L1.here ?_))
    have ha := PySem.F.cmpArgs_ne (.ref x) b
    cases hsig : Manifest.signature? "object.__ne__" with
    | none => exact wpAny_pure body
    | some sig =>
      simp only [argsOk, hsig] at ha
      have h2 : Bind.checkArgs "object.__ne__" sig ⟨[.ref x, b], []⟩ = pure () := ha
      rw [if_neg (by decide)]
      show wpAny _ A.in1 (Bind.checkArgs "object.__ne__" sig ⟨[.ref x, b], []⟩) _ _ _
      rw [h2]
      exact wpAny_pure body
theorem ne_K {Q : Value → Shared → Prop} (hu : A.units + 1 < cLine) (Fr₀ : PyProof.Rows.Fr h₀ L s.heap m) (X₀ : K.In h₀) (I : PySem.W.InstAt s.heap x ox C od) (hb : PySem.W.Looks (model prog w) s.heap (typeOf b) (.ref C))
    (hn : PySem.W.findIn K (.ref C) "__ne__" = some (some (.builtin "object.__ne__"))) (hm : PySem.W.mroIn K C (.type "object") = some true)
    (hs : PySem.W.findIn K (.ref C) "__eq__" = some (some (.ref f))) (hf : PySem.W.isFn K (.ref f) = true)
    (h : wpAny (model prog w) A.in1 (call (.ref f) [.ref x, b]) (fun v s' => ∃ r, v = .bool r ∧ Q (.bool (!r)) s') E s) : wpAny (model prog w) A (richCompare .NotEq (.ref x) b) Q E s := by
  have X := X₀.keeps Fr₀.keep
  unfold richCompare
  simp only [oneThing_ref]
  refine wpAny_holding (wpAny_bind (wpAny_cRoomFor (by omega) ?_))
  rw [cmpInfo_NotEq]
  dsimp only
  refine wpAny_bind (I.type.here (wpAny_bind (hb.here ?_)))
  rw [show (Value.ref C != Value.ref C) = false from by simp]
  simp only [Bool.false_eq_true, if_false]
  refine wpAny_bind (wpAny_pure ?_)
  simp only [Bool.false_eq_true, if_false]
  refine wpAny_bind ?_
  unfold tryCompare
  refine wpAny_bind (ifBound_B X I hn PySem.F.cmp_object.ne.bind (obj_ne X I hm hu hs hf (wpAny_mono h (fun v s' hv => ?_) fun _ _ e => e)))
  obtain ⟨r, rfl, hq⟩ := hv
  exact ⟨r, rfl, wpAny_pure (wpAny_pure hq)⟩
end
/-- a != b by the own == -/
def rNeI (C : Addr) (sp : Sp) : R2 := fun x y H Q => ∃ a b dx dy fs gs, x = .ref a ∧ y = .ref b ∧ H a = some (.ins C dx fs) ∧ H b = some (.ins C dy gs) ∧ sp [x, y] H (fun v H' => ∃ r, v = .bl r ∧ Q (.bl (!r)) H') E0
theorem op_neI {X : Cx} {C : Addr} {k j : Nat} {ps : List Str} {sp : Sp} (D : Dm X.prog X.w X.K X.mg X.base k C "__eq__" ps sp) (hn : PySem.W.findIn X.K (.ref C) "__ne__" = some (some (.builtin "object.__ne__"))) (hm : PySem.W.mroIn X.K C (.type "object") = some true)
    (hr : Room j X.A) (hj : k + 1 ≤ j := by decide) : OpR X (compareOp .NotEq) (rNeI C sp) := by
  intro pins s σ H x y v u Q I rx ry h
  obtain ⟨a, b, dx, dy, fs, gs, rfl, rfl, ha, hb, hq⟩ := h
  obtain ⟨cl, f, fd, F, M, bi⟩ := D
  cases rx
  cases ry
  obtain ⟨mA, J, _⟩ := ins_get I.hok ha
  obtain ⟨mB, J', _⟩ := ins_get I.hok hb
  obtain ⟨od, J, _⟩ := J.look
  obtain ⟨od', J', _⟩ := J'.look
  obtain ⟨m, hF⟩ := I.fr
  have hr2 : Room (k + 1) X.A := hr.mono hj
  have hr1 : Room k X.A.in1 := hr2.in1
  refine ne_K (Q := EP X pins σ Q) (by have := hr1.units0; have e : X.A.in1.units = X.A.units + 1 := rfl; omega) hF I.ok.mod.kin J J'.type hn hm M.at_ M.fn ?_
  have e0 : Env0 X.prog X.w X.K X.mg X.base X.A.in1 X.stack s H := by
    have e := I.env0
    exact ⟨e.frames, e.mod, e.bs, e.bsz, e.funs, e.frf, e.hok, e.bare⟩
  have hl := F.len _ _ _ _ hq
  have r2 : Vals [V.ref a, V.ref b] [Value.ref a, Value.ref b] := .cons rfl (.cons rfl .nil)
  refine wpAny_call (codeAny_mono (F.run X.A.in1 X.stack s H ⟨[.ref a, .ref b], []⟩ [.ref a, .ref b] [.ref a, .ref b] _ E0 hr1 e0 (by
    have := bi s [.ref a, .ref b] I.kIn (by simpa using hl)
    simpa using this) r2 hq) fun r s' hq => ?_)
  cases r with
  | error e => exact pass0 pins σ H s e s' I hq
  | ok fl =>
    cases fl with
    | ret w =>
      obtain ⟨z, H', I', rz, b, ez, qz⟩ := I.after hq
      subst ez
      cases rz
      exact ⟨b, rfl, .bl (!b), H', I', rfl, qz⟩
    | next => exact False.elim hq
    | brk => exact False.elim hq
    | cont => exact False.elim hq
/-- e.f within a block -/
theorem pe_fldK {X : Cx} {e : Expr} {f : Str} {pos : Pos} {ta : TE} (K : PySem.W.Frag) (he : PE X e ta) (hb : attributeBase e f X.env (eval e X.env) = eval e X.env) (hK : X.K = K := by rfl) : PE X (.Attribute e f pos) (tFld K ta f) := by
  subst hK
  exact pe_fld he hb
/-- a dict comprehension over what walks -/
theorem dc_it {J : It} {n : Nat} {G : Hp → Prop} {Y : Nat → Hp → V → Hp → Prop} (w : Walk J n G Y) {g : TG} {tt : TT} {tk tv : TE} {vs : List Nat} {σ : L2.St} {H1 : Hp} {D : Addr} {Qd : Hp → Prop} (Pv : Nat → Hp → Prop) (h0 : Pv 0 (upd H1 D (.dK []))) (hG : ∀ i H, i ≤ n → Pv i H → G H)
    (hs : ∀ i x H H', i < n → Pv i H → Y i H x H' → g x (wipe σ vs) H' fun σ2 H2 => wipe σ2 vs = wipe σ vs ∧ tt σ2 H2 fun b H3 =>
      if b = true then tk σ2 H3 fun y H4 => tv σ2 H4 fun z H5 => ∃ kvs k, y = kV k ∧ H5 D = some (.dK kvs) ∧ kvs.length < sizeLine ∧ Pv (i + 1) (upd H5 D (.dK (putK kvs k z))) else Pv (i + 1) H3) (hd : ∀ H, Pv n H → Qd H) :
    ∃ W : Nat → Nat → Hp → Prop, (∃ m, W 0 m (upd H1 D (.dK []))) ∧ ∀ i m H, W i m H →
      (J.stop i H ∧ Qd H) ∨ (J.go i H ∧ ∃ Nx : Hp → Prop, (∀ H', Nx H' → ∃ m', m' < m ∧ W (i + 1) m' H') ∧ ∀ x H', J.yld i H x H' → g x (wipe σ vs) H' fun σ2 H2 => wipe σ2 vs = wipe σ vs ∧ tt σ2 H2 fun b H3 =>
        if b = true then tk σ2 H3 fun y H4 => tv σ2 H4 fun z H5 => ∃ kvs k, y = kV k ∧ H5 D = some (.dK kvs) ∧ kvs.length < sizeLine ∧ Nx (upd H5 D (.dK (putK kvs k z))) else Nx H3) := by
  refine ⟨fun i m H => m = n - i ∧ i ≤ n ∧ Pv i H, ⟨n, by simp, Nat.zero_le _, h0⟩, ?_⟩
  rintro i m H ⟨rfl, hi, p⟩
  have q := hG i H hi p
  by_cases hlt : i < n
  · exact .inr ⟨w.goes i H hlt q, Pv (i + 1), fun H' p' => ⟨n - (i + 1), by omega, rfl, hlt, p'⟩, fun x H' y => hs i x H H' hlt p (w.yields i H x H' hlt q y)⟩
  · have e : i = n := by omega
    subst e
    exact .inl ⟨w.stops H q, hd H p⟩
section
variable {X : Cx}
/-- y = {..} where y is a plain local -/
theorem ps_setDc {i : Nat} {y : Str} {py : Pos} {kx vx tg iter : Expr} {ifs : List Expr} {scope : Scope} {own : List (Str × Nat)} {pos spos : Pos} {wi : TI} {g : TG} {tt : TT} {tk tv : TE} (hc : X.calm = true) (hN : X.N.Nodup) (hy : X.N[i]? = some y) (hyl : X.env.scope.names.lookup y = some .local)
    (hsw : swapsWith (.DictComp kx vx [⟨tg, iter, ifs, 0⟩] scope pos) (some (.Name y py)) spos.line X.env = pure true) (hi : PI X tg iter wi) (ok : BlkOk X.N X.env.scope scope own)
    (hg : ∀ (s : Shared) (H : Hp) (C : Addr) (cl : List (Str × Addr)) (fp : List Addr), PG (X.blk s H scope (compEnvC scope cl C X.env) fp) tg g) (ht : ∀ (s : Shared) (H : Hp) (C : Addr) (cl : List (Str × Addr)) (fp : List Addr), PTs (X.blk s H scope (compEnvC scope cl C X.env) fp) ifs tt)
    (hk : ∀ (s : Shared) (H : Hp) (C : Addr) (cl : List (Str × Addr)) (fp : List Addr), PE (X.blk s H scope (compEnvC scope cl C X.env) fp) kx tk)
    (he : ∀ (s : Shared) (H : Hp) (C : Addr) (cl : List (Str × Addr)) (fp : List Addr), PE (X.blk s H scope (compEnvC scope cl C X.env) fp) vx tv) (hs : ∀ x, foldedSetIterable iter X.env x = pure x := by intro _; rfl) :
    PS X (.Assign [.Name y py] (.DictComp kx vx [⟨tg, iter, ifs, 0⟩] scope pos) spos) (tAsg (tDc wi g tt tk tv (own.map (·.2))) (gName i)) := by
  refine ⟨fun pins s σ H D I h => ?_⟩
  rw [exec_Assign_Name_used _ _ _ _ hsw]
  refine wpAny_bind (wpAny_standAt (wpAny_bind ?_))
  show wpAny _ X.A (do let _ ← comprehension (.DictComp kx vx [⟨tg, iter, ifs, 0⟩] scope pos) scope X.env (firstIterPos [⟨tg, iter, ifs, 0⟩] pos) newDict false (eval iter X.env) (some (assign (.Name y py) X.env))) _ _ s
  have h : tDc wi g tt tk tv (own.map (·.2)) σ H (fun x H1 => gName i x σ H1 D.nx) := h
  refine wpAny_bind (thn (dc_core (Qf := fun _ s' => SP X pins D .next s') hc hN I hi ok hg ht hk he hs h fun L C s' m H' I' q hn f => ?_) fun _ s' hq => wpAny_pure (wpAny_pure hq))
  show wpAny _ _ (assign (.Name y py) X.env (.ref L)) _ _ _
  refine wpAny_assign_Name (store_ok2 (v := V.ref L) I' hN hy (.inl hyl) rfl (fun s2 I2 ⟨a, sb, ha⟩ => ?_) (.inr hyl))
  obtain ⟨f0, f1, f2, f3, f4, f5⟩ := f
  have haC : C ≠ a := by
    rcases ha with z | z
    · rw [z]; exact f1
    · exact fun e => f4 y a z e.symm
  refine ⟨m, hn.sameBut sb haC, fun h3 sb3 => ?_⟩
  exact ⟨_, H', I2.turned (t' := s2.toks) (fun b o hb e => (sb3.2 b hb).trans e) f0 f1 f3 f4 f5, q⟩
theorem swD_true {kx vx : Expr} {gs : List Comprehension} {scope : Scope} {pos py : Pos} {y : Str} {l : Nat} {env : Env} (hk : env.scope.kind = .function) (hy : env.scope.names.lookup y = some .local) (hl : (py.line == pos.line) = true)
    (ha : (scope.names.any fun (n, k) => n == y && (k == .local || k == .cell)) = false) : swapsWith (.DictComp kx vx gs scope pos) (some (.Name y py)) l env = pure true := by
  have ky : env.kindOf y = some .local := hy
  have hb : env.blockKind = .function := by unfold Env.blockKind; rw [hk]; rfl
  unfold swapsWith
  simp only [hb, ky, ha, Expr.pos, hl]
  rfl
end
end Ep

set_option Elab.async false
set_option linter.all false
set_option maxRecDepth 100000
set_option maxHeartbeats 4000000
/-! ## sums over lists; dicts told by their keys and a function -/
namespace Ep
open PySem PySem.Spec PyProof.Rows L2
/-! ### sums -/
section
variable {α β γ : Type}
def su (l : List α) (g : α → Int) : Int := (l.map g).sum
@[simp] theorem su_nil (g : α → Int) : su [] g = 0 := rfl
@[simp] theorem su_cons (a : α) (l : List α) (g : α → Int) : su (a :: l) g = g a + su l g := by
  unfold su
  rw [List.map_cons, List.sum_cons]
theorem su_app (l l' : List α) (g : α → Int) : su (l ++ l') g = su l g + su l' g := by
  induction l with
  | nil => simp
  | cons a l ih => rw [List.cons_append, su_cons, su_cons, ih]; omega
theorem su_perm {l l' : List α} (g : α → Int) (p : l.Perm l') : su l g = su l' g := by
  induction p with
  | nil => rfl
  | cons x _ ih => rw [su_cons, su_cons, ih]
  | swap x y l => simp only [su_cons]; omega
  | trans _ _ h1 h2 => exact h1.trans h2
theorem su_congr {l : List α} {g g' : α → Int} (h : ∀ a ∈ l, g a = g' a) : su l g = su l g' := by
  induction l with
  | nil => rfl
  | cons a l ih => rw [su_cons, su_cons, h a List.mem_cons_self, ih fun b hb => h b (List.mem_cons_of_mem _ hb)]
theorem su_le {l : List α} {g g' : α → Int} (h : ∀ a ∈ l, g a ≤ g' a) : su l g ≤ su l g' := by
  induction l with
  | nil => exact Int.le_refl _
  | cons a l ih =>
    have h1 := h a List.mem_cons_self
    have h2 := ih fun b hb => h b (List.mem_cons_of_mem _ hb)
    rw [su_cons, su_cons]; omega
theorem su_zero {l : List α} {g : α → Int} (h : ∀ a ∈ l, g a = 0) : su l g = 0 := by
  rw [su_congr (g' := fun _ => 0) h]
  induction l with
  | nil => rfl
  | cons a l ih => rw [su_cons, ih fun b hb => h b (List.mem_cons_of_mem _ hb)]; rfl
theorem su_nonneg {l : List α} {g : α → Int} (h : ∀ a ∈ l, 0 ≤ g a) : 0 ≤ su l g := by
  have := su_le (g := fun _ => 0) (g' := g) h
  rw [su_zero fun _ _ => rfl] at this
  exact this
theorem su_add (l : List α) (g g' : α → Int) : su l (fun a => g a + g' a) = su l g + su l g' := by
  induction l with
  | nil => rfl
  | cons a l ih => rw [su_cons, su_cons, su_cons, ih]; omega
theorem su_sub (l : List α) (g g' : α → Int) : su l (fun a => g a - g' a) = su l g - su l g' := by
  induction l with
  | nil => rfl
  | cons a l ih => rw [su_cons, su_cons, su_cons, ih]; omega
theorem su_mulr (l : List α) (g : α → Int) (k : Int) : su l (fun a => g a * k) = su l g * k := by
  induction l with
  | nil => simp
  | cons a l ih => rw [su_cons, su_cons, ih, Int.add_mul]
theorem su_const_le {l : List α} {g : α → Int} {c : Int} (h : ∀ a ∈ l, g a ≤ c) : su l g ≤ l.length * c := by
  induction l with
  | nil => simp
  | cons a l ih =>
    have h1 := h a List.mem_cons_self
    have h2 := ih fun b hb => h b (List.mem_cons_of_mem _ hb)
    rw [su_cons, List.length_cons, Int.natCast_add, Int.add_mul]
    have e : ((1 : Nat) : Int) * c = c := by simp
    omega
theorem su_map (l : List β) (k : β → α) (g : α → Int) : su (l.map k) g = su l fun b => g (k b) := by
  induction l with
  | nil => rfl
  | cons a l ih => rw [List.map_cons, su_cons, su_cons, ih]
theorem su_mem_le {l : List α} {g : α → Int} (h : ∀ a ∈ l, 0 ≤ g a) {x : α} (hx : x ∈ l) : g x ≤ su l g := by
  induction l with
  | nil => exact absurd hx List.not_mem_nil
  | cons a l ih =>
    have h2 : ∀ b ∈ l, 0 ≤ g b := fun b hb => h b (List.mem_cons_of_mem _ hb)
    have h3 := su_nonneg h2
    have h1 := h a List.mem_cons_self
    rw [su_cons]
    rcases List.mem_cons.mp hx with e | e
    · rw [e]; omega
    · have := ih h2 e; omega
theorem su_filter (l : List α) (p : α → Bool) (g : α → Int) : su (l.filter p) g = su l fun a => if p a then g a else 0 := by
  induction l with
  | nil => rfl
  | cons a l ih =>
    rw [su_cons]
    by_cases h : p a = true
    · rw [List.filter_cons_of_pos h, su_cons, ih, if_pos h]
    · rw [List.filter_cons_of_neg h, ih, if_neg h]; omega
theorem su_flat (l : List β) (k : β → List α) (g : α → Int) : su (l.flatMap k) g = su l fun b => su (k b) g := by
  induction l with
  | nil => rfl
  | cons a l ih => rw [List.flatMap_cons, su_app, su_cons, ih]
variable [DecidableEq α]
theorem su_none {l : List α} {x : α} (c : Int) (h : x ∉ l) : su l (fun y => if x = y then c else 0) = 0 :=
  su_zero fun a ha => if_neg (show ¬ x = a from fun e => h (by rw [e]; exact ha))
theorem su_single {l : List α} {x : α} (c : Int) (nd : l.Nodup) (h : x ∈ l) : su l (fun y => if x = y then c else 0) = c := by
  induction l with
  | nil => exact absurd h List.not_mem_nil
  | cons a l ih =>
    obtain ⟨n1, n2⟩ := List.nodup_cons.mp nd
    rw [su_cons]
    rcases List.mem_cons.mp h with e | e
    · rw [if_pos e, su_none c (by rw [e]; exact n1)]; omega
    · rw [if_neg (fun z => n1 (by rw [← z]; exact e)), ih n2 e]; omega
/-- sum over R of the sums of what belongs there -/
theorem su_swap {R : List α} (nd : R.Nodup) (l : List β) (key : β → α) (g : β → Int) : su R (fun x => su l fun b => if key b = x then g b else 0) = su l fun b => if key b ∈ R then g b else 0 := by
  induction l with
  | nil => exact su_zero fun _ _ => rfl
  | cons b l ih =>
    have e : su R (fun x => su (b :: l) fun b => if key b = x then g b else 0) = su R (fun x => (if key b = x then g b else 0) + su l fun b => if key b = x then g b else 0) := su_congr fun x _ => su_cons b l _
    rw [e, su_add, ih, su_cons]
    by_cases h : key b ∈ R
    · rw [if_pos h, su_single (g b) nd h]
    · rw [if_neg h, su_none (g b) h]
def up (f : α → γ) (x : α) (v : γ) : α → γ := fun y => if y = x then v else f y
@[simp] theorem up_self (f : α → γ) (x : α) (v : γ) : up f x v x = v := if_pos rfl
theorem up_ne {f : α → γ} {x y : α} {v : γ} (h : y ≠ x) : up f x v y = f y := if_neg h
theorem up_fun (f : α → γ) (g : γ → β) (x : α) (v : γ) : (fun y => g (up f x v y)) = up (fun y => g (f y)) x (g v) := by
  funext y
  unfold up
  split <;> rfl
theorem su_up {l : List α} {x : α} (f : α → Int) (v : Int) (nd : l.Nodup) (h : x ∈ l) : su l (up f x v) = su l f + (v - f x) := by
  have e : su l (up f x v) = su l (fun y => f y + (if x = y then v - f x else 0)) := su_congr fun y _ => by
    unfold up
    by_cases c : y = x
    · rw [if_pos c, if_pos c.symm, c]; omega
    · rw [if_neg c, if_neg fun z => c z.symm]; omega
  rw [e, su_add, su_single _ nd h]
theorem su_up_not {l : List α} {x : α} (f : α → Int) (v : Int) (h : x ∉ l) : su l (up f x v) = su l f := su_congr fun y hy => up_ne (show ¬ y = x from fun e => h (by rw [← e]; exact hy))
end
/-! ### dicts by keys and a function -/
section
variable {α κ : Type} [DecidableEq α] [DecidableEq κ]
def mkT (key : α → κ) (ks : List α) (f : α → V) : List (κ × V) := ks.map fun a => (key a, f a)
variable {key : α → κ} {ks : List α} {f : α → V} {x : α} {v : V}
theorem mkT_cons (a : α) : mkT key (a :: ks) f = (key a, f a) :: mkT key ks f := rfl
theorem length_mkT : (mkT key ks f).length = ks.length := List.length_map _
theorem valV_mk (inj : ∀ a b, key a = key b → a = b) (hx : x ∈ ks) : valV (mkT key ks f) (key x) = some (f x) := by
  induction ks with
  | nil => exact absurd hx List.not_mem_nil
  | cons a ks ih =>
    rw [mkT_cons]
    by_cases e : key a = key x
    · rw [valV_pos (p := (key a, f a)) e, inj _ _ e]
    · rw [valV_neg (p := (key a, f a)) e]
      exact ih ((List.mem_cons.mp hx).resolve_left fun z => e (by rw [z]))
theorem valV_mk_none (inj : ∀ a b, key a = key b → a = b) (hx : x ∉ ks) : valV (mkT key ks f) (key x) = none := by
  induction ks with
  | nil => rfl
  | cons a ks ih =>
    rw [mkT_cons, valV_neg (p := (key a, f a)) fun e => hx (by rw [inj _ _ e]; exact List.mem_cons_self)]
    exact ih fun z => hx (List.mem_cons_of_mem _ z)
theorem mkT_congr {g : α → V} (h : ∀ a ∈ ks, f a = g a) : mkT key ks f = mkT key ks g := List.map_congr_left fun a ha => by rw [h a ha]
theorem putK_mk (inj : ∀ a b, key a = key b → a = b) (hx : x ∈ ks) : putK (mkT key ks f) (key x) v = mkT key ks (up f x v) := by
  unfold putK
  rw [if_pos (by rw [valV_any, valV_mk inj hx]; rfl)]
  unfold mkT
  rw [List.map_map]
  refine List.map_congr_left fun a _ => ?_
  show (if key a = key x then (key a, v) else (key a, f a)) = (key a, up f x v a)
  by_cases e : a = x
  · rw [if_pos (by rw [e]), e, up_self]
  · rw [if_neg fun z => e (inj _ _ z), up_ne e]
theorem putK_mk_new (inj : ∀ a b, key a = key b → a = b) (hx : x ∉ ks) : putK (mkT key ks f) (key x) v = mkT key (ks ++ [x]) (up f x v) := by
  rw [putK_new v (valV_mk_none inj hx)]
  unfold mkT
  rw [List.map_append]
  congr 1
  · exact List.map_congr_left fun a ha => by rw [up_ne (show ¬ a = x from fun z => hx (by rw [← z]; exact ha))]
  · show [(key x, v)] = [(key x, up f x v x)]
    rw [up_self]
end
def kS (x : Str) : Key := Sum.inr x
def kP (p : Str × Str) : List Key := [Sum.inr p.1, Sum.inr p.2]
theorem kS_inj (a b : Str) (h : kS a = kS b) : a = b := Sum.inr.inj h
theorem kP_inj (a b : Str × Str) (h : kP a = kP b) : a = b := by
  unfold kP at h
  injection h with h1 h2
  injection h2 with h2 h3
  exact Prod.ext (Sum.inr.inj h1) (Sum.inr.inj h2)
/-- a dict of names -/
def dN (ns : List Str) (f : Str → V) : HO := .dK (mkT kS ns f)
def dI (ns : List Str) (t : Str → Int) : HO := dN ns fun x => .int (t x)
/-- a dict of pairs of names, with numbers -/
def dP (ps : List (Str × Str)) (f : Str × Str → Int) : HO := .dT (mkT kP ps fun p => .int (f p))
/-- a pair of names as a tuple at t -/
def TwoAt (H : Hp) (t : Addr) (p : Str × Str) : Prop := H t = some (.tup [.str p.1, .str p.2])
section
variable {H : Hp} {d t : Addr} {ns : List Str} {f : Str → V} {g : Str → Int} {x : Str} {v : V} {ps : List (Str × Str)} {T : Str × Str → Int} {p : Str × Str} {o : Obj} {n : Int}
theorem dN_get (h : H d = some (dN ns f)) (hx : x ∈ ns) : DGet H d (.str x) (some (f x)) := by
  have q := DGet.k (k := kS x) h
  rw [valV_mk kS_inj hx] at q
  exact q
theorem dN_no (h : H d = some (dN ns f)) (hx : x ∉ ns) : DGet H d (.str x) none := by
  have q := DGet.k (k := kS x) h
  rw [valV_mk_none kS_inj hx] at q
  exact q
/-- locked -/
theorem dN_getZ (h : H d = some (.frz o (dN ns f))) (hx : x ∈ ns) : DGet H d (.str x) (some (f x)) :=
  .inl ⟨_, kS x, .inr ⟨_, h⟩, rfl, (valV_mk kS_inj hx).symm⟩
theorem dN_put (h : H d = some (dN ns f)) (hx : x ∈ ns) (hl : ns.length < sizeLine) : DPut H d (.str x) v (upd H d (dN ns (up f x v))) := by
  have q := DPut.k (k := kS x) (v := v) h (by rw [length_mkT]; exact hl)
  rw [putK_mk kS_inj hx] at q
  exact q
theorem dN_new (h : H d = some (dN ns f)) (hx : x ∉ ns) (hl : ns.length < sizeLine) : DPut H d (.str x) v (upd H d (dN (ns ++ [x]) (up f x v))) := by
  have q := DPut.k (k := kS x) (v := v) h (by rw [length_mkT]; exact hl)
  rw [putK_mk_new kS_inj hx] at q
  exact q
theorem dI_up (ns : List Str) (g : Str → Int) (x : Str) (n : Int) : dN ns (up (fun y => .int (g y)) x (.int n)) = dI ns (up g x n) := by
  unfold dI
  rw [up_fun]
theorem dI_put (h : H d = some (dI ns g)) (hx : x ∈ ns) (hl : ns.length < sizeLine) : DPut H d (.str x) (.int n) (upd H d (dI ns (up g x n))) := by
  rw [← dI_up]
  exact dN_put h hx hl
theorem dI_new (h : H d = some (dI ns g)) (hx : x ∉ ns) (hl : ns.length < sizeLine) : DPut H d (.str x) (.int n) (upd H d (dI (ns ++ [x]) (up g x n))) := by
  rw [← dI_up]
  exact dN_new h hx hl
theorem dI_congr {g' : Str → Int} (h : ∀ x ∈ ns, g x = g' x) : dI ns g = dI ns g' := by
  unfold dI dN
  rw [mkT_congr fun a ha => by rw [h a ha]]
theorem dN_congr {f' : Str → V} (h : ∀ x ∈ ns, f x = f' x) : dN ns f = dN ns f' := by
  unfold dN
  rw [mkT_congr h]
theorem dP_get (h : H d = some (dP ps T)) (ht : TwoAt H t p) (hx : p ∈ ps) : DGet H d (.ref t) (some (.int (T p))) := by
  have q := DGet.t (k := kP p) h ht
  rw [valV_mk kP_inj hx] at q
  exact q
theorem dP_no (h : H d = some (dP ps T)) (ht : TwoAt H t p) (hx : p ∉ ps) : DGet H d (.ref t) none := by
  have q := DGet.t (k := kP p) h ht
  rw [valV_mk_none kP_inj hx] at q
  exact q
theorem dP_getZ (h : H d = some (.frz o (dP ps T))) (ht : TwoAt H t p) (hx : p ∈ ps) : DGet H d (.ref t) (some (.int (T p))) :=
  .inr ⟨mkT kP ps fun p => .int (T p), kP p, t, .inr ⟨_, h⟩, rfl, ht, (valV_mk (f := fun p => V.int (T p)) kP_inj hx).symm⟩
theorem dP_up (ps : List (Str × Str)) (T : Str × Str → Int) (p : Str × Str) (n : Int) : (.dT (mkT kP ps (up (fun y => .int (T y)) p (.int n))) : HO) = dP ps (up T p n) := by
  unfold dP
  rw [up_fun]
theorem dP_put (h : H d = some (dP ps T)) (ht : TwoAt H t p) (hx : p ∈ ps) (hl : ps.length < sizeLine) : DPut H d (.ref t) (.int n) (upd H d (dP ps (up T p n))) := by
  have q := DPut.t (k := kP p) (v := .int n) h ht (by rw [length_mkT]; exact hl)
  rw [putK_mk kP_inj hx, dP_up] at q
  exact q
theorem dP_new (h : H d = some (dP ps T)) (ht : TwoAt H t p) (hx : p ∉ ps) (hl : ps.length < sizeLine) : DPut H d (.ref t) (.int n) (upd H d (dP (ps ++ [p]) (up T p n))) := by
  have q := DPut.t (k := kP p) (v := .int n) h ht (by rw [length_mkT]; exact hl)
  rw [putK_mk_new kP_inj hx, dP_up] at q
  exact q
theorem dP_congr {T' : Str × Str → Int} (h : ∀ x ∈ ps, T x = T' x) : dP ps T = dP ps T' := by
  unfold dP
  rw [mkT_congr fun a ha => by rw [h a ha]]
end
end Ep

set_option Elab.async false
set_option linter.all false
set_option maxRecDepth 100000
set_option maxHeartbeats 4000000
/-! ## the small defs -/
namespace Ep
open PySem PySem.Spec PyProof.Rows L2
theorem hu_of {k : Nat} {A : Around} (hr : Room k A) : A.units + 1 < cLine := by
  have := hr.units
  omega
theorem bl_t {p : Prop} [Decidable p] (h : p) : V.bl (decide p) = V.bl true := by rw [decide_eq_true h]
theorem bl_f {p : Prop} [Decidable p] (h : ¬ p) : V.bl (decide p) = V.bl false := by rw [decide_eq_false h]
theorem Same.wrN {H H' : Hp} {p : Addr} {o : HO} (x : Same H H') (n : H p = none) : Same H (upd H' p o) := fun b u e => by rw [upd_ne (ne_of_none e n)]; exact x b u e
theorem Same.rfl {H : Hp} : Same H H := fun _ _ h => h
theorem Same.tr {H H1 H2 : Hp} (x : Same H H1) (y : Same H1 H2) : Same H H2 := fun b o h => y b o (x b o h)
def lets : Str := "abcdefghijklmnopqrstuvwxyz"
structure NameOk (x : Str) : Prop where
  lo : 1 ≤ x.length
  hi : x.length ≤ 8
  ok : ∀ c ∈ x.cps.toList, c ∈ lets.cps.toList
def p_is_integer : Sp := fun vs H Q _ => ∃ i, vs = [.int i] ∧ Q (.bl true) H
def p_is_name : Sp := fun vs H Q _ => ∃ x, vs = [.str x] ∧ NameOk x ∧ ∀ H', Same H H' → Q (.bl true) H'
def p_is_amount : Sp := fun vs H Q _ => ∃ i : Int, vs = [.int i] ∧ 0 ≤ i ∧ i ≤ 10 ^ 30 ∧ Q (.bl true) H
def p_is_count : Sp := fun vs H Q _ => ∃ i : Int, vs = [.int i] ∧ 1 ≤ i ∧ i ≤ 10 ^ 24 ∧ Q (.bl true) H
abbrev Run : Type := Str × Str × Int
def RunAt (H : Hp) (t : Addr) (r : Run) : Prop := H t = some (.tup [.str r.1, .str r.2.1, .int r.2.2])
structure RunOk (r : Run) : Prop where
  n1 : NameOk r.1
  n2 : NameOk r.2.1
  ne : r.1 ≠ r.2.1
  lo : 1 ≤ r.2.2
  hi : r.2.2 ≤ 10 ^ 24
def p_is_run : Sp := fun vs H Q _ => ∃ t r, vs = [.ref t] ∧ RunAt H t r ∧ RunOk r ∧ ∀ H', Same H H' → Q (.bl true) H'
def mn (a b : Str) : Str := if b.cps.toList < a.cps.toList then b else a
def mx (a b : Str) : Str := if a.cps.toList < b.cps.toList then b else a
def p_pair_of : Sp := fun vs H Q _ => ∃ a b, vs = [.str a, .str b] ∧ ∀ p, H p = none → Q (.ref p) (upd H p (.tup [.str (mn a b), .str (mx a b)]))
abbrev s_is_integer : Stmt := top 15
abbrev N_is_integer : List Str := ["thing"]
theorem sc_is_integer : FnScope N_is_integer ["thing"] (defScope s_is_integer) := ⟨rfl, rfl, rfl, by decide +kernel, rfl, by decide +kernel, by decide +kernel⟩
section
variable {P : Program} {w : World} {K : PySem.W.Frag} {mg : Str → Option Value} {base : Heap} {f : Addr} {fd : FuncData}
theorem ok_is_integer (F : FnP K "is_integer" "is_integer" s_is_integer f fd) (T : Txt K mg) : FnOk P w K mg base CX0 1 f fd ["thing"] p_is_integer := by
  refine ok0 F sc_is_integer (fun _ _ _ _ h => by obtain ⟨i, rfl, _⟩ := h; rfl) fun cdv A outer s H vs Q E hr h => ?_
  obtain ⟨i, rfl, q⟩ := h
  refine ⟨_, (pss_one (ps_ret (pe_and (pe_callB call_isi (by rfl) T.isinstance bt_isinstance (pa_cons (pv 0) (pa_cons (pe_bltn (v := .ty "int") (by rfl) T.int bt_int rfl) pa_nil))) (pe_one (pe_not (pe_callB call_isi (by rfl) T.isinstance bt_isinstance (pa_cons (pv 0) (pa_cons (pe_bltn (v := .ty "bool") (by rfl) T.bool bt_bool rfl) pa_nil)))))))), ?_⟩
  refine ⟨.int i, rfl, .int i, .ty "int", .type "int", .type "int", true, rfl, .ty _, .base (.int _), kit_ty (by decide +kernel), true, rfl, ?_⟩
  exact ⟨.int i, rfl, .int i, .ty "bool", .type "int", .type "bool", false, rfl, .ty _, .base (.int _), kit_ty (by decide +kernel), false, rfl, q⟩
abbrev s_is_name : Stmt := top 16
abbrev N_is_name : List Str := ["thing", "letter"]
theorem sc_is_name : FnScope N_is_name ["thing"] (defScope s_is_name) := ⟨rfl, rfl, rfl, by decide +kernel, rfl, by decide +kernel, by decide +kernel⟩
theorem ok_is_name (F : FnP K "is_name" "is_name" s_is_name f fd) (T : Txt K mg) : FnOk P w K mg base CX0 1 f fd ["thing"] p_is_name := by
  refine ok0 F sc_is_name (fun _ _ _ _ h => by obtain ⟨i, rfl, _⟩ := h; rfl) fun cdv A outer s H vs Q E hr h => ?_
  obtain ⟨x, rfl, nx, q⟩ := h
  obtain ⟨tL, gLETTERS⟩ := T.LETTERS
  obtain ⟨tN, gLONGEST_NAME⟩ := T.LONGEST_NAME
  refine ⟨_, (pss_cons (ps_if (PW.pt (pw_or (pt_not (pt_val (pe_callB call_isi (by rfl) T.isinstance bt_isinstance (pa_cons (pv 0) (pa_cons (pe_bltn (v := .ty "str") (by rfl) T.str bt_str rfl) pa_nil))))) (pw_or1 (pt_not (pt_chain op_le op_le pe_int (pe_callB call_len_str (by rfl) T.len bt_len (pa_cons (pv 0) pa_nil)) (pe_glob (v := .int 8) (by rfl) gLONGEST_NAME ⟨_, rfl⟩))))))
      (pss_one (ps_ret pe_bl))
      pss_nil)
    (pss_one (ps_ret (pe_callB (cr_all rfl) (by rfl) T.all bt_all (pa_cons (pe_lc (own := [("letter", 1)]) (g := gName 1) (tt := tYes) rfl sc_is_name.nd (pi_str (pv 0)) (blkOk_by (own := [("letter", 1)]) (N := N_is_name) (sc := defScope s_is_name) (by decide +kernel)) (fun _ _ _ _ _ => (pg_name (i := 1) sc_is_name.nd rfl (Or.inl rfl))) (fun _ _ _ _ _ => pts_nil) (fun _ _ _ _ _ => (pe_cmpR op_in_sign (pv 1) (pe_glob (v := .str lets) (by rfl) gLETTERS ⟨_, rfl⟩) (by rfl)))) pa_nil))))), ?_⟩
  refine ⟨.str x, rfl, .str x, .ty "str", .type "str", .type "str", true, rfl, .ty _, .base (.str _), kit_ty (by decide +kernel), true, rfl, ?_⟩
  have hl : x.length ≤ sizeLine := Nat.le_trans nx.hi (by decide)
  refine ⟨.str x, rfl, x, rfl, hl, 1, x.length, rfl, rfl, true, ?_, ?_⟩
  · exact bl_t (by have := nx.lo; omega)
  refine ⟨x.length, 8, rfl, rfl, true, ?_, ?_⟩
  · exact bl_t (by have := nx.hi; omega)
  refine ⟨.str x, rfl, x, rfl, fun D nD => ?_⟩
  refine lc_it walk_str (fun i H' => H' D = some (.lst (List.replicate i (.bl true))) ∧ Same H H') ⟨upd_same, Same.new (fun _ _ h => h) nD⟩ (fun _ _ _ _ => trivial) ?_ ?_
  · rintro i v H1 H2 hi ⟨h1, h2⟩ ⟨rfl, c, hc, rfl⟩
    refine ⟨rfl, .str ⟨#[c]⟩, rfl, c, lets, rfl, rfl, _, h1, ?_, ?_⟩
    · rw [List.length_replicate]
      have : x.cps.size ≤ 8 := nx.hi
      have : 8 < sizeLine := by decide
      omega
    · rw [decide_eq_true (nx.ok c (Array.mem_toList_iff.mpr (Array.mem_of_getElem? hc)))]
      exact ⟨by rw [upd_same, List.replicate_succ'], Same.wrN h2 nD⟩
  · rintro H1 ⟨h1, h2⟩
    refine ⟨D, List.replicate x.cps.size true, rfl, SqL.of (by rw [h1, List.map_replicate]), ?_⟩
    rw [show (List.replicate x.cps.size true).all id = true by simp]
    exact q _ h2
abbrev s_is_amount : Stmt := top 17
abbrev N_is_amount : List Str := ["thing"]
theorem sc_is_amount : FnScope N_is_amount ["thing"] (defScope s_is_amount) := ⟨rfl, rfl, rfl, by decide +kernel, rfl, by decide +kernel, by decide +kernel⟩
theorem ok_is_amount (F : FnP K "is_amount" "is_amount" s_is_amount f fd) (T : Txt K mg) (d_is_integer : Df P w K mg base CX0 1 "is_integer" ["thing"] p_is_integer) : FnOk P w K mg base CX0 2 f fd ["thing"] p_is_amount := by
  refine ok0 F sc_is_amount (fun _ _ _ _ h => by obtain ⟨i, rfl, _⟩ := h; rfl) fun cdv A outer s H vs Q E hr h => ?_
  obtain ⟨i, rfl, h0, h1, q⟩ := h
  obtain ⟨tL, gMOST_TICKETS⟩ := T.MOST_TICKETS
  refine ⟨_, (pss_one (ps_ret (pe_and (pe_df d_is_integer hr (pa_cons (pv 0) pa_nil)) (pe_one (pe_chain op_le op_le pe_int (pv 0) (pe_glob (v := .int (10 ^ 30)) (by rfl) gMOST_TICKETS ⟨_, rfl⟩)))))), ?_⟩
  refine ⟨.int i, rfl, i, rfl, true, rfl, .int i, rfl, 0, i, rfl, rfl, true, bl_t h0, i, 10 ^ 30, rfl, rfl, ?_⟩
  show Q (.bl (decide (i ≤ 10 ^ 30))) H
  rw [bl_t h1]
  exact q
abbrev s_is_count : Stmt := top 18
abbrev N_is_count : List Str := ["thing"]
theorem sc_is_count : FnScope N_is_count ["thing"] (defScope s_is_count) := ⟨rfl, rfl, rfl, by decide +kernel, rfl, by decide +kernel, by decide +kernel⟩
theorem ok_is_count (F : FnP K "is_count" "is_count" s_is_count f fd) (T : Txt K mg) (d_is_integer : Df P w K mg base CX0 1 "is_integer" ["thing"] p_is_integer) : FnOk P w K mg base CX0 2 f fd ["thing"] p_is_count := by
  refine ok0 F sc_is_count (fun _ _ _ _ h => by obtain ⟨i, rfl, _⟩ := h; rfl) fun cdv A outer s H vs Q E hr h => ?_
  obtain ⟨i, rfl, h0, h1, q⟩ := h
  obtain ⟨tL, gMOST_TIMES⟩ := T.MOST_TIMES
  refine ⟨_, (pss_one (ps_ret (pe_and (pe_df d_is_integer hr (pa_cons (pv 0) pa_nil)) (pe_one (pe_chain op_le op_le pe_int (pv 0) (pe_glob (v := .int (10 ^ 24)) (by rfl) gMOST_TIMES ⟨_, rfl⟩)))))), ?_⟩
  refine ⟨.int i, rfl, i, rfl, true, rfl, .int i, rfl, 1, i, rfl, rfl, true, bl_t h0, i, 10 ^ 24, rfl, rfl, ?_⟩
  show Q (.bl (decide (i ≤ 10 ^ 24))) H
  rw [bl_t h1]
  exact q
abbrev s_is_run : Stmt := top 19
abbrev N_is_run : List Str := ["thing"]
theorem sc_is_run : FnScope N_is_run ["thing"] (defScope s_is_run) := ⟨rfl, rfl, rfl, by decide +kernel, rfl, by decide +kernel, by decide +kernel⟩
theorem ok_is_run (F : FnP K "is_run" "is_run" s_is_run f fd) (T : Txt K mg) (d_is_name : Df P w K mg base CX0 1 "is_name" ["thing"] p_is_name) (d_is_count : Df P w K mg base CX0 2 "is_count" ["thing"] p_is_count) : FnOk P w K mg base CX0 3 f fd ["thing"] p_is_run := by
  refine ok0 F sc_is_run (fun _ _ _ _ h => by obtain ⟨i, r, rfl, _⟩ := h; rfl) fun cdv A outer s H vs Q E hr h => ?_
  obtain ⟨t, ⟨a, b, m⟩, rfl, ht, ok, q⟩ := h
  have sq : ∀ {H'}, Same H H' → SqT K H' t [.str a, .str b, .int m] := fun k => SqT.of (k _ _ ht)
  refine ⟨_, (pss_cons (ps_if (PW.pt (pw_or (pt_not (pt_val (pe_callB call_isi (by rfl) T.isinstance bt_isinstance (pa_cons (pv 0) (pa_cons (pe_bltn (v := .ty "tuple") (by rfl) T.tuple bt_tuple rfl) pa_nil))))) (pw_or (pt_cmpR op_ne (pe_callB call_len_seq (by rfl) T.len bt_len (pa_cons (pv 0) pa_nil)) pe_int (nomark _)) (pw_or (pt_not (pt_val (pe_df d_is_name hr (pa_cons (pe_ix ix_tup (pv 0) pe_int (fun _ _ => rfl)) pa_nil)))) (pw_or1 (pt_not (pt_val (pe_df d_is_name hr (pa_cons (pe_ix ix_tup (pv 0) pe_int (fun _ _ => rfl)) pa_nil)))))))))
      (pss_one (ps_ret pe_bl))
      pss_nil)
    (pss_one (ps_ret (pe_and (pe_cmpR op_ne (pe_ix ix_tup (pv 0) pe_int (fun _ _ => rfl)) (pe_ix ix_tup (pv 0) pe_int (fun _ _ => rfl)) (nomark _)) (pe_one (pe_df d_is_count hr (pa_cons (pe_ix ix_tup (pv 0) pe_int (fun _ _ => rfl)) pa_nil))))))), ?_⟩
  refine ⟨.ref t, rfl, .ref t, .ty "tuple", .type "tuple", .type "tuple", true, rfl, .ty _, .base (.tup ht), kit_ty (by decide +kernel), true, rfl, ?_⟩
  refine ⟨.ref t, rfl, t, _, rfl, .inr (sq Same.rfl), rfl, false, rfl, ?_⟩
  refine ⟨.ref t, rfl, t, _, 0, _, rfl, rfl, sq Same.rfl, rfl, a, rfl, ok.n1, fun H1 k1 => ⟨true, rfl, ?_⟩⟩
  refine ⟨.ref t, rfl, t, _, 1, _, rfl, rfl, sq k1, rfl, b, rfl, ok.n2, fun H2 k2 => ⟨true, rfl, ?_⟩⟩
  have k := Same.tr k1 k2
  refine ⟨.ref t, rfl, t, _, 0, _, rfl, rfl, sq k, rfl, .ref t, rfl, t, _, 1, _, rfl, rfl, sq k, rfl, rfl, true, ?_, ?_⟩
  · rw [decide_eq_false (fun z => ok.ne (V.str.inj z))]; rfl
  exact ⟨.ref t, rfl, t, _, 2, _, rfl, rfl, sq k, rfl, m, rfl, ok.lo, ok.hi, q _ k⟩
abbrev s_pair_of : Stmt := top 22
abbrev N_pair_of : List Str := ["one", "other"]
theorem sc_pair_of : FnScope N_pair_of ["one", "other"] (defScope s_pair_of) := ⟨rfl, rfl, rfl, by decide +kernel, rfl, by decide +kernel, by decide +kernel⟩
theorem ok_pair_of (F : FnP K "pair_of" "pair_of" s_pair_of f fd) (T : Txt K mg) : FnOk P w K mg base CX0 1 f fd ["one", "other"] p_pair_of := by
  refine ok0 F sc_pair_of (fun _ _ _ _ h => by obtain ⟨i, r, rfl, _⟩ := h; rfl) fun cdv A outer s H vs Q E hr h => ?_
  obtain ⟨a, b, rfl, q⟩ := h
  refine ⟨_, (pss_one (ps_ret (pe_tup (pa_cons (pe_callB (call_min2S rfl) (by rfl) T.min bt_min (pa_cons (pv 0) (pa_cons (pv 1) pa_nil))) (pa_cons (pe_callB (call_max2S rfl) (by rfl) T.max bt_max (pa_cons (pv 0) (pa_cons (pv 1) pa_nil))) pa_nil))))), ?_⟩
  exact ⟨.str a, rfl, .str b, rfl, a, b, rfl, .str a, rfl, .str b, rfl, a, b, rfl, by show 2 ≤ sizeLine; decide, q⟩
end
end Ep

set_option Elab.async false
set_option linter.all false
set_option maxRecDepth 100000
set_option maxHeartbeats 4000000
/-! ## runs, tables of runs -/
namespace Ep
open PySem PySem.Spec PyProof.Rows L2
/-! ### order of names -/
theorem str_ext {a b : Str} (h : a.cps.toList = b.cps.toList) : a = b := by
  cases a; cases b
  simp only [Array.toList_inj] at h
  rw [h]
theorem lt_asym {a b : Str} (h : a.cps.toList < b.cps.toList) : ¬ b.cps.toList < a.cps.toList := List.lt_asymm h
theorem lt_tri {a b : Str} (h : a ≠ b) : a.cps.toList < b.cps.toList ∨ b.cps.toList < a.cps.toList := by
  by_cases h1 : a.cps.toList < b.cps.toList
  · exact .inl h1
  · by_cases h2 : b.cps.toList < a.cps.toList
    · exact .inr h2
    · exact absurd (str_ext (List.le_antisymm (List.not_lt.mp h2) (List.not_lt.mp h1))) h
def pr (a b : Str) : Str × Str := (mn a b, mx a b)
theorem pr_cases {a b : Str} (h : a ≠ b) : (a.cps.toList < b.cps.toList ∧ pr a b = (a, b)) ∨ (b.cps.toList < a.cps.toList ∧ pr a b = (b, a)) := by
  unfold pr mn mx
  rcases lt_tri h with q | q
  · exact .inl ⟨q, by rw [if_neg (lt_asym q), if_pos q]⟩
  · exact .inr ⟨q, by rw [if_pos q, if_neg (lt_asym q)]⟩
theorem pr_comm {a b : Str} (h : a ≠ b) : pr a b = pr b a := by
  rcases pr_cases h with ⟨q, e⟩ | ⟨q, e⟩ <;> rcases pr_cases (fun z => h z.symm) with ⟨q', e'⟩ | ⟨q', e'⟩ <;>
    first | exact absurd q' (lt_asym q) | rw [e, e']
theorem pr_mem {a b : Str} (h : a ≠ b) : (pr a b = (a, b) ∨ pr a b = (b, a)) := (pr_cases h).imp And.right And.right
theorem pr_lt {a b : Str} (h : a ≠ b) : (pr a b).1.cps.toList < (pr a b).2.cps.toList := by
  rcases pr_cases h with ⟨q, e⟩ | ⟨q, e⟩ <;> rw [e] <;> exact q
/-! ### tables -/
def kPr (r : Run) : Str × Str := pr r.1 r.2.1
def kRn (r : Run) : Str × Str := (r.1, r.2.1)
section
variable (key : Run → Str × Str)
def tabK (rs : List Run) : List (Str × Str) := rs.foldl (fun acc r => if key r ∈ acc then acc else acc ++ [key r]) []
def totK (rs : List Run) (p : Str × Str) : Int := su rs fun r => if key r = p then r.2.2 else 0
variable {key} {rs : List Run} {r : Run} {p : Str × Str}
theorem tabK_snoc : tabK key (rs ++ [r]) = if key r ∈ tabK key rs then tabK key rs else tabK key rs ++ [key r] := by
  unfold tabK
  rw [List.foldl_append]
  rfl
theorem snoc_ind {α : Type} {P : List α → Prop} (h0 : P []) (h1 : ∀ l a, P l → P (l ++ [a])) : ∀ l, P l := fun l => by
  have : ∀ l : List α, P l.reverse := fun l => by
    induction l with
    | nil => exact h0
    | cons a l ih => rw [List.reverse_cons]; exact h1 _ _ ih
  rw [← List.reverse_reverse l]
  exact this _
theorem mem_tabK : ∀ rs : List Run, p ∈ tabK key rs ↔ ∃ r ∈ rs, key r = p := by
  refine snoc_ind ?_ fun l a ih => ?_
  · exact ⟨fun h => absurd h List.not_mem_nil, fun ⟨r, h, _⟩ => absurd h List.not_mem_nil⟩
  · rw [tabK_snoc]
    have e : (∃ r ∈ l ++ [a], key r = p) ↔ (∃ r ∈ l, key r = p) ∨ key a = p := by
      constructor
      · rintro ⟨r, h, q⟩
        rcases List.mem_append.mp h with h | h
        · exact .inl ⟨r, h, q⟩
        · rw [List.mem_singleton.mp h] at q; exact .inr q
      · rintro (⟨r, h, q⟩ | q)
        · exact ⟨r, List.mem_append_left _ h, q⟩
        · exact ⟨a, List.mem_append_right _ (List.mem_singleton.mpr rfl), q⟩
    rw [e, ← ih]
    by_cases h : key a ∈ tabK key l
    · rw [if_pos h]
      exact ⟨.inl, fun z => z.elim id fun q => q ▸ h⟩
    · rw [if_neg h, List.mem_append, List.mem_singleton]
      exact ⟨fun z => z.imp id Eq.symm, fun z => z.imp id Eq.symm⟩
theorem nodup_tabK : ∀ rs : List Run, (tabK key rs).Nodup := by
  refine snoc_ind List.nodup_nil fun l a ih => ?_
  rw [tabK_snoc]
  by_cases h : key a ∈ tabK key l
  · rw [if_pos h]; exact ih
  · rw [if_neg h]
    exact List.nodup_append.mpr ⟨ih, List.nodup_cons.mpr ⟨List.not_mem_nil, List.nodup_nil⟩, fun x hx y hy e => h (by rw [← List.mem_singleton.mp hy, ← e]; exact hx)⟩
theorem length_tabK : ∀ rs : List Run, (tabK key rs).length ≤ rs.length := by
  refine snoc_ind (Nat.le_refl _) fun l a ih => ?_
  rw [tabK_snoc, List.length_append]
  by_cases h : key a ∈ tabK key l
  · rw [if_pos h]; exact Nat.le_trans ih (Nat.le_add_right _ _)
  · rw [if_neg h, List.length_append]; exact Nat.add_le_add_right ih _
theorem totK_no (h : p ∉ tabK key rs) : totK key rs p = 0 := su_zero fun r hr => if_neg fun e => h ((mem_tabK rs).mpr ⟨r, hr, e⟩)
theorem totK_snoc : totK key (rs ++ [r]) = up (totK key rs) (key r) (totK key rs (key r) + r.2.2) := by
  funext y
  unfold totK up
  rw [su_app, su_cons, su_nil]
  by_cases e : y = key r
  · rw [if_pos e, if_pos e.symm, e]; omega
  · rw [if_neg e, if_neg fun z => e z.symm]; show _ = su rs _; omega
theorem totK_nonneg (h : ∀ r ∈ rs, 0 ≤ r.2.2) : 0 ≤ totK key rs p := su_nonneg fun r hr => by
  split
  · exact h r hr
  · exact Int.le_refl _
theorem totK_take_le (h : ∀ r ∈ rs, 0 ≤ r.2.2) (i : Nat) : totK key (rs.take i) p ≤ totK key rs p := by
  have e : totK key rs p = totK key (rs.take i) p + totK key (rs.drop i) p := by
    unfold totK
    rw [← su_app, List.take_append_drop]
  have := totK_nonneg (key := key) (p := p) (rs := rs.drop i) fun r hr => h r (List.mem_of_mem_drop hr)
  omega
theorem totK_pos (h : ∀ r ∈ rs, 1 ≤ r.2.2) (hp : p ∈ tabK key rs) : 1 ≤ totK key rs p := by
  obtain ⟨r, hr, e⟩ := (mem_tabK rs).mp hp
  have q := su_mem_le (l := rs) (g := fun r => if key r = p then r.2.2 else 0) (fun r hr => by
    split
    · have := h r hr; omega
    · exact Int.le_refl _) hr
  have h1 := h r hr
  have e2 : (if key r = p then r.2.2 else 0) = r.2.2 := if_pos e
  have q2 : (if key r = p then r.2.2 else 0) ≤ totK key rs p := q
  omega
theorem take_snoc {α : Type} {l : List α} {i : Nat} {a : α} (h : l[i]? = some a) : l.take (i + 1) = l.take i ++ [a] := by
  rw [List.take_add_one, h]
  rfl
end
/-! ### runs in the heap -/
def RunsAt (H : Hp) (l : Addr) (rs : List Run) : Prop := ∃ ts : List Addr, H l = some (.lst (ts.map V.ref)) ∧ Paired (RunAt H) ts rs
theorem RunsAt.same {H H' : Hp} {l : Addr} {rs : List Run} (k : Same H H') (h : RunsAt H l rs) : RunsAt H' l rs :=
  let ⟨ts, h1, h2⟩ := h
  ⟨ts, k _ _ h1, Paired.mapP h2 fun _ _ z => k _ _ z⟩
theorem RunsAt.kp {H H' : Hp} {S : List Addr} {l : Addr} {rs : List Run} (k : Kp S H H') (hS : ∀ b ∈ S, ∀ xs, H b ≠ some (.tup xs)) (hl : l ∉ S) (h : RunsAt H l rs) : RunsAt H' l rs :=
  let ⟨ts, h1, h2⟩ := h
  ⟨ts, k _ _ h1 hl, Paired.mapP h2 fun t r z => k _ _ z fun m => hS t m _ z⟩
theorem paired_get2 {α β : Type} {G : α → β → Prop} {l₁ : List α} {l₂ : List β} (h : Paired G l₁ l₂) {i : Nat} {a : α} {b : β} (ha : l₁[i]? = some a) (hb : l₂[i]? = some b) : G a b := by
  obtain ⟨b', e, g⟩ := L2.paired_get h ha
  rw [hb] at e
  cases e
  exact g
/-- one more tuple at the end of a list of tuples -/
theorem grow {α : Type} {c : α → List V} {H : Hp} {D u : Addr} {us : List Addr} {xs : List α} (x : α) (hD : H D = some (.lst (us.map V.ref))) (hus : Paired (fun u x => H u = some (.tup (c x))) us xs) (nu : H u = none) :
    upd H u (.tup (c x)) D = some (.lst (us.map V.ref)) ∧ upd (upd H u (.tup (c x))) D (.lst (us.map V.ref ++ [.ref u])) D = some (.lst ((us ++ [u]).map V.ref)) ∧
      Paired (fun v x' => upd (upd H u (.tup (c x))) D (.lst (us.map V.ref ++ [.ref u])) v = some (.tup (c x'))) (us ++ [u]) (xs ++ [x]) := by
  have nuD : u ≠ D := fun z => by rw [z, hD] at nu; cases nu
  refine ⟨new_get nu hD, by rw [upd_same, List.map_append]; rfl, Paired.snoc (Paired.mapP hus fun t r z => ?_) ?_⟩
  · rw [upd_ne (fun e => by rw [e, hD] at z; cases z)]
    exact new_get nu z
  · rw [upd_ne nuD, upd_same]
theorem map_ref_get {ts : List Addr} {i : Nat} {v : V} (h : (ts.map V.ref)[i]? = some v) : ∃ t, ts[i]? = some t ∧ v = .ref t := by
  rw [List.getElem?_map] at h
  cases e : ts[i]? with
  | none => rw [e] at h; cases h
  | some t => rw [e] at h; exact ⟨t, rfl, (Option.some.inj h).symm⟩
theorem map_str_get {xs : List Str} {i : Nat} {v : V} (h : (xs.map V.str)[i]? = some v) : ∃ t, xs[i]? = some t ∧ v = .str t := by
  rw [List.getElem?_map] at h
  cases e : xs[i]? with
  | none => rw [e] at h; cases h
  | some t => rw [e] at h; exact ⟨t, rfl, (Option.some.inj h).symm⟩
def LotAt (K : PySem.W.Frag) (H : Hp) (a : Addr) (ps : List (Str × Str)) (T : Str × Str → Int) : Prop := ∃ dx d, H a = some (.ins (cL K) dx [("table", .ref d)]) ∧ H d = some (dP ps T)
def PurAt (K : PySem.W.Frag) (H : Hp) (a : Addr) (ns : List Str) (t : Str → Int) : Prop := ∃ dx d, H a = some (.ins (cP K) dx [("table", .ref d)]) ∧ H d = some (dI ns t)
section
variable {K : PySem.W.Frag} {H H' : Hp} {a : Addr} {ps : List (Str × Str)} {T : Str × Str → Int} {ns : List Str} {t : Str → Int} {S : List Addr}
theorem LotAt.same (k : Same H H') (h : LotAt K H a ps T) : LotAt K H' a ps T := let ⟨dx, d, h1, h2⟩ := h; ⟨dx, d, k _ _ h1, k _ _ h2⟩
theorem PurAt.same (k : Same H H') (h : PurAt K H a ns t) : PurAt K H' a ns t := let ⟨dx, d, h1, h2⟩ := h; ⟨dx, d, k _ _ h1, k _ _ h2⟩
/-- what may change is lists -/
def Lists (S : List Addr) (H : Hp) : Prop := ∀ b ∈ S, ∃ xs, H b = some (.lst xs)
theorem LotAt.kp (k : Kp S H H') (hS : Lists S H) (h : LotAt K H a ps T) : LotAt K H' a ps T := by
  obtain ⟨dx, d, h1, h2⟩ := h
  refine ⟨dx, d, k _ _ h1 fun m => ?_, k _ _ h2 fun m => ?_⟩
  · obtain ⟨xs, e⟩ := hS _ m; rw [h1] at e; cases e
  · obtain ⟨xs, e⟩ := hS _ m; rw [h2] at e; cases e
theorem PurAt.kp (k : Kp S H H') (hS : Lists S H) (h : PurAt K H a ns t) : PurAt K H' a ns t := by
  obtain ⟨dx, d, h1, h2⟩ := h
  refine ⟨dx, d, k _ _ h1 fun m => ?_, k _ _ h2 fun m => ?_⟩
  · obtain ⟨xs, e⟩ := hS _ m; rw [h1] at e; cases e
  · obtain ⟨xs, e⟩ := hS _ m; rw [h2] at e; cases e
theorem Lists.noTup (hS : Lists S H) : ∀ b ∈ S, ∀ xs, H b ≠ some (.tup xs) := fun b hb xs e => by
  obtain ⟨ys, e2⟩ := hS b hb
  rw [e] at e2
  cases e2
theorem Lists.dict {d : Addr} {o : HO} (hS : Lists S H) (h : H d = some o) (n : ∀ xs, o ≠ .lst xs) : d ∉ S := fun m => by
  obtain ⟨ys, e2⟩ := hS d m
  rw [h] at e2
  exact n ys (Option.some.inj e2)
end
end Ep

set_option Elab.async false
set_option linter.all false
set_option maxRecDepth 100000
set_option maxHeartbeats 4000000
/-! ## Lot -/
namespace Ep
open PySem PySem.Spec PyProof.Rows L2
abbrev tabL (rs : List Run) : List (Str × Str) := tabK kPr rs
abbrev totL (rs : List Run) : Str × Str → Int := totK kPr rs
theorem lt_sz {n : Nat} (h : n ≤ 10000) : n < sizeLine := by rw [sizeLine_eq]; omega
theorem isD_P {H : Hp} {d : Addr} {ps : List (Str × Str)} {T : Str × Str → Int} (h : H d = some (dP ps T)) : IsD H d := .inr ⟨_, .inl h⟩
theorem isD_N {H : Hp} {d : Addr} {ns : List Str} {f : Str → V} (h : H d = some (dN ns f)) : IsD H d := .inl ⟨_, .inl h⟩
section
variable {key : Run → Str × Str} {rs : List Run} {r : Run} {H : Hp} {d t : Addr} {p : Str × Str}
theorem dP_getD (h : H d = some (dP (tabK key rs) (totK key rs))) (ht : TwoAt H t p) : ∃ o, DGet H d (.ref t) o ∧ o.getD (.int 0) = .int (totK key rs p) := by
  by_cases hp : p ∈ tabK key rs
  · exact ⟨_, dP_get h ht hp, rfl⟩
  · exact ⟨_, dP_no h ht hp, by rw [totK_no hp]; rfl⟩
theorem dP_add (h : H d = some (dP (tabK key rs) (totK key rs))) (ht : TwoAt H t (key r)) (hl : rs.length < sizeLine) : DPut H d (.ref t) (.int (totK key rs (key r) + r.2.2)) (upd H d (dP (tabK key (rs ++ [r])) (totK key (rs ++ [r])))) := by
  have hl2 : (tabK key rs).length < sizeLine := Nat.lt_of_le_of_lt (length_tabK rs) hl
  rw [tabK_snoc, totK_snoc]
  by_cases hp : key r ∈ tabK key rs
  · rw [if_pos hp]; exact dP_put h ht hp hl2
  · rw [if_neg hp]; exact dP_new h ht hp hl2
end
theorem mk_same {H H' : Hp} {x dx : Addr} {o o' : HO} (n : H x = none) (nd : H dx = none) (k : Kp [x] (upd (upd H dx o) x o') H') : Same H H' := fun b u e =>
  k b u (by rw [upd_ne (ne_of_none e n), upd_ne (ne_of_none e nd)]; exact e) fun m => ne_of_none e n (List.mem_singleton.mp m)
/-- Lot(items) -/
def p_Lot_init (K : PySem.W.Frag) : Sp := fun vs H Q _ => ∃ a l dx rs, vs = [.ref a, .ref l] ∧ H a = some (.ins (cL K) dx []) ∧ RunsAt H l rs ∧ rs.length ≤ 500 ∧ (∀ r ∈ rs, RunOk r) ∧ (∀ p, totL rs p ≤ 10 ^ 24) ∧
  ∀ H' d, Kp [a] H H' → H' a = some (.ins (cL K) dx [("table", .ref d)]) → H' d = some (dP (tabL rs) (totL rs)) → H d = none → Q .non H'
abbrev s_Lot___init__ : Stmt := inClass (top 24) 0
abbrev N_Lot___init__ : List Str := ["self", "items", "table", "at", "item", "pair"]
theorem sc_Lot___init__ : FnScope N_Lot___init__ ["self", "items"] (defScope s_Lot___init__) := ⟨rfl, rfl, rfl, by decide +kernel, rfl, by decide +kernel, by decide +kernel⟩
section
variable {P : Program} {w : World} {K : PySem.W.Frag} {mg : Str → Option Value} {base : Heap} {f : Addr} {fd : FuncData}
theorem ok_Lot___init__ (F : FnP K "__init__" "Lot.__init__" s_Lot___init__ f fd) (T : Txt K mg) (d_is_run : Df P w K mg base CX0 3 "is_run" ["thing"] p_is_run) (d_pair_of : Df P w K mg base CX0 1 "pair_of" ["one", "other"] p_pair_of) : FnOk P w K mg base CX0 4 f fd ["self", "items"] (p_Lot_init K) := by
  refine ok0 F sc_Lot___init__ (fun _ _ _ _ h => by obtain ⟨a, l, dx, rs, rfl, _⟩ := h; rfl) fun cdv A outer s H vs Q E hr h => ?_
  obtain ⟨a, l, dx, rs, rfl, ha, ⟨ts, hl, hts⟩, hlen, ok, hle, q⟩ := h
  obtain ⟨tI, gMOST_ITEMS⟩ := T.MOST_ITEMS
  obtain ⟨tT, gMOST_TIMES⟩ := T.MOST_TIMES
  have hu := hu_of hr
  refine ⟨_, (pss_cons (ps_if (PW.pt (pw_or (pt_not (pt_val (pe_callB call_isi (by rfl) T.isinstance bt_isinstance (pa_cons (pv 1) (pa_cons (pe_bltn (v := .ty "list") (by rfl) T.list bt_list rfl) pa_nil))))) (pw_or1 (pt_cmpR op_gt (pe_callB call_len_seq (by rfl) T.len bt_len (pa_cons (pv 1) pa_nil)) (pe_glob (v := .int 500) (by rfl) gMOST_ITEMS ⟨_, rfl⟩) (nomark _)))))
      (pss_one ps_never)
      pss_nil)
    (pss_cons (ps_set (i := 2) sc_Lot___init__.nd rfl (Or.inl rfl) pe_dnewT)
    (pss_cons (ps_for PassesOwn.never rfl (pi_enum (by rfl) T.enumerate (pa_cons (pv 1) pa_nil)) (pg_tup rfl (pgs_cons (pg_name (i := 3) sc_Lot___init__.nd rfl (Or.inl rfl)) (pgs_cons (pg_name (i := 4) sc_Lot___init__.nd rfl (Or.inl rfl)) pgs_nil)))
      (pss_cons (ps_if (pt_not (pt_val (pe_df d_is_run hr (pa_cons (pv 4) pa_nil))))
        (pss_one ps_never)
        pss_nil)
      (pss_cons (ps_set (i := 5) sc_Lot___init__.nd rfl (Or.inl rfl) (pe_df d_pair_of hr (pa_cons (pe_ix ix_tup (pv 4) pe_int (fun _ _ => rfl)) (pa_cons (pe_ix ix_tup (pv 4) pe_int (fun _ _ => rfl)) pa_nil))))
      (pss_cons (ps_dput hu (pv 2) (pv 5) (pe_op op_add (pe_dget2 hu (pv 2) (pv 5) pe_int ⟨rfl, rfl, rfl, rfl⟩) (pe_ix ix_tup (pv 4) pe_int (fun _ _ => rfl))) rfl)
      (pss_one (ps_if (pt_cmpR op_gt (pe_dget hu (pv 2) (pv 5) (fun _ _ => rfl)) (pe_glob (v := .int (10 ^ 24)) (by rfl) gMOST_TIMES ⟨_, rfl⟩) (nomark _))
        (pss_one ps_never)
        pss_nil))))))
    (pss_one (ps_fld (pv 0) (pv 2) rfl))))), ?_⟩
  have hlt : ts.length = rs.length := Paired.length hts
  refine ⟨.ref l, rfl, .ref l, .ty "list", .type "list", .type "list", true, rfl, .ty _, .base (.lst hl), kit_ty (by decide +kernel), true, rfl, ?_⟩
  refine ⟨.ref l, rfl, l, _, rfl, .inl (SqL.of hl), _, _, rfl, rfl, false, ?_, fun d nd => ?_⟩
  · refine bl_f ?_
    rw [List.length_map]
    omega
  refine ⟨.ref l, rfl, l, _, rfl, SqL.of (new_get nd hl), ?_⟩
  refine for_it (walk_enum (xs := ts.map V.ref)) (fun i σ H' => (∃ x3 x4 x5, σ = [some (.ref a), some (.ref l), some (.ref d), x3, x4, x5]) ∧ Same H H' ∧ H' d = some (dP (tabL (rs.take i)) (totL (rs.take i)))) ?_ ?_ ?_ ?_
  · exact ⟨⟨_, _, _, rfl⟩, Same.new Same.rfl nd, upd_same⟩
  · rintro i σ H1 _ ⟨_, k, _⟩
    exact SqL.of (k _ _ hl)
  · rintro i v σ H1 H2 hi ⟨⟨x3, x4, x5, rfl⟩, k, hd⟩ ⟨t, x, y, rfl, nt, rfl, hx, hy⟩
    obtain ⟨ti, hti, rfl⟩ := map_ref_get hy
    obtain ⟨r, hri, hrun⟩ := L2.paired_get hts hti
    obtain ⟨x1, x2, m⟩ := r
    have rok := ok _ (List.mem_of_getElem? hri)
    have kt : Same H (upd H1 t (.tup [x, .ref ti])) := Same.new k nt
    refine ⟨t, [x, .ref ti], rfl, SqT.of upd_same, rfl, x, [.ref ti], rfl, .ref ti, [], rfl, rfl, ?_⟩
    refine ⟨.ref ti, rfl, ti, (x1, x2, m), rfl, kt _ _ hrun, rok, fun H4 k4 => ⟨true, rfl, ?_⟩⟩
    have k5 := Same.tr kt k4
    have hd5 : H4 d = _ := k4 _ _ (new_get nt hd)
    have sq : ∀ {H'}, Same H H' → SqT K H' ti [.str x1, .str x2, .int m] := fun k => SqT.of (k _ _ hrun)
    refine ⟨.ref ti, rfl, ti, _, 0, _, rfl, rfl, sq k5, rfl, .ref ti, rfl, ti, _, 1, _, rfl, rfl, sq k5, rfl, x1, x2, rfl, fun p np => ?_⟩
    have k6 : Same H (upd H4 p (.tup [.str (mn x1 x2), .str (mx x1 x2)])) := Same.new k5 np
    have hd6 := new_get (u := .tup [.str (mn x1 x2), .str (mx x1 x2)]) np hd5
    have tw : TwoAt (upd H4 p (.tup [.str (mn x1 x2), .str (mx x1 x2)])) p (kPr (x1, x2, m)) := upd_same
    obtain ⟨o, hg, ho⟩ := dP_getD hd6 tw
    have hp2 := dP_add (r := (x1, x2, m)) hd6 tw (lt_sz (by rw [List.length_take]; omega))
    rw [← take_snoc hri] at hp2
    have nd5 : d ≠ p := ne_of_none hd5 np
    refine ⟨.ref d, rfl, d, rfl, isD_P hd6, .ref p, rfl, o, hg, .ref ti, rfl, ti, _, 2, _, rfl, rfl, sq k6, rfl, totL (rs.take i) (kPr (x1, x2, m)), m, ho, rfl, ?_⟩
    refine ⟨.ref d, rfl, .ref p, rfl, d, _, rfl, hp2, ?_⟩
    have hd7 : upd (upd H4 p (.tup [.str (mn x1 x2), .str (mx x1 x2)])) d (dP (tabK kPr (rs.take (i + 1))) (totK kPr (rs.take (i + 1)))) d = some (dP (tabK kPr (rs.take (i + 1))) (totK kPr (rs.take (i + 1)))) := upd_same
    have hin : kPr (x1, x2, m) ∈ tabK kPr (rs.take (i + 1)) := (mem_tabK _).mpr ⟨(x1, x2, m), by rw [take_snoc hri]; exact List.mem_append_right _ (List.mem_singleton.mpr rfl), rfl⟩
    refine ⟨.ref d, rfl, .ref p, rfl, d, _, rfl, dP_get hd7 (by unfold TwoAt; rw [upd_ne (Ne.symm nd5)]; exact tw) hin, _, _, rfl, rfl, false, ?_, ?_⟩
    · refine bl_f (Int.not_lt.mpr (Int.le_trans (totK_take_le (fun r hr => ?_) _) (hle _)))
      have := (ok r hr).lo
      omega
    · exact ⟨⟨_, _, _, rfl⟩, Same.wrN k6 nd, upd_same⟩
  · rintro σ H1 ⟨⟨x3, x4, x5, rfl⟩, k, hd⟩
    rw [List.take_of_length_le (by rw [List.length_map]; omega)] at hd
    refine ⟨.ref d, rfl, .ref a, rfl, a, _, _, _, rfl, k _ _ ha, T.clL, T.ntL, by decide, ?_⟩
    have nda : d ≠ a := fun z => by rw [z, ha] at nd; cases nd
    exact q _ d (Kp.wr (Same.kp k) (List.mem_singleton.mpr rfl)) upd_same (by rw [upd_ne nda]; exact hd) nd
/-- with_table(table) -/
def p_with_table (K : PySem.W.Frag) : Sp := fun vs H Q _ => ∃ d ps T', vs = [.ref d] ∧ H d = some (dP ps T') ∧ ∀ H' a, Same H H' → H a = none → LotAt K H' a ps T' → Q (.ref a) H'
abbrev s_with_table : Stmt := top 23
abbrev N_with_table : List Str := ["table", "lot"]
theorem sc_with_table : FnScope N_with_table ["table"] (defScope s_with_table) := ⟨rfl, rfl, rfl, by decide +kernel, rfl, by decide +kernel, by decide +kernel⟩
theorem ok_with_table (F : FnP K "with_table" "with_table" s_with_table f fd) (T : Txt K mg) (d_Lot : Dk P w K mg base 4 "Lot" (cL K) ["self", "items"] (p_Lot_init K)) : FnOk P w K mg base CX0 6 f fd ["table"] (p_with_table K) := by
  refine ok0 F sc_with_table (fun _ _ _ _ h => by obtain ⟨a, l, dx, rfl, _⟩ := h; rfl) fun cdv A outer s H vs Q E hr h => ?_
  obtain ⟨d, ps, T', rfl, hd, q⟩ := h
  refine ⟨_, (pss_cons (ps_set (i := 1) sc_with_table.nd rfl (Or.inl rfl) (pe_dk d_Lot hr (pa_cons (pe_lst pa_nil) pa_nil)))
    (pss_cons (ps_fld (pv 1) (pv 0) rfl)
    (pss_one (ps_ret (pv 1))))), ?_⟩
  refine ⟨Nat.zero_le _, fun l nl x dx nx ndx nex => ?_⟩
  have hl : upd (upd (upd H l (.lst [])) dx (.own x)) x (.ins (cL K) dx []) l = some (.lst []) := by
    rw [upd_ne (ne_of_none upd_same nx), upd_ne (ne_of_none upd_same ndx), upd_same]
  refine ⟨x, l, dx, [], rfl, upd_same, ⟨[], hl, .nil⟩, by decide, fun r hr => absurd hr List.not_mem_nil, fun p => by show (0 : Int) ≤ 10 ^ 24; decide, fun H1 d1 k h1 h2 n1 => ⟨rfl, ?_⟩⟩
  have k1 : Same (upd H l (.lst [])) H1 := mk_same nx ndx k
  have k2 : Same H H1 := Same.tr (Same.new Same.rfl nl) k1
  refine ⟨.ref d, rfl, .ref x, rfl, x, _, _, _, rfl, h1, T.clL, T.ntL, (by show 1 < 1000; decide), .ref x, rfl, ?_⟩
  have nx0 : H x = none := by
    cases e : H x with
    | none => rfl
    | some o => rw [new_get nl e] at nx; cases nx
  refine q _ x (Same.wrN k2 nx0) nx0 ⟨dx, d, upd_same, ?_⟩
  rw [upd_ne (ne_of_none hd nx0)]
  exact k2 _ _ hd
end
/-! ### sorted(dict of pairs) -/
def readP (H : Hp) (v : V) : Str × Str := match v with
  | .ref b => (match H b with
    | some (.tup [.str x, .str y]) => (x, y)
    | _ => ("", ""))
  | _ => ("", "")
theorem readP_at {H : Hp} {b : Addr} {p : Str × Str} (h : TwoAt H b p) : readP H (.ref b) = p := by
  unfold TwoAt at h
  show (match H b with | some (.tup [.str x, .str y]) => (x, y) | _ => (("" : Str), ("" : Str))) = p
  rw [h]
def eP (p : Str × Str) : PyData := .tuple [.str p.1, .str p.2]
def encP (H : Hp) (v : V) : PyData := eP (readP H v)
def LeP (x y : Str × Str) : Prop := PySem.W.dataLt (eP y) (eP x) = false
theorem keys_two {H : Hp} : ∀ {ps : List (Str × Str)} {f : Str × Str → V} {bs : List Addr}, IsKeys H (mkT kP ps f) bs → Paired (TwoAt H) bs ps
  | [], f, bs, h => by
    cases h
    exact .nil
  | p :: ps, f, bs, h => by
    cases h with
    | cons h1 h2 => exact .cons h1 (keys_two h2)
theorem two_dat {K : PySem.W.Frag} {H : Hp} {b : Addr} {p : Str × Str} (h : TwoAt H b p) : Dat K H (.ref b) (eP p) :=
  ⟨.tup (SqT.of h) (.cons (.str _) (.cons (.str _) .nil)), rfl, by show 1 ≤ 8; decide⟩
theorem paired_mem {α β : Type} {G : α → β → Prop} {l₁ : List α} {l₂ : List β} (h : Paired G l₁ l₂) : ∀ a ∈ l₁, ∃ b, b ∈ l₂ ∧ G a b := by
  induction h with
  | nil => exact fun a h => absurd h List.not_mem_nil
  | @cons a b l₁ l₂ r t ih =>
    intro x hx
    rcases List.mem_cons.mp hx with e | e
    · exact ⟨b, List.mem_cons_self, e ▸ r⟩
    · obtain ⟨y, h1, h2⟩ := ih x e
      exact ⟨y, List.mem_cons_of_mem _ h1, h2⟩
theorem reads_two {H : Hp} : ∀ {bs : List Addr} {ps : List (Str × Str)}, Paired (TwoAt H) bs ps → (bs.map V.ref).map (readP H) = ps
  | [], _, .nil => rfl
  | b :: bs, p :: ps, .cons h t => by rw [List.map_cons, List.map_cons, readP_at h, reads_two t]
theorem twos_of {H : Hp} : ∀ {ys : List V}, (∀ y ∈ ys, ∃ b, y = .ref b ∧ TwoAt H b (readP H y)) → ∃ zs : List Addr, ys = zs.map V.ref ∧ Paired (TwoAt H) zs (ys.map (readP H))
  | [], _ => ⟨[], rfl, .nil⟩
  | y :: ys, h => by
    obtain ⟨b, rfl, hb⟩ := h y List.mem_cons_self
    obtain ⟨zs, rfl, hz⟩ := twos_of fun x hx => h x (List.mem_cons_of_mem _ hx)
    exact ⟨b :: zs, rfl, .cons hb hz⟩
theorem tups_keys {K : PySem.W.Frag} {H : Hp} {bs : List Addr} {ps : List (Str × Str)} (h : Paired (TwoAt H) bs ps) : Tups K H (bs.map V.ref) (encP H) :=
  ⟨fun x hx => by
    obtain ⟨b, hb, rfl⟩ := List.mem_map.mp hx
    obtain ⟨p, _, hp⟩ := paired_mem h b hb
    unfold encP
    rw [readP_at hp]
    exact two_dat hp, fun x => ⟨_, _, rfl⟩, fun x y => rfl⟩
theorem sortDT_k {K : PySem.W.Frag} {H : Hp} {ps : List (Str × Str)} {f : Str × Str → V} {bs : List Addr} (hk : IsKeys H (mkT kP ps f) bs) : Tups K H (bs.map V.ref) (encP H) ∧
    ∀ ys : List V, ys.Perm (bs.map V.ref) → (ys.Pairwise fun x y => PySem.W.dataLt (encP H y) (encP H x) = false) → ∃ zs qs, ys = zs.map V.ref ∧ Paired (TwoAt H) zs qs ∧ qs.Perm ps ∧ qs.Pairwise LeP := by
  have h2 := keys_two hk
  refine ⟨tups_keys h2, fun ys pm pw => ?_⟩
  obtain ⟨zs, e, hz⟩ := twos_of (H := H) (ys := ys) fun y hy => by
    obtain ⟨b, hb, rfl⟩ := List.mem_map.mp (pm.mem_iff.mp hy)
    obtain ⟨p, _, hp⟩ := paired_mem h2 b hb
    exact ⟨b, rfl, by rw [readP_at hp]; exact hp⟩
  have pm2 : (ys.map (readP H)).Perm ps := by
    have q := pm.map (readP H)
    rw [reads_two h2] at q
    exact q
  have pw2 : (ys.map (readP H)).Pairwise LeP := List.pairwise_map.mpr pw
  exact ⟨zs, _, e, hz, pm2, pw2⟩
section
variable {P : Program} {w : World} {K : PySem.W.Frag} {mg : Str → Option Value} {base : Heap} {f : Addr} {fd : FuncData}
/-- lot.entries() -/
def p_Lot_entries (K : PySem.W.Frag) : Sp := fun vs H Q _ => ∃ a ps T', vs = [.ref a] ∧ LotAt K H a ps T' ∧ ps.length ≤ 500 ∧
  ∀ H' l (qs : List (Str × Str)), Same H H' → qs.Perm ps → H l = none → RunsAt H' l (qs.map fun p => (p.1, p.2, T' p)) → Q (.ref l) H'
abbrev s_Lot_entries : Stmt := inClass (top 24) 1
abbrev N_Lot_entries : List Str := ["self", "pair"]
theorem sc_Lot_entries : FnScope N_Lot_entries ["self"] (defScope s_Lot_entries) := ⟨rfl, rfl, rfl, by decide +kernel, rfl, by decide +kernel, by decide +kernel⟩
theorem ok_Lot_entries (F : FnP K "entries" "Lot.entries" s_Lot_entries f fd) (T : Txt K mg) : FnOk P w K mg base CX0 1 f fd ["self"] (p_Lot_entries K) := by
  refine ok0 F sc_Lot_entries (fun _ _ _ _ h => by obtain ⟨a, l, dx, rfl, _⟩ := h; rfl) fun cdv A outer s H vs Q E hr h => ?_
  obtain ⟨a, ps, T', rfl, ⟨dx, d, ha, hd⟩, hz, q⟩ := h
  have hu := hu_of hr
  refine ⟨_, (pss_one (ps_ret (pe_lc (own := [("pair", 1)]) (g := gName 1) (tt := tYes) rfl sc_Lot_entries.nd (pi_list (pe_callB (cr_sortedDT rfl hr.units) (by rfl) T.sorted bt_sorted (pa_cons (pe_fld (pv 0) rfl) pa_nil))) (blkOk_by (own := [("pair", 1)]) (N := N_Lot_entries) (sc := defScope s_Lot_entries) (by decide +kernel)) (fun _ _ _ _ _ => (pg_name (i := 1) sc_Lot_entries.nd rfl (Or.inl rfl))) (fun _ _ _ _ _ => pts_nil) (fun _ _ _ _ _ => (pe_tup (pa_cons (pe_ix (r := rIxT K) ix_tup (pv 1) pe_int (fun _ _ => rfl)) (pa_cons (pe_ix (r := rIxT K) ix_tup (pv 1) pe_int (fun _ _ => rfl)) (pa_cons (pe_dget hu (pe_fldK K (pv 0) rfl) (pv 1) (fun _ _ => rfl)) pa_nil)))))))), ?_⟩
  refine ⟨.ref a, rfl, a, _, _, _, _, rfl, ha, T.clL, T.ntL, rfl, d, _, encP H, rfl, .inl hd, fun bs hk => ⟨(sortDT_k hk).1, fun ys p pm pw np => ?_⟩⟩
  obtain ⟨zs, qs, rfl, hz2, pm, pw⟩ := (sortDT_k (K := K) hk).2 ys pm pw
  refine ⟨p, rfl, ⟨_, SqL.of upd_same⟩, fun D nD => ?_⟩
  have kp0 : Same H (upd H p (.lst (zs.map V.ref))) := Same.new Same.rfl np
  have hlz : zs.length = qs.length := Paired.length hz2
  have hlq : qs.length = ps.length := pm.length_eq
  have npD : p ≠ D := fun z => by rw [z, upd_same] at nD; cases nD
  have nD0 : H D = none := by rw [upd_ne (Ne.symm npD)] at nD; exact nD
  refine lc_it (walk_list (xs := zs.map V.ref)) (fun i H' => Same H H' ∧ H' p = some (.lst (zs.map V.ref)) ∧ ∃ us : List Addr, H' D = some (.lst (us.map V.ref)) ∧ Paired (RunAt H') us ((qs.take i).map fun p => (p.1, p.2, T' p))) ?_ ?_ ?_ ?_
  · exact ⟨Same.new kp0 nD, new_get nD upd_same, [], upd_same, .nil⟩
  · rintro i H1 _ ⟨_, h, _⟩
    exact SqL.of h
  · rintro i v H1 H2 hi ⟨k, hp, us, hD, hus⟩ ⟨rfl, hv⟩
    obtain ⟨z, hzi, rfl⟩ := map_ref_get hv
    obtain ⟨pq, hqi, htw⟩ := L2.paired_get hz2 hzi
    have ht := k _ _ htw
    have sq : SqT K H2 z [.str pq.1, .str pq.2] := SqT.of ht
    refine ⟨rfl, .ref z, rfl, z, _, 0, _, rfl, rfl, sq, rfl, .ref z, rfl, z, _, 1, _, rfl, rfl, sq, rfl, .ref a, rfl, a, _, _, _, _, rfl, k _ _ ha, T.clL, T.ntL, rfl, .ref z, rfl, d, _, rfl, dP_get (k _ _ hd) ht (pm.mem_iff.mp (List.mem_of_getElem? hqi)), ?_⟩
    refine ⟨by show 3 ≤ sizeLine; decide, fun u nu => ⟨_, new_get nu hD, ?_, ?_⟩⟩
    · rw [List.length_map]
      refine lt_sz ?_
      have := Paired.length hus
      rw [List.length_map, List.length_take] at this
      omega
    · have k3 := Same.wrN (o := .lst (us.map V.ref ++ [.ref u])) (Same.new (o := .tup [.str pq.1, .str pq.2, .int (T' pq)]) k nu) nD0
      have nuD : u ≠ D := fun z => by rw [z, hD] at nu; cases nu
      refine ⟨k3, ?_, us ++ [u], ?_, ?_⟩
      · rw [upd_ne npD]; exact new_get nu hp
      · rw [upd_same, List.map_append]; rfl
      · rw [take_snoc hqi, List.map_append]
        have h1 : Paired (RunAt (upd (upd H2 u (.tup [.str pq.1, .str pq.2, .int (T' pq)])) D (.lst (us.map V.ref ++ [.ref u])))) us ((qs.take i).map fun p => (p.1, p.2, T' p)) := Paired.mapP hus fun t r z => by
          unfold RunAt at z ⊢
          rw [upd_ne (fun e => by rw [e, hD] at z; cases z)]
          exact new_get nu z
        exact Paired.snoc h1 (by unfold RunAt; rw [upd_ne nuD, upd_same])
  · rintro H1 ⟨k, hp, us, hD, hus⟩
    rw [List.take_of_length_le (by rw [List.length_map]; omega)] at hus
    exact q _ D qs k pm nD0 ⟨us, hD, hus⟩
end
end Ep

set_option Elab.async false
set_option linter.all false
set_option maxRecDepth 100000
set_option maxHeartbeats 4000000
/-! ## Lot.players, lot_of -/
namespace Ep
open PySem PySem.Spec PyProof.Rows L2
section
variable {P : Program} {w : World} {pr : Str → Prop} {J : It} {n : Nat} {G : Hp → Prop} {Y : Nat → Hp → V → Hp → Prop} {g : TG} {tt : TT} {wi1 : TI} {g1 : TG} {tt1 : TT} {te : TE} {vs vs1 : List Nat} {σ : L2.St} {H1 : Hp} {D : Addr}
theorem sc2_out (wk : Walk J n G Y) {Qd : Hp → Prop}
    (Pv : Nat → Hp → Prop) (h0 : Pv 0 (upd H1 D (SetSO P w D pr 0))) (hG : ∀ i H, i ≤ n → Pv i H → G H)
    (hs : ∀ i x H H', i < n → Pv i H → Y i H x H' → g x (wipe σ vs) H' fun σ2 H2 => wipe σ2 vs = wipe σ vs ∧ tt σ2 H2 fun b H3 =>
      if b = true then wi1 σ2 H3 fun J1 H4 => ∃ W1 : Nat → Nat → Hp → Prop, (∃ m, W1 0 m H4) ∧ ∀ j k H, W1 j k H →
          (J1.stop j H ∧ Pv (i + 1) H) ∨ (J1.go j H ∧ ∃ Nx1 : Hp → Prop, (∀ H', Nx1 H' → ∃ k', k' < k ∧ W1 (j + 1) k' H') ∧ ∀ x H', J1.yld j H x H' → g1 x (wipe σ2 vs1) H' fun σ3 H5 => wipe σ3 vs1 = wipe σ2 vs1 ∧ tt1 σ3 H5 fun b H6 =>
            if b = true then te σ3 H6 fun y H7 => ∃ z n, y = .str z ∧ pr z ∧ H7 D = some (SetSO P w D pr n) ∧ n + 1 < scanBound ∧ Nx1 (upd H7 D (SetSO P w D pr (n + 1))) else Nx1 H6)
      else Pv (i + 1) H3) (hd : ∀ H, Pv n H → Qd H) :
    ∃ W : Nat → Nat → Hp → Prop, (∃ m, W 0 m (upd H1 D (SetSO P w D pr 0))) ∧ ∀ i m H, W i m H →
      (J.stop i H ∧ Qd H) ∨ (J.go i H ∧ ∃ Nx : Hp → Prop, (∀ H', Nx H' → ∃ m', m' < m ∧ W (i + 1) m' H') ∧ ∀ x H', J.yld i H x H' → g x (wipe σ vs) H' fun σ2 H2 => wipe σ2 vs = wipe σ vs ∧ tt σ2 H2 fun b H3 =>
        if b = true then wi1 σ2 H3 fun J1 H4 => ∃ W1 : Nat → Nat → Hp → Prop, (∃ m, W1 0 m H4) ∧ ∀ j k H, W1 j k H →
          (J1.stop j H ∧ Nx H) ∨ (J1.go j H ∧ ∃ Nx1 : Hp → Prop, (∀ H', Nx1 H' → ∃ k', k' < k ∧ W1 (j + 1) k' H') ∧ ∀ x H', J1.yld j H x H' → g1 x (wipe σ2 vs1) H' fun σ3 H5 => wipe σ3 vs1 = wipe σ2 vs1 ∧ tt1 σ3 H5 fun b H6 =>
            if b = true then te σ3 H6 fun y H7 => ∃ z n, y = .str z ∧ pr z ∧ H7 D = some (SetSO P w D pr n) ∧ n + 1 < scanBound ∧ Nx1 (upd H7 D (SetSO P w D pr (n + 1))) else Nx1 H6)
        else Nx H3) := by
  refine ⟨fun i m H => m = n - i ∧ i ≤ n ∧ Pv i H, ⟨n, by simp, Nat.zero_le _, h0⟩, ?_⟩
  rintro i m H ⟨rfl, hi, p⟩
  have q := hG i H hi p
  by_cases hlt : i < n
  · exact .inr ⟨wk.goes i H hlt q, Pv (i + 1), fun H' p' => ⟨n - (i + 1), by omega, rfl, hlt, p'⟩, fun x H' y => hs i x H H' hlt p (wk.yields i H x H' hlt q y)⟩
  · have e : i = n := by omega
    subst e
    exact .inl ⟨wk.stops H q, hd H p⟩
theorem sc2_in (wk : Walk J n G Y) {Qd : Hp → Prop} (Pv : Nat → Hp → Prop) (h0 : Pv 0 H1) (hG : ∀ i H, i ≤ n → Pv i H → G H)
    (hs : ∀ j x H H', j < n → Pv j H → Y j H x H' → g1 x (wipe σ vs1) H' fun σ3 H5 => wipe σ3 vs1 = wipe σ vs1 ∧ tt1 σ3 H5 fun b H6 =>
      if b = true then te σ3 H6 fun y H7 => ∃ z n, y = .str z ∧ pr z ∧ H7 D = some (SetSO P w D pr n) ∧ n + 1 < scanBound ∧ Pv (j + 1) (upd H7 D (SetSO P w D pr (n + 1))) else Pv (j + 1) H6) (hd : ∀ H, Pv n H → Qd H) :
    ∃ W1 : Nat → Nat → Hp → Prop, (∃ m, W1 0 m H1) ∧ ∀ j k H, W1 j k H →
      (J.stop j H ∧ Qd H) ∨ (J.go j H ∧ ∃ Nx1 : Hp → Prop, (∀ H', Nx1 H' → ∃ k', k' < k ∧ W1 (j + 1) k' H') ∧ ∀ x H', J.yld j H x H' → g1 x (wipe σ vs1) H' fun σ3 H5 => wipe σ3 vs1 = wipe σ vs1 ∧ tt1 σ3 H5 fun b H6 =>
        if b = true then te σ3 H6 fun y H7 => ∃ z n, y = .str z ∧ pr z ∧ H7 D = some (SetSO P w D pr n) ∧ n + 1 < scanBound ∧ Nx1 (upd H7 D (SetSO P w D pr (n + 1))) else Nx1 H6) := by
  refine ⟨fun i m H => m = n - i ∧ i ≤ n ∧ Pv i H, ⟨n, by simp, Nat.zero_le _, h0⟩, ?_⟩
  rintro i m H ⟨rfl, hi, p⟩
  have q := hG i H hi p
  by_cases hlt : i < n
  · exact .inr ⟨wk.goes i H hlt q, Pv (i + 1), fun H' p' => ⟨n - (i + 1), by omega, rfl, hlt, p'⟩, fun x H' y => hs i x H H' hlt p (wk.yields i H x H' hlt q y)⟩
  · have e : i = n := by omega
    subst e
    exact .inl ⟨wk.stops H q, hd H p⟩
end
section
variable {P : Program} {w : World} {K : PySem.W.Frag} {mg : Str → Option Value} {base : Heap} {f : Addr} {fd : FuncData}
/-- lot.players() -/
def p_Lot_players (K : PySem.W.Frag) : Sp := fun vs H Q _ => ∃ a ps T', vs = [.ref a] ∧ LotAt K H a ps T' ∧ ps.length ≤ 500 ∧
  ∀ H' l (ys : List Str), Same H H' → (∀ y ∈ ys, ∃ p ∈ ps, y = p.1 ∨ y = p.2) → ys.length ≤ 1000 → H l = none → H' l = some (.lst (ys.map V.str)) → Q (.ref l) H'
abbrev s_Lot_players : Stmt := inClass (top 24) 2
abbrev N_Lot_players : List Str := ["self", "pair", "name"]
theorem sc_Lot_players : FnScope N_Lot_players ["self"] (defScope s_Lot_players) := ⟨rfl, rfl, rfl, by decide +kernel, rfl, by decide +kernel, by decide +kernel⟩
theorem ok_Lot_players (F : FnP K "players" "Lot.players" s_Lot_players f fd) (T : Txt K mg) : FnOk P w K mg base CX0 1 f fd ["self"] (p_Lot_players K) := by
  refine ok0 F sc_Lot_players (fun _ _ _ _ h => by obtain ⟨a, l, dx, rfl, _⟩ := h; rfl) fun cdv A outer s H vs Q E hr h => ?_
  obtain ⟨a, ps, T', rfl, ⟨dx, d, ha, hd⟩, hz, q⟩ := h
  have hu := hu_of hr
  refine ⟨_, (pss_one (ps_ret (pe_callB (cr_sortedSetS rfl hr.units) (by rfl) T.sorted bt_sorted (pa_cons (pe_sc2 (pr := fun y => ∃ p ∈ ps, y = p.1 ∨ y = p.2) (own := [("pair", 1), ("name", 2)]) (vs1 := [2]) (g := gName 1) (tt := tYes) (wi1 := iTup K (tVar 1)) (g1 := gName 2) (tt1 := tYes) rfl sc_Lot_players.nd (pi_list (pe_callB (cr_sortedDT rfl hr.units) (by rfl) T.sorted bt_sorted (pa_cons (pe_fld (pv 0) rfl) pa_nil))) (blkOk_by (own := [("pair", 1), ("name", 2)]) (N := N_Lot_players) (sc := defScope s_Lot_players) (by decide +kernel)) (by decide) (fun _ _ _ _ _ => (pg_name (i := 1) sc_Lot_players.nd rfl (Or.inl rfl))) (fun _ _ _ _ _ => pts_nil) (fun _ _ _ _ _ => (pi_tup (pv 1))) (fun _ _ _ _ _ => (pg_name (i := 2) sc_Lot_players.nd rfl (Or.inl rfl))) (fun _ _ _ _ _ => pts_nil) (fun _ _ _ _ _ => (pv 2))) pa_nil)))), ?_⟩
  refine ⟨.ref a, rfl, a, _, _, _, _, rfl, ha, T.clL, T.ntL, rfl, d, _, encP H, rfl, .inl hd, fun bs hk => ⟨(sortDT_k hk).1, fun ys p pm pw np => ?_⟩⟩
  obtain ⟨zs, qs, rfl, hz2, pm, pw⟩ := (sortDT_k (K := K) hk).2 ys pm pw
  refine ⟨p, rfl, ⟨_, SqL.of upd_same⟩, fun D nD => ?_⟩
  have kp0 : Same H (upd H p (.lst (zs.map V.ref))) := Same.new Same.rfl np
  have hlz : zs.length = qs.length := Paired.length hz2
  have hlq : qs.length = ps.length := pm.length_eq
  have npD : p ≠ D := fun z => by rw [z, upd_same] at nD; cases nD
  have nD0 : H D = none := by rw [upd_ne (Ne.symm npD)] at nD; exact nD
  refine sc2_out (walk_list (xs := zs.map V.ref)) (fun i H' => Same H H' ∧ H' p = some (.lst (zs.map V.ref)) ∧ H' D = some (SetSO P w D (fun y => ∃ p ∈ ps, y = p.1 ∨ y = p.2) (2 * i))) ?_ ?_ ?_ ?_
  · exact ⟨Same.new kp0 nD, new_get nD upd_same, upd_same⟩
  · rintro i H1 _ ⟨_, h, _⟩
    exact SqL.of h
  · rintro i v H1 H2 hi ⟨k, hp, hD⟩ ⟨rfl, hv⟩
    obtain ⟨z, hzi, rfl⟩ := map_ref_get hv
    obtain ⟨pq, hqi, htw⟩ := L2.paired_get hz2 hzi
    have hmem := pm.mem_iff.mp (List.mem_of_getElem? hqi)
    refine ⟨rfl, .ref z, rfl, z, rfl, ⟨_, SqT.of (k _ _ htw)⟩, ?_⟩
    refine sc2_in (walk_tup (xs := [.str pq.1, .str pq.2])) (fun j H' => Same H H' ∧ H' p = some (.lst (zs.map V.ref)) ∧ H' D = some (SetSO P w D (fun y => ∃ p ∈ ps, y = p.1 ∨ y = p.2) (2 * i + j))) ?_ ?_ ?_ ?_
    · exact ⟨k, hp, hD⟩
    · rintro j H3 _ ⟨k3, _⟩
      exact SqT.of (k3 _ _ htw)
    · rintro j v H3 H4 hj ⟨k3, hp3, hD3⟩ ⟨rfl, hv3⟩
      have hb : 2 * i + j + 1 < scanBound := by
        have e : scanBound = 4096 := rfl
        rw [List.length_map] at hi
        have : j < 2 := hj
        omega
      match j, hj, hv3 with
      | 0, _, hv3 =>
        cases (show some (V.str pq.1) = some v from hv3)
        exact ⟨rfl, .str pq.1, rfl, pq.1, 2 * i + 0, rfl, ⟨pq, hmem, .inl rfl⟩, hD3, hb, Same.wrN k3 nD0, by rw [upd_ne npD]; exact hp3, upd_same⟩
      | 1, _, hv3 =>
        cases (show some (V.str pq.2) = some v from hv3)
        exact ⟨rfl, .str pq.2, rfl, pq.2, 2 * i + 1, rfl, ⟨pq, hmem, .inr rfl⟩, hD3, hb, Same.wrN k3 nD0, by rw [upd_ne npD]; exact hp3, upd_same⟩
    · rintro H3 ⟨k3, hp3, hD3⟩
      exact ⟨k3, hp3, hD3⟩
  · rintro H1 ⟨k, hp, hD⟩
    refine ⟨D, _, _, rfl, hD, fun ys l hys hyl nl => ?_⟩
    refine q _ l ys (Same.new k nl) hys (by rw [List.length_map] at hyl; omega) ?_ upd_same
    cases e : H l with
    | none => rfl
    | some o => rw [k _ _ e] at nl; cases nl
end
end Ep

set_option Elab.async false
set_option linter.all false
set_option maxRecDepth 100000
set_option maxHeartbeats 4000000
/-! ## order -/
namespace Ep
open PySem PySem.Spec PyProof.Rows L2
def LtS (a b : Str) : Prop := a.cps.toList < b.cps.toList
instance (a b : Str) : Decidable (LtS a b) := inferInstanceAs (Decidable (a.cps.toList < b.cps.toList))
def Asc (xs : List Str) : Prop := xs.Pairwise LtS
theorem ltS_trans {a b c : Str} (h : LtS a b) (g : LtS b c) : LtS a c := List.lt_trans h g
theorem ltS_irr {a : Str} : ¬ LtS a a := List.lt_irrefl _
theorem rising_all : ∀ (p : Str) (l : List Str), risingS p l = true → (∀ x ∈ l, ¬ LtS x p) ∧ l.Pairwise (fun a b => ¬ LtS b a)
  | p, [], _ => ⟨fun x h => absurd h List.not_mem_nil, List.Pairwise.nil⟩
  | p, x :: r, h => by
    have h' : (!ltCps x.cps.toList p.cps.toList && risingS x r) = true := h
    rw [Bool.and_eq_true] at h'
    obtain ⟨h1, h2⟩ := h'
    rw [PyProof.Rows.ltCps_eq] at h1
    have n1 : ¬ LtS x p := by
      intro z
      rw [decide_eq_true (show x.cps.toList < p.cps.toList from z)] at h1
      cases h1
    obtain ⟨g1, g2⟩ := rising_all x r h2
    refine ⟨fun y hy => ?_, List.pairwise_cons.mpr ⟨g1, g2⟩⟩
    rcases List.mem_cons.mp hy with e | e
    · rw [e]; exact n1
    · intro z
      by_cases c : x = p
      · exact g1 y e (c ▸ z)
      · rcases lt_tri c with q | q
        · exact n1 q
        · exact g1 y e (ltS_trans z q)
theorem asc_of {ys : List Str} (h : sortedS ys = true) (nd : ys.Nodup) : Asc ys := by
  cases ys with
  | nil => exact List.Pairwise.nil
  | cons x r =>
    obtain ⟨g1, g2⟩ := rising_all x r h
    have : (x :: r).Pairwise (fun a b => ¬ LtS b a) := List.pairwise_cons.mpr ⟨g1, g2⟩
    refine List.Pairwise.imp (fun {a b} hab => ?_) (this.and nd)
    rcases lt_tri hab.2 with q | q
    · exact q
    · exact absurd q hab.1
theorem asc_nodup {ys : List Str} (h : Asc ys) : ys.Nodup := List.Pairwise.imp (fun {a b} (q : LtS a b) (e : a = b) => ltS_irr (by rw [e] at q; exact q)) h
theorem asc_ext : ∀ {xs ys : List Str}, Asc xs → Asc ys → (∀ a, a ∈ xs ↔ a ∈ ys) → xs = ys
  | [], [], _, _, _ => rfl
  | [], y :: ys, _, _, h => absurd ((h y).mpr List.mem_cons_self) List.not_mem_nil
  | x :: xs, [], _, _, h => absurd ((h x).mp List.mem_cons_self) List.not_mem_nil
  | x :: xs, y :: ys, hx, hy, h => by
    obtain ⟨x1, x2⟩ := List.pairwise_cons.mp hx
    obtain ⟨y1, y2⟩ := List.pairwise_cons.mp hy
    have e : x = y := by
      rcases List.mem_cons.mp ((h x).mp List.mem_cons_self) with e | e
      · exact e
      · rcases List.mem_cons.mp ((h y).mpr List.mem_cons_self) with e2 | e2
        · exact e2.symm
        · exact absurd (ltS_trans (x1 _ e2) (y1 _ e)) ltS_irr
    subst e
    rw [asc_ext x2 y2 fun a => ?_]
    constructor
    · intro ha
      rcases List.mem_cons.mp ((h a).mp (List.mem_cons_of_mem _ ha)) with e | e
      · exact absurd (x1 a ha) (by rw [e]; exact ltS_irr)
      · exact e
    · intro ha
      rcases List.mem_cons.mp ((h a).mpr (List.mem_cons_of_mem _ ha)) with e | e
      · exact absurd (y1 a ha) (by rw [e]; exact ltS_irr)
      · exact e
theorem asc_perm {xs ys : List Str} (hx : Asc xs) (hy : Asc ys) (p : xs.Perm ys) : xs = ys := asc_ext hx hy fun a => p.mem_iff
theorem nd_take {α : Type} {l : List α} {i : Nat} {a : α} (nd : l.Nodup) (h : l[i]? = some a) : a ∉ l.take i := fun m => by
  obtain ⟨hi, e⟩ := List.getElem?_eq_some_iff.mp h
  have hs : l = l.take i ++ l.drop i := (List.take_append_drop i l).symm
  have hd : a ∈ l.drop i := by rw [List.drop_eq_getElem_cons hi, e]; exact List.mem_cons_self
  rw [hs] at nd
  exact (List.nodup_append.mp nd).2.2 a m a hd rfl
/-! ### pairs -/
def LtP (x y : Str × Str) : Prop := if x.1 = y.1 then LtS x.2 y.2 else LtS x.1 y.1
instance (x y : Str × Str) : Decidable (LtP x y) := by unfold LtP; infer_instance
theorem eqv_str (a b : Str) : PyData.eqv (.str a) (.str b) = decide (a = b) := by
  have q : PyData.eqv (.str a) (.str b) = (a == b) := by simp [PyData.eqv]
  rw [q]
  by_cases e : a = b
  · rw [e, decide_eq_true rfl]; simp
  · rw [decide_eq_false e]; simpa using e
theorem lt_eP (x y : Str × Str) : PySem.W.dataLt (eP x) (eP y) = decide (LtP x y) := by
  unfold eP
  rw [PySem.W.dataLt_pair (by simp [PySem.W.alike]) (by simp [PySem.W.alike]), eqv_str, eqv_str, PySem.W.dataLt_str, PySem.W.dataLt_str]
  by_cases h1 : x.1 = y.1
  · rw [if_pos (decide_eq_true h1)]
    by_cases h2 : x.2 = y.2
    · rw [if_pos (decide_eq_true h2)]
      exact (decide_eq_false fun z => by unfold LtP at z; rw [if_pos h1, h2] at z; exact ltS_irr z).symm
    · rw [if_neg (by simpa using h2)]
      exact decide_eq_decide.mpr (by unfold LtP; rw [if_pos h1]; exact Iff.rfl)
  · rw [if_neg (by simpa using h1)]
    exact decide_eq_decide.mpr (by unfold LtP; rw [if_neg h1]; exact Iff.rfl)
theorem ltP_of_le {x y : Str × Str} (h : LeP x y) (ne : x ≠ y) : LtP x y := by
  unfold LeP at h
  rw [lt_eP] at h
  have h := of_decide_eq_false h
  unfold LtP at h ⊢
  by_cases h1 : x.1 = y.1
  · rw [if_pos h1]
    rw [if_pos h1.symm] at h
    rcases lt_tri (fun e => ne (Prod.ext h1 e)) with q | q
    · exact q
    · exact absurd q h
  · rw [if_neg h1]
    rw [if_neg fun e => h1 e.symm] at h
    rcases lt_tri h1 with q | q
    · exact q
    · exact absurd q h
theorem ascP_of {xs : List (Str × Str)} (h : xs.Pairwise LeP) (nd : xs.Nodup) : xs.Pairwise LtP := List.Pairwise.imp (fun {a b} q => ltP_of_le q.1 q.2) (h.and nd)
end Ep

set_option Elab.async false
set_option linter.all false
set_option maxRecDepth 100000
set_option maxHeartbeats 4000000
/-! ## Purses -/
namespace Ep
open PySem PySem.Spec PyProof.Rows L2
/-- a list of pairs (name, tickets) -/
def cE (t : Str → Int) (x : Str) : List V := [.str x, .int (t x)]
def EntsAt (H : Hp) (l : Addr) (ns : List Str) (t : Str → Int) : Prop := ∃ ts : List Addr, H l = some (.lst (ts.map V.ref)) ∧ Paired (fun u x => H u = some (.tup (cE t x))) ts ns
structure NamesOk (ns : List Str) : Prop where
  nd : ns.Nodup
  len : ns.length ≤ 24
  ok : ∀ x ∈ ns, NameOk x
def AmOk (ns : List Str) (t : Str → Int) : Prop := ∀ x ∈ ns, 0 ≤ t x ∧ t x ≤ 10 ^ 30
def p_Purses_init (K : PySem.W.Frag) : Sp := fun vs H Q _ => ∃ a l dx ns t, vs = [.ref a, .ref l] ∧ H a = some (.ins (cP K) dx []) ∧ EntsAt H l ns t ∧ NamesOk ns ∧ AmOk ns t ∧
  ∀ H' d, Kp [a] H H' → H' a = some (.ins (cP K) dx [("table", .ref d)]) → H' d = some (dI ns t) → H d = none → Q .non H'
theorem lock_same {H H' : Hp} {d : Addr} {u z : HO} (h : H d = some u) (k : Same (upd H d z) H') : Same H (upd H' d u) := fun b o e => by
  by_cases c : b = d
  · rw [c, h] at e
    rw [c, upd_same]; exact e
  · rw [upd_ne c]; exact k _ _ (by rw [upd_ne c]; exact e)
theorem lock_kp {S : List Addr} {H H' : Hp} {d : Addr} {u z : HO} (h : H d = some u) (k : Kp S (upd H d z) H') : Kp S H (upd H' d u) := fun b o e n => by
  by_cases c : b = d
  · rw [c, h] at e
    rw [c, upd_same]; exact e
  · rw [upd_ne c]; exact k _ _ (by rw [upd_ne c]; exact e) n
theorem nm_at {ns : List Str} {f : Str → V} {i : Nat} {k : Key} {v : V} (h : (mkT kS ns f)[i]? = some (k, v)) : ∃ x, ns[i]? = some x ∧ k = kS x ∧ v = f x := by
  unfold mkT at h
  rw [List.getElem?_map] at h
  cases e : ns[i]? with
  | none => rw [e] at h; cases h
  | some x =>
    rw [e] at h
    have h2 := Option.some.inj h
    exact ⟨x, rfl, (congrArg Prod.fst h2).symm, (congrArg Prod.snd h2).symm⟩
theorem keys_mk {ns : List Str} {f : Str → V} : (mkT kS ns f).map (·.1) = ns.map Sum.inr := by
  unfold mkT
  rw [List.map_map]
  rfl
abbrev s_Purses___init__ : Stmt := inClass (top 28) 0
abbrev N_Purses___init__ : List Str := ["self", "items", "table", "at", "item"]
theorem sc_Purses___init__ : FnScope N_Purses___init__ ["self", "items"] (defScope s_Purses___init__) := ⟨rfl, rfl, rfl, by decide +kernel, rfl, by decide +kernel, by decide +kernel⟩
section
variable {P : Program} {w : World} {K : PySem.W.Frag} {mg : Str → Option Value} {base : Heap} {f : Addr} {fd : FuncData}
theorem ok_Purses___init__ (F : FnP K "__init__" "Purses.__init__" s_Purses___init__ f fd) (T : Txt K mg) (d_is_name : Df P w K mg base CX0 1 "is_name" ["thing"] p_is_name) (d_is_amount : Df P w K mg base CX0 2 "is_amount" ["thing"] p_is_amount) : FnOk P w K mg base CX0 3 f fd ["self", "items"] (p_Purses_init K) := by
  refine ok0 F sc_Purses___init__ (fun _ _ _ _ h => by obtain ⟨a, l, dx, ns, t, rfl, _⟩ := h; rfl) fun cdv A outer s H vs Q E hr h => ?_
  obtain ⟨a, l, dx, ns, t, rfl, ha, ⟨ts, hl, hts⟩, nok, am, q⟩ := h
  obtain ⟨tI, gMOST_PLAYERS⟩ := T.MOST_PLAYERS
  have hu := hu_of hr
  refine ⟨_, (pss_cons (ps_if (PW.pt (pw_or (pt_not (pt_val (pe_callB call_isi (by rfl) T.isinstance bt_isinstance (pa_cons (pv 1) (pa_cons (pe_bltn (v := .ty "list") (by rfl) T.list bt_list rfl) pa_nil))))) (pw_or1 (pt_cmpR op_gt (pe_callB call_len_seq (by rfl) T.len bt_len (pa_cons (pv 1) pa_nil)) (pe_glob (v := .int 24) (by rfl) gMOST_PLAYERS ⟨_, rfl⟩) (nomark _)))))
      (pss_one ps_never)
      pss_nil)
    (pss_cons (ps_set (i := 2) sc_Purses___init__.nd rfl (Or.inl rfl) pe_dnewK)
    (pss_cons (ps_for PassesOwn.never rfl (pi_enum (by rfl) T.enumerate (pa_cons (pv 1) pa_nil)) (pg_tup rfl (pgs_cons (pg_name (i := 3) sc_Purses___init__.nd rfl (Or.inl rfl)) (pgs_cons (pg_name (i := 4) sc_Purses___init__.nd rfl (Or.inl rfl)) pgs_nil)))
      (pss_cons (ps_if (PW.pt (pw_or (pt_not (pt_val (pe_callB call_isi (by rfl) T.isinstance bt_isinstance (pa_cons (pv 4) (pa_cons (pe_bltn (v := .ty "tuple") (by rfl) T.tuple bt_tuple rfl) pa_nil))))) (pw_or (pt_cmpR op_ne (pe_callB call_len_seq (by rfl) T.len bt_len (pa_cons (pv 4) pa_nil)) pe_int (nomark _)) (pw_or (pt_not (pt_val (pe_df d_is_name hr (pa_cons (pe_ix ix_tup (pv 4) pe_int (fun _ _ => rfl)) pa_nil)))) (pw_or1 (pt_not (pt_val (pe_df d_is_amount hr (pa_cons (pe_ix ix_tup (pv 4) pe_int (fun _ _ => rfl)) pa_nil)))))))))
        (pss_one ps_never)
        pss_nil)
      (pss_cons (ps_if (pt_cmp (pc_din hu (pe_ix ix_tup (pv 4) pe_int (fun _ _ => rfl)) (pv 2)))
        (pss_one ps_never)
        pss_nil)
      (pss_one (ps_dput hu (pv 2) (pe_ix ix_tup (pv 4) pe_int (fun _ _ => rfl)) (pe_ix ix_tup (pv 4) pe_int (fun _ _ => rfl)) rfl)))))
    (pss_one (ps_fld (pv 0) (pv 2) rfl))))), ?_⟩
  have hlt : ts.length = ns.length := Paired.length hts
  refine ⟨.ref l, rfl, .ref l, .ty "list", .type "list", .type "list", true, rfl, .ty _, .base (.lst hl), kit_ty (by decide +kernel), true, rfl, ?_⟩
  refine ⟨.ref l, rfl, l, _, rfl, .inl (SqL.of hl), _, _, rfl, rfl, false, ?_, fun d nd => ?_⟩
  · refine bl_f ?_
    have := nok.len
    rw [List.length_map]
    omega
  refine ⟨.ref l, rfl, l, _, rfl, SqL.of (new_get nd hl), ?_⟩
  refine for_it (walk_enum (xs := ts.map V.ref)) (fun i σ H' => (∃ x3 x4, σ = [some (.ref a), some (.ref l), some (.ref d), x3, x4]) ∧ Same H H' ∧ H' d = some (dI (ns.take i) t)) ?_ ?_ ?_ ?_
  · exact ⟨⟨_, _, rfl⟩, Same.new Same.rfl nd, upd_same⟩
  · rintro i σ H1 _ ⟨_, k, _⟩
    exact SqL.of (k _ _ hl)
  · rintro i v σ H1 H2 hi ⟨⟨x3, x4, rfl⟩, k, hd⟩ ⟨u, x, y, rfl, nu, rfl, hx, hy⟩
    obtain ⟨ti, hti, rfl⟩ := map_ref_get hy
    obtain ⟨nm, hni, hrun⟩ := L2.paired_get hts hti
    have hmem := List.mem_of_getElem? hni
    have kt : Same H (upd H1 u (.tup [x, .ref ti])) := Same.new k nu
    have sq : ∀ {H'}, Same H H' → SqT K H' ti [.str nm, .int (t nm)] := fun k => SqT.of (k _ _ hrun)
    have hd2 := new_get (u := .tup [x, .ref ti]) nu hd
    refine ⟨u, [x, .ref ti], rfl, SqT.of upd_same, rfl, x, [.ref ti], rfl, .ref ti, [], rfl, rfl, ?_⟩
    refine ⟨.ref ti, rfl, .ref ti, .ty "tuple", .type "tuple", .type "tuple", true, rfl, .ty _, .base (.tup (kt _ _ hrun)), kit_ty (by decide +kernel), true, rfl, ?_⟩
    refine ⟨.ref ti, rfl, ti, _, rfl, .inr (sq kt), rfl, false, rfl, ?_⟩
    refine ⟨.ref ti, rfl, ti, _, 0, _, rfl, rfl, sq kt, rfl, nm, rfl, nok.ok _ hmem, fun H3 k3 => ⟨true, rfl, ?_⟩⟩
    have k4 := Same.tr kt k3
    refine ⟨.ref ti, rfl, ti, _, 1, _, rfl, rfl, sq k4, rfl, t nm, rfl, (am _ hmem).1, (am _ hmem).2, true, rfl, ?_⟩
    have hd3 := k3 _ _ hd2
    have nin : nm ∉ ns.take i := nd_take nok.nd hni
    refine ⟨.ref ti, rfl, ti, _, 0, _, rfl, rfl, sq k4, rfl, .ref d, rfl, d, none, rfl, dN_no hd3 nin, false, rfl, ?_⟩
    have hlen : (ns.take i).length < sizeLine := lt_sz (by rw [List.length_take]; have := nok.len; omega)
    have hp := dI_new (n := t nm) hd3 nin hlen
    have e : dI (ns.take i ++ [nm]) (up t nm (t nm)) = dI (ns.take (i + 1)) t := by
      rw [take_snoc hni]
      exact dI_congr fun z _ => by
        unfold up
        split
        · rename_i e; rw [e]
        · rfl
    rw [e] at hp
    exact ⟨.ref ti, rfl, ti, _, 1, _, rfl, rfl, sq k4, rfl, .ref d, rfl, .ref ti, rfl, ti, _, 0, _, rfl, rfl, sq k4, rfl, d, _, rfl, hp, ⟨_, _, rfl⟩, Same.wrN k4 nd, upd_same⟩
  · rintro σ H1 ⟨⟨x3, x4, rfl⟩, k, hd⟩
    rw [List.take_of_length_le (by rw [List.length_map]; omega)] at hd
    refine ⟨.ref d, rfl, .ref a, rfl, a, _, _, _, rfl, k _ _ ha, T.clP, T.ntP, by decide, ?_⟩
    have nda : d ≠ a := fun z => by rw [z, ha] at nd; cases nd
    exact q _ d (Kp.wr (Same.kp k) (List.mem_singleton.mpr rfl)) upd_same (by rw [upd_ne nda]; exact hd) nd
def p_purses_with (K : PySem.W.Frag) : Sp := fun vs H Q _ => ∃ d ns t, vs = [.ref d] ∧ H d = some (dI ns t) ∧ NamesOk ns ∧ AmOk ns t ∧ ∀ H' a, Same H H' → H a = none → PurAt K H' a ns t → Q (.ref a) H'
abbrev s_purses_with : Stmt := top 27
abbrev N_purses_with : List Str := ["table", "player"]
theorem sc_purses_with : FnScope N_purses_with ["table"] (defScope s_purses_with) := ⟨rfl, rfl, rfl, by decide +kernel, rfl, by decide +kernel, by decide +kernel⟩
theorem ok_purses_with (F : FnP K "purses_with" "purses_with" s_purses_with f fd) (T : Txt K mg) (d_Purses : Dk P w K mg base 3 "Purses" (cP K) ["self", "items"] (p_Purses_init K)) : FnOk P w K mg base CX0 5 f fd ["table"] (p_purses_with K) := by
  refine ok0 F sc_purses_with (fun _ _ _ _ h => by obtain ⟨a, l, dx, rfl, _⟩ := h; rfl) fun cdv A outer s H vs Q E hr h => ?_
  obtain ⟨d, ns, t, rfl, hd, nok, am, q⟩ := h
  have hu := hu_of hr
  refine ⟨_, (pss_one (ps_ret (pe_dk d_Purses hr (pa_cons (pe_lock (pe_lc (own := [("player", 1)]) (g := gName 1) (tt := tYes) rfl sc_purses_with.nd (pi_keys (pv 0)) (blkOk_by (own := [("player", 1)]) (N := N_purses_with) (sc := defScope s_purses_with) (by decide +kernel)) (fun _ _ _ _ _ => (pg_name (i := 1) sc_purses_with.nd rfl (Or.inl rfl))) (fun _ _ _ _ _ => pts_nil) (fun _ _ _ _ _ => (pe_tup (pa_cons (pv 1) (pa_cons (pe_dget hu (pv 0) (pv 1) (fun _ _ => rfl)) pa_nil)))))) pa_nil)))), ?_⟩
  refine ⟨d, _, hd, trivial, fun od => ?_⟩
  refine ⟨.ref d, rfl, d, od, rfl, .inl ⟨_, upd_same, fun D nD => ?_⟩⟩
  have nD0 : H D = none := by rw [upd_ne (fun z => by rw [z, upd_same] at nD; cases nD)] at nD; exact nD
  have ndD : d ≠ D := ne_of_none hd nD0
  have hdz : upd H d (.frz od (dI ns t)) d = some (.frz od (dI ns t)) := upd_same
  refine lc_it walk_keys (fun i H' => Same (upd H d (.frz od (dI ns t))) H' ∧ ∃ us : List Addr, H' D = some (.lst (us.map V.ref)) ∧ Paired (fun u x => H' u = some (.tup (cE t x))) us (ns.take i)) ?_ ?_ ?_ ?_
  · exact ⟨Same.new Same.rfl nD, [], upd_same, .nil⟩
  · rintro i H1 _ ⟨k, _⟩
    exact k _ _ hdz
  · rintro i v H1 H2 hi ⟨k, us, hD, hus⟩ ⟨rfl, key, v2, hkv, rfl⟩
    obtain ⟨x, hx, rfl, rfl⟩ := nm_at hkv
    have hmem := List.mem_of_getElem? hx
    refine ⟨rfl, .str x, rfl, .ref d, rfl, .str x, rfl, d, _, rfl, dN_getZ (k _ _ hdz) hmem, by show 2 ≤ sizeLine; decide, fun u nu => ?_⟩
    obtain ⟨g1, g2, g3⟩ := grow (c := cE t) x hD hus nu
    refine ⟨_, g1, ?_, Same.wrN (Same.new k nu) nD, us ++ [u], g2, by rw [take_snoc hx]; exact g3⟩
    rw [List.length_map]
    have := Paired.length hus
    rw [List.length_take] at this
    have := nok.len
    exact lt_sz (by omega)
  · rintro H1 ⟨k, us, hD, hus⟩
    rw [List.take_of_length_le (by rw [length_mkT]; exact Nat.le_refl _)] at hus
    have kk := lock_same hd k
    refine ⟨k _ _ hdz, fun x dx nx ndx nex => ?_⟩
    have up1 : ∀ {b o}, H1 b = some o → b ≠ d → upd (upd (upd H1 d (dI ns t)) dx (.own x)) x (.ins (cP K) dx []) b = some o := fun {b o} e nb => by
      have e2 : upd H1 d (dI ns t) b = some o := by rw [upd_ne nb]; exact e
      rw [upd_ne (ne_of_none e2 nx), upd_ne (ne_of_none e2 ndx)]; exact e2
    refine ⟨x, D, dx, ns, t, rfl, upd_same, ⟨us, up1 hD (Ne.symm ndD), Paired.mapP hus fun u y z => up1 z fun e => ?_⟩, nok, am, fun H2 d2 k2 h1 h2 n2 => ⟨rfl, ?_⟩⟩
    · have q0 := k _ _ hdz
      rw [e, q0] at z
      cases z
    have k3 : Same H H2 := Same.tr kk (mk_same nx ndx k2)
    have nx0 : H x = none := by
      cases e : H x with
      | none => rfl
      | some o => rw [kk _ _ e] at nx; cases nx
    exact q _ x k3 nx0 ⟨dx, d2, h1, h2⟩
end
end Ep

set_option Elab.async false
set_option linter.all false
set_option maxRecDepth 100000
set_option maxHeartbeats 4000000
/-! ## the methods of Purses, lot_of -/
namespace Ep
open PySem PySem.Spec PyProof.Rows L2
theorem none_of {H H' : Hp} {a : Addr} (k : Same H H') (h : H' a = none) : H a = none := by
  cases e : H a with
  | none => rfl
  | some o => rw [k _ _ e] at h; cases h
theorem mkT_nd {ns : List Str} (len : ns.length ≤ 24) : ns.length < 64 := by omega
section
variable {P : Program} {w : World} {K : PySem.W.Frag} {mg : Str → Option Value} {base : Heap} {f : Addr} {fd : FuncData}
def p_players (K : PySem.W.Frag) : Sp := fun vs H Q _ => ∃ a ns t, vs = [.ref a] ∧ PurAt K H a ns t ∧ NamesOk ns ∧ ∀ H' l (ys : List Str), Same H H' → ys.Perm ns → Asc ys → H l = none → H' l = some (.lst (ys.map V.str)) → Q (.ref l) H'
def p_entries (K : PySem.W.Frag) : Sp := fun vs H Q _ => ∃ a ns t, vs = [.ref a] ∧ PurAt K H a ns t ∧ NamesOk ns ∧ ∀ H' l (ys : List Str), Same H H' → ys.Perm ns → Asc ys → H l = none → EntsAt H' l ys t → Q (.ref l) H'
def p_tickets (K : PySem.W.Frag) : Sp := fun vs H Q _ => ∃ a ns t x, vs = [.ref a, .str x] ∧ PurAt K H a ns t ∧ x ∈ ns ∧ Q (.int (t x)) H
def p_total (K : PySem.W.Frag) : Sp := fun vs H Q _ => ∃ a ns t l xs, vs = [.ref a, .ref l] ∧ PurAt K H a ns t ∧ H l = some (.lst (xs.map V.str)) ∧ (∀ x ∈ xs, x ∈ ns) ∧ xs.length ≤ 24 ∧ ∀ H', Same H H' → Q (.int (su xs t)) H'
def p_eqP (K : PySem.W.Frag) : Sp := fun vs H Q _ => ∃ a b ns t ns' t', vs = [.ref a, .ref b] ∧ PurAt K H a ns t ∧ PurAt K H b ns' t' ∧ ns.Perm ns' ∧ (∀ x ∈ ns, t x = t' x) ∧ Q (.bl true) H
abbrev s_Purses_players : Stmt := inClass (top 28) 1
abbrev N_Purses_players : List Str := ["self"]
theorem sc_Purses_players : FnScope N_Purses_players ["self"] (defScope s_Purses_players) := ⟨rfl, rfl, rfl, by decide +kernel, rfl, by decide +kernel, by decide +kernel⟩
theorem ok_Purses_players (F : FnP K "players" "Purses.players" s_Purses_players f fd) (T : Txt K mg) : FnOk P w K mg base CX0 1 f fd ["self"] (p_players K) := by
  refine ok0 F sc_Purses_players (fun _ _ _ _ h => by obtain ⟨a, l, dx, rfl, _⟩ := h; rfl) fun cdv A outer s H vs Q E hr h => ?_
  obtain ⟨a, ns, t, rfl, ⟨dx, d, ha, hd⟩, nok, q⟩ := h
  refine ⟨_, (pss_one (ps_ret (pe_callB (call_sortedD rfl) (by rfl) T.sorted bt_sorted (pa_cons (pe_fld (pv 0) rfl) pa_nil)))), ?_⟩
  exact ⟨.ref a, rfl, a, _, _, _, _, rfl, ha, T.clP, T.ntP, rfl, d, _, ns, rfl, .inl hd, keys_mk, mkT_nd nok.len, fun ys p pm so np => q _ p ys (Same.new Same.rfl np) pm (asc_of so (pm.nodup_iff.mpr nok.nd)) np upd_same⟩
abbrev s_Purses_entries : Stmt := inClass (top 28) 2
abbrev N_Purses_entries : List Str := ["self", "player"]
theorem sc_Purses_entries : FnScope N_Purses_entries ["self"] (defScope s_Purses_entries) := ⟨rfl, rfl, rfl, by decide +kernel, rfl, by decide +kernel, by decide +kernel⟩
theorem ok_Purses_entries (F : FnP K "entries" "Purses.entries" s_Purses_entries f fd) (T : Txt K mg) : FnOk P w K mg base CX0 1 f fd ["self"] (p_entries K) := by
  refine ok0 F sc_Purses_entries (fun _ _ _ _ h => by obtain ⟨a, l, dx, rfl, _⟩ := h; rfl) fun cdv A outer s H vs Q E hr h => ?_
  obtain ⟨a, ns, t, rfl, ⟨dx, d, ha, hd⟩, nok, q⟩ := h
  have hu := hu_of hr
  refine ⟨_, (pss_one (ps_ret (pe_lc (own := [("player", 1)]) (g := gName 1) (tt := tYes) rfl sc_Purses_entries.nd (pi_list (pe_callB (call_sortedD rfl) (by rfl) T.sorted bt_sorted (pa_cons (pe_fld (pv 0) rfl) pa_nil))) (blkOk_by (own := [("player", 1)]) (N := N_Purses_entries) (sc := defScope s_Purses_entries) (by decide +kernel)) (fun _ _ _ _ _ => (pg_name (i := 1) sc_Purses_entries.nd rfl (Or.inl rfl))) (fun _ _ _ _ _ => pts_nil) (fun _ _ _ _ _ => (pe_tup (pa_cons (pv 1) (pa_cons (pe_dget hu (pe_fldK K (pv 0) rfl) (pv 1) (fun _ _ => rfl)) pa_nil))))))), ?_⟩
  refine ⟨.ref a, rfl, a, _, _, _, _, rfl, ha, T.clP, T.ntP, rfl, d, _, ns, rfl, .inl hd, keys_mk, mkT_nd nok.len, fun ys p pm so np => ?_⟩
  refine ⟨p, rfl, ⟨_, SqL.of upd_same⟩, fun D nD => ?_⟩
  have npD : p ≠ D := fun z => by rw [z, upd_same] at nD; cases nD
  have nD0 : H D = none := by rw [upd_ne (Ne.symm npD)] at nD; exact nD
  refine lc_it (walk_list (xs := ys.map V.str)) (fun i H' => Same H H' ∧ H' p = some (.lst (ys.map V.str)) ∧ ∃ us : List Addr, H' D = some (.lst (us.map V.ref)) ∧ Paired (fun u x => H' u = some (.tup (cE t x))) us (ys.take i)) ?_ ?_ ?_ ?_
  · exact ⟨Same.new (Same.new Same.rfl np) nD, new_get nD upd_same, [], upd_same, .nil⟩
  · rintro i H1 _ ⟨_, h, _⟩
    exact SqL.of h
  · rintro i v H1 H2 hi ⟨k, hp, us, hD, hus⟩ ⟨rfl, hv⟩
    obtain ⟨x, hx, rfl⟩ := map_str_get hv
    have hmem := pm.mem_iff.mp (List.mem_of_getElem? hx)
    refine ⟨rfl, .str x, rfl, .ref a, rfl, a, _, _, _, _, rfl, k _ _ ha, T.clP, T.ntP, rfl, .str x, rfl, d, _, rfl, dN_get (k _ _ hd) hmem, by show 2 ≤ sizeLine; decide, fun u nu => ?_⟩
    obtain ⟨g1, g2, g3⟩ := grow (c := cE t) x hD hus nu
    refine ⟨_, g1, ?_, Same.wrN (Same.new k nu) nD0, ?_, us ++ [u], g2, by rw [take_snoc hx]; exact g3⟩
    · rw [List.length_map]
      have := Paired.length hus
      rw [List.length_take] at this
      have := nok.len
      have := pm.length_eq
      exact lt_sz (by omega)
    · rw [upd_ne npD]; exact new_get nu hp
  · rintro H1 ⟨k, hp, us, hD, hus⟩
    rw [List.take_of_length_le (by rw [List.length_map]; exact Nat.le_refl _)] at hus
    exact q _ D ys k pm (asc_of so (pm.nodup_iff.mpr nok.nd)) nD0 ⟨us, hD, hus⟩
abbrev s_Purses_tickets : Stmt := inClass (top 28) 3
abbrev N_Purses_tickets : List Str := ["self", "player"]
theorem sc_Purses_tickets : FnScope N_Purses_tickets ["self", "player"] (defScope s_Purses_tickets) := ⟨rfl, rfl, rfl, by decide +kernel, rfl, by decide +kernel, by decide +kernel⟩
theorem ok_Purses_tickets (F : FnP K "tickets" "Purses.tickets" s_Purses_tickets f fd) (T : Txt K mg) : FnOk P w K mg base CX0 1 f fd ["self", "player"] (p_tickets K) := by
  refine ok0 F sc_Purses_tickets (fun _ _ _ _ h => by obtain ⟨a, l, dx, x, rfl, _⟩ := h; rfl) fun cdv A outer s H vs Q E hr h => ?_
  obtain ⟨a, ns, t, x, rfl, ⟨dx, d, ha, hd⟩, hx, q⟩ := h
  have hu := hu_of hr
  refine ⟨_, (pss_cons (ps_if (pt_cmp (pc_dnotin hu (pv 1) (pe_fld (pv 0) rfl)))
      (pss_one ps_never)
      pss_nil)
    (pss_one (ps_ret (pe_dget hu (pe_fld (pv 0) rfl) (pv 1) (fun _ _ => rfl))))), ?_⟩
  refine ⟨.str x, rfl, .ref a, rfl, a, _, _, _, _, rfl, ha, T.clP, T.ntP, rfl, d, _, rfl, dN_get hd hx, false, rfl, ?_⟩
  exact ⟨.ref a, rfl, a, _, _, _, _, rfl, ha, T.clP, T.ntP, rfl, .str x, rfl, d, _, rfl, dN_get hd hx, q⟩
abbrev s_Purses_total : Stmt := inClass (top 28) 4
abbrev N_Purses_total : List Str := ["self", "players", "player"]
theorem sc_Purses_total : FnScope N_Purses_total ["self", "players"] (defScope s_Purses_total) := ⟨rfl, rfl, rfl, by decide +kernel, rfl, by decide +kernel, by decide +kernel⟩
theorem ok_Purses_total (F : FnP K "total" "Purses.total" s_Purses_total f fd) (T : Txt K mg) : FnOk P w K mg base CX0 1 f fd ["self", "players"] (p_total K) := by
  refine ok0 F sc_Purses_total (fun _ _ _ _ h => by obtain ⟨a, l, dx, x, y, rfl, _⟩ := h; rfl) fun cdv A outer s H vs Q E hr h => ?_
  obtain ⟨a, ns, t, l, xs, rfl, ⟨dx, d, ha, hd⟩, hl, hxs, hlen, q⟩ := h
  have hu := hu_of hr
  refine ⟨_, (pss_one (ps_ret (pe_callB (cr_sum rfl) (by rfl) T.sum bt_sum (pa_cons (pe_lc (own := [("player", 2)]) (g := gName 2) (tt := tYes) rfl sc_Purses_total.nd (pi_list (pv 1)) (blkOk_by (own := [("player", 2)]) (N := N_Purses_total) (sc := defScope s_Purses_total) (by decide +kernel)) (fun _ _ _ _ _ => (pg_name (i := 2) sc_Purses_total.nd rfl (Or.inl rfl))) (fun _ _ _ _ _ => pts_nil) (fun _ _ _ _ _ => (pe_dget hu (pe_fldK K (pv 0) rfl) (pv 2) (fun _ _ => rfl)))) pa_nil)))), ?_⟩
  refine ⟨.ref l, rfl, l, rfl, ⟨_, SqL.of hl⟩, fun D nD => ?_⟩
  refine lc_it (walk_list (xs := xs.map V.str)) (fun i H' => Same H H' ∧ H' D = some (.lst (((xs.take i).map t).map V.int))) ?_ ?_ ?_ ?_
  · exact ⟨Same.new Same.rfl nD, upd_same⟩
  · rintro i H1 _ ⟨k, _⟩
    exact SqL.of (k _ _ hl)
  · rintro i v H1 H2 hi ⟨k, hD⟩ ⟨rfl, hv⟩
    obtain ⟨x, hx, rfl⟩ := map_str_get hv
    have hmem := hxs _ (List.mem_of_getElem? hx)
    refine ⟨rfl, .ref a, rfl, a, _, _, _, _, rfl, k _ _ ha, T.clP, T.ntP, rfl, .str x, rfl, d, _, rfl, dN_get (k _ _ hd) hmem, _, hD, ?_, Same.wrN k nD, ?_⟩
    · rw [List.length_map, List.length_map, List.length_take]
      exact lt_sz (by omega)
    · rw [upd_same, take_snoc hx, List.map_append, List.map_append]; rfl
  · rintro H1 ⟨k, hD⟩
    rw [List.take_of_length_le (by rw [List.length_map]; exact Nat.le_refl _)] at hD
    exact ⟨D, _, rfl, SqL.of hD, q _ k⟩
abbrev s_Purses___eq__ : Stmt := inClass (top 28) 7
abbrev N_Purses___eq__ : List Str := ["self", "other"]
theorem sc_Purses___eq__ : FnScope N_Purses___eq__ ["self", "other"] (defScope s_Purses___eq__) := ⟨rfl, rfl, rfl, by decide +kernel, rfl, by decide +kernel, by decide +kernel⟩
theorem ok_Purses___eq__ (F : FnP K "__eq__" "Purses.__eq__" s_Purses___eq__ f fd) (T : Txt K mg) : FnOk P w K mg base CX0 1 f fd ["self", "other"] (p_eqP K) := by
  refine ok0 F sc_Purses___eq__ (fun _ _ _ _ h => by obtain ⟨a, l, dx, x, y, z, rfl, _⟩ := h; rfl) fun cdv A outer s H vs Q E hr h => ?_
  obtain ⟨a, b, ns, t, ns', t', rfl, ⟨dx, d, ha, hd⟩, ⟨dx', d', hb, hd'⟩, pm, ht, q⟩ := h
  refine ⟨_, (pss_one (ps_ret (pe_and (pe_callB call_isi (by rfl) T.isinstance bt_isinstance (pa_cons (pv 1) (pa_cons (pe_glob (v := .ref (cP K)) (by rfl) T.mgP rfl) pa_nil))) (pe_one (pe_cmpR (op_eq_dictA hr.units0) (pe_fld (pv 0) rfl) (pe_fld (pv 1) rfl) (nomark _)))))), ?_⟩
  refine ⟨.ref b, rfl, .ref b, .ref (cP K), .ref (cP K), .ref (cP K), true, rfl, .own _, .base (.ins hb T.isP.cl T.isP.ha T.isP.hn T.isP.htk T.isP.hm), T.isP.me, true, rfl, ?_⟩
  refine ⟨.ref a, rfl, a, _, _, _, _, rfl, ha, T.clP, T.ntP, rfl, .ref b, rfl, b, _, _, _, _, rfl, hb, T.clP, T.ntP, rfl, d, d', _, _, rfl, rfl, hd, hd', ?_, ?_, q⟩
  · rw [length_mkT, length_mkT]; exact pm.length_eq
  · intro p hp
    obtain ⟨x, hx, rfl⟩ := List.mem_map.mp hp
    refine ⟨?_, rfl⟩
    rw [valV_mk kS_inj (pm.mem_iff.mp hx)]
    show some (V.int (t' x)) = some (V.int (t x))
    rw [ht x hx]
/-- lot_of(timetable) -/
def p_lot_of (K : PySem.W.Frag) : Sp := fun vs H Q _ => ∃ l rs, vs = [.ref l] ∧ RunsAt H l rs ∧ rs.length ≤ 1000 ∧ (∀ p, totL rs p ≤ 10 ^ 24) ∧ ∀ H' a, Same H H' → H a = none → LotAt K H' a (tabL rs) (totL rs) → Q (.ref a) H'
abbrev s_lot_of : Stmt := top 30
abbrev N_lot_of : List Str := ["timetable", "table", "payer", "other", "times", "pair"]
theorem sc_lot_of : FnScope N_lot_of ["timetable"] (defScope s_lot_of) := ⟨rfl, rfl, rfl, by decide +kernel, rfl, by decide +kernel, by decide +kernel⟩
theorem ok_lot_of (F : FnP K "lot_of" "lot_of" s_lot_of f fd) (T : Txt K mg) (d_pair_of : Df P w K mg base CX0 1 "pair_of" ["one", "other"] p_pair_of) (d_with_table : Df P w K mg base CX0 6 "with_table" ["table"] (p_with_table K)) : FnOk P w K mg base CX0 7 f fd ["timetable"] (p_lot_of K) := by
  refine ok0 F sc_lot_of (fun _ _ _ _ h => by obtain ⟨a, l, rfl, _⟩ := h; rfl) fun cdv A outer s H vs Q E hr h => ?_
  obtain ⟨l, rs, rfl, ⟨ts, hl, hts⟩, hlen, hle, q⟩ := h
  have hu := hu_of hr
  obtain ⟨tT, gMOST_TIMES⟩ := T.MOST_TIMES
  refine ⟨_, (pss_cons (ps_set (i := 1) sc_lot_of.nd rfl (Or.inr rfl) pe_dnewT)
    (pss_cons (ps_for PassesOwn.never rfl (pi_list (pv 0)) (pg_tup rfl (pgs_cons (pg_name (i := 2) sc_lot_of.nd rfl (Or.inl rfl)) (pgs_cons (pg_name (i := 3) sc_lot_of.nd rfl (Or.inl rfl)) (pgs_cons (pg_name (i := 4) sc_lot_of.nd rfl (Or.inl rfl)) pgs_nil))))
      (pss_cons (ps_set (i := 5) sc_lot_of.nd rfl (Or.inl rfl) (pe_df d_pair_of hr (pa_cons (pv 2) (pa_cons (pv 3) pa_nil))))
      (pss_one (ps_dput hu (pv 1) (pv 5) (pe_op op_add (pe_dget2 hu (pv 1) (pv 5) pe_int ⟨rfl, rfl, rfl, rfl⟩) (pv 4)) rfl))))
    (pss_cons (ps_if (pt_val (pe_callB (cr_any rfl) (by rfl) T.any bt_any (pa_cons (pe_lock (pe_lc (own := [("pair", 5)]) (g := gName 5) (tt := tYes) rfl sc_lot_of.nd (pi_keys (pv 1)) (blkOk_by (own := [("pair", 5)]) (N := N_lot_of) (sc := defScope s_lot_of) (by decide +kernel)) (fun _ _ _ _ _ => (pg_name (i := 5) sc_lot_of.nd rfl (Or.inl rfl))) (fun _ _ _ _ _ => pts_nil) (fun _ _ _ _ _ => (pe_cmpR op_gt (pe_dget hu (pv 1) (pv 5) (fun _ _ => rfl)) (pe_glob (v := .int (10 ^ 24)) (by rfl) gMOST_TIMES ⟨_, rfl⟩) (nomark _))))) pa_nil)))
      (pss_one ps_never)
      pss_nil)
    (pss_one (ps_ret (pe_df d_with_table hr (pa_cons (pv 1) pa_nil))))))), ?_⟩
  intro d nd
  have hlt : ts.length = rs.length := Paired.length hts
  refine ⟨.ref l, rfl, l, rfl, ⟨_, SqL.of (new_get nd hl)⟩, ?_⟩
  refine for_it (walk_list (xs := ts.map V.ref)) (fun i σ H' => (∃ x2 x3 x4 x5, σ = [some (.ref l), some (.ref d), x2, x3, x4, x5]) ∧ Same H H' ∧ H' d = some (dP (tabL (rs.take i)) (totL (rs.take i)))) ?_ ?_ ?_ ?_
  · exact ⟨⟨_, _, _, _, rfl⟩, Same.new Same.rfl nd, upd_same⟩
  · rintro i σ H1 _ ⟨_, k, _⟩
    exact SqL.of (k _ _ hl)
  · rintro i v σ H1 H2 hi ⟨⟨x2, x3, x4, x5, rfl⟩, k, hd⟩ ⟨rfl, hv⟩
    obtain ⟨ti, hti, rfl⟩ := map_ref_get hv
    obtain ⟨r, hri, hrun⟩ := L2.paired_get hts hti
    obtain ⟨y1, y2, m⟩ := r
    refine ⟨ti, [.str y1, .str y2, .int m], rfl, SqT.of (k _ _ hrun), rfl, _, _, rfl, _, _, rfl, _, _, rfl, rfl, ?_⟩
    refine ⟨.str y1, rfl, .str y2, rfl, y1, y2, rfl, fun p np => ?_⟩
    have k6 : Same H (upd H2 p (.tup [.str (mn y1 y2), .str (mx y1 y2)])) := Same.new k np
    have hd6 := new_get (u := .tup [.str (mn y1 y2), .str (mx y1 y2)]) np hd
    have tw : TwoAt (upd H2 p (.tup [.str (mn y1 y2), .str (mx y1 y2)])) p (kPr (y1, y2, m)) := upd_same
    obtain ⟨o, hg, ho⟩ := dP_getD hd6 tw
    have hp2 := dP_add (r := (y1, y2, m)) hd6 tw (lt_sz (by rw [List.length_take]; omega))
    rw [← take_snoc hri] at hp2
    exact ⟨.ref d, rfl, d, rfl, isD_P hd6, .ref p, rfl, o, hg, .int m, rfl, totL (rs.take i) (kPr (y1, y2, m)), m, ho, rfl, .ref d, rfl, .ref p, rfl, d, _, rfl, hp2, ⟨_, _, _, _, rfl⟩, Same.wrN k6 nd, upd_same⟩
  · rintro σ H1 ⟨⟨x2, x3, x4, x5, rfl⟩, k, hd⟩
    rw [List.take_of_length_le (by rw [List.length_map]; omega)] at hd
    refine ⟨d, _, hd, trivial, fun od => ?_⟩
    refine ⟨.ref d, rfl, d, od, rfl, .inr ⟨_, upd_same, fun D nD => ?_⟩⟩
    have nD1 : H1 D = none := by rw [upd_ne (fun z => by rw [z, upd_same] at nD; cases nD)] at nD; exact nD
    have ndD : d ≠ D := ne_of_none hd nD1
    have hdz : upd H1 d (.frz od (dP (tabL rs) (totL rs))) d = some (.frz od (dP (tabL rs) (totL rs))) := upd_same
    refine lc_it walk_keysT (fun i H' => Same (upd H1 d (.frz od (dP (tabL rs) (totL rs)))) H' ∧ H' D = some (.lst (List.replicate i (.bl false)))) ?_ ?_ ?_ ?_
    · exact ⟨Same.new Same.rfl nD, upd_same⟩
    · rintro i H2 _ ⟨k2, _⟩
      exact k2 _ _ hdz
    · rintro i v H2 H3 hi ⟨k2, hD⟩ ⟨rfl, key, v2, b, hkv, rfl, hb⟩
      unfold mkT at hkv
      rw [List.getElem?_map] at hkv
      cases e : (tabL rs)[i]? with
      | none => rw [e] at hkv; cases hkv
      | some p =>
        rw [e] at hkv
        have h2 := Option.some.inj hkv
        have e1 : kP p = key := congrArg Prod.fst h2
        rw [← e1] at hb
        refine ⟨rfl, .ref d, rfl, .ref b, rfl, d, _, rfl, dP_getZ (k2 _ _ hdz) hb (List.mem_of_getElem? e), _, _, rfl, rfl, _, hD, ?_, Same.wrN k2 nD, ?_⟩
        · rw [List.length_replicate]
          rw [length_mkT] at hi
          have hl2 : (tabL rs).length ≤ rs.length := length_tabK rs
          exact lt_sz (by omega)
        · rw [upd_same, List.replicate_succ']
          show some (HO.lst (_ ++ [V.bl (decide (10 ^ 24 < totL rs p))])) = _
          rw [bl_f (Int.not_lt.mpr (hle p))]
    · rintro H2 ⟨k2, hD⟩
      have k3 := lock_same hd k2
      have hD2 : upd H2 d (dP (tabL rs) (totL rs)) D = some (.lst ((List.replicate (mkT kP (tabL rs) fun p => V.int (totL rs p)).length false).map V.bl)) := by
        rw [upd_ne (Ne.symm ndD), hD, List.map_replicate]
      refine ⟨k2 _ _ hdz, D, _, rfl, SqL.of hD2, false, ?_, ?_⟩
      · rw [show ∀ n, (List.replicate n false).any id = false from fun n => by simp]
      · refine ⟨.ref d, rfl, d, _, _, rfl, upd_same, fun H4 a k4 na hlot => q _ a (Same.tr (Same.tr k k3) k4) ?_ hlot⟩
        exact none_of k (none_of k3 na)
end
end Ep

set_option Elab.async false
set_option linter.all false
set_option maxRecDepth 100000
set_option maxHeartbeats 4000000
/-! ## payments of a table: each pair's times paid by one or the other -/
namespace Ep
open PySem PySem.Spec PyProof.Rows L2
def sw (q : Str × Str) : Str × Str := (q.2, q.1)
def both (ps : List (Str × Str)) : List (Str × Str) := ps.flatMap fun p => [(p.1, p.2), (p.2, p.1)]
def spentQ (qs : List (Str × Str)) (f : Str × Str → Int) (x : Str) : Int := su qs fun q => if q.1 = x then f q else 0
def eT (ps : List (Str × Str)) (T : Str × Str → Int) (S : Str → Bool) : Int := su ps fun p => if (S p.1 && S p.2) = true then T p else 0
structure LotOk (ns : List Str) (ps : List (Str × Str)) (T : Str × Str → Int) : Prop where
  nd : ps.Nodup
  lt : ∀ p ∈ ps, LtS p.1 p.2
  m1 : ∀ p ∈ ps, p.1 ∈ ns
  m2 : ∀ p ∈ ps, p.2 ∈ ns
  pos : ∀ p ∈ ps, 1 ≤ T p
  top : ∀ p ∈ ps, T p ≤ 10 ^ 24
  len : ps.length ≤ 500
structure Paid (ps : List (Str × Str)) (T : Str × Str → Int) (qs : List (Str × Str)) (f : Str × Str → Int) : Prop where
  perm : qs.Perm (both ps)
  nn : ∀ q ∈ qs, 0 ≤ f q
  sum : ∀ p ∈ ps, f p + f (sw p) = T p
theorem both_cons (p : Str × Str) (ps : List (Str × Str)) : both (p :: ps) = p :: sw p :: both ps := rfl
theorem mem_both {ps : List (Str × Str)} {q : Str × Str} : q ∈ both ps ↔ q ∈ ps ∨ sw q ∈ ps := by
  induction ps with
  | nil => exact ⟨fun h => absurd h List.not_mem_nil, fun h => h.elim (fun h => absurd h List.not_mem_nil) fun h => absurd h List.not_mem_nil⟩
  | cons p ps ih =>
    rw [both_cons, List.mem_cons, List.mem_cons, ih, List.mem_cons, List.mem_cons]
    have e : q = sw p ↔ sw q = p := ⟨fun h => by rw [h]; rfl, fun h => by rw [← h]; rfl⟩
    rw [e]
    constructor
    · rintro (h | h | h | h)
      · exact .inl (.inl h)
      · exact .inr (.inl h)
      · exact .inl (.inr h)
      · exact .inr (.inr h)
    · rintro ((h | h) | (h | h))
      · exact .inl h
      · exact .inr (.inr (.inl h))
      · exact .inr (.inl h)
      · exact .inr (.inr (.inr h))
theorem nodup_both {ps : List (Str × Str)} (nd : ps.Nodup) (lt : ∀ p ∈ ps, LtS p.1 p.2) : (both ps).Nodup := by
  induction ps with
  | nil => exact List.nodup_nil
  | cons p ps ih =>
    obtain ⟨n1, n2⟩ := List.nodup_cons.mp nd
    have l0 := lt p List.mem_cons_self
    have lt' : ∀ q ∈ ps, LtS q.1 q.2 := fun q hq => lt q (List.mem_cons_of_mem _ hq)
    have a1 : p ∉ both ps := fun h => by
      rcases mem_both.mp h with h | h
      · exact n1 h
      · exact lt_asym l0 (lt' _ h)
    have a2 : sw p ∉ both ps := fun h => by
      rcases mem_both.mp h with h | h
      · exact lt_asym l0 (lt' _ h)
      · exact n1 h
    have a3 : p ≠ sw p := fun e => ltS_irr (by have q := l0; rw [congrArg Prod.fst e] at q; exact q)
    rw [both_cons]
    refine List.nodup_cons.mpr ⟨fun h => ?_, List.nodup_cons.mpr ⟨a2, ih n2 lt'⟩⟩
    rcases List.mem_cons.mp h with h | h
    · exact a3 h
    · exact a1 h
theorem su_both (ps : List (Str × Str)) (g : Str × Str → Int) : su (both ps) g = su ps fun p => g p + g (sw p) := by
  induction ps with
  | nil => rfl
  | cons p ps ih => rw [both_cons, su_cons, su_cons, su_cons, ih]; omega
theorem length_both (ps : List (Str × Str)) : (both ps).length = 2 * ps.length := by
  induction ps with
  | nil => rfl
  | cons p ps ih => rw [both_cons, List.length_cons, List.length_cons, List.length_cons, ih]; omega
section
variable {ps qs : List (Str × Str)} {T f : Str × Str → Int} {ns : List Str} {S : Str → Bool} {x : Str}
theorem Paid.mem (P : Paid ps T qs f) {q : Str × Str} : q ∈ qs ↔ q ∈ ps ∨ sw q ∈ ps := P.perm.mem_iff.trans mem_both
theorem Paid.sw (P : Paid ps T qs f) {q : Str × Str} (h : q ∈ qs) : sw q ∈ qs := P.mem.mpr (P.mem.mp h).symm
theorem Paid.nd (P : Paid ps T qs f) (L : LotOk ns ps T) : qs.Nodup := P.perm.nodup_iff.mpr (nodup_both L.nd L.lt)
theorem Paid.ne (P : Paid ps T qs f) (L : LotOk ns ps T) {q : Str × Str} (h : q ∈ qs) : q.1 ≠ q.2 := fun e => by
  rcases P.mem.mp h with h | h
  · have q := L.lt _ h; rw [e] at q; exact ltS_irr q
  · have z : LtS q.2 q.1 := L.lt _ h
    rw [e] at z; exact ltS_irr z
theorem Paid.m1 (P : Paid ps T qs f) (L : LotOk ns ps T) {q : Str × Str} (h : q ∈ qs) : q.1 ∈ ns := (P.mem.mp h).elim (L.m1 _) fun h => L.m2 _ h
theorem Paid.m2 (P : Paid ps T qs f) (L : LotOk ns ps T) {q : Str × Str} (h : q ∈ qs) : q.2 ∈ ns := (P.mem.mp h).elim (L.m2 _) fun h => L.m1 _ h
theorem Paid.len (P : Paid ps T qs f) (L : LotOk ns ps T) : qs.length ≤ 1000 := by
  rw [P.perm.length_eq, length_both]
  have := L.len
  omega
theorem Paid.inner (P : Paid ps T qs f) (S : Str → Bool) : su qs (fun q => if (S q.1 && S q.2) = true then f q else 0) = eT ps T S := by
  rw [su_perm _ P.perm, su_both]
  refine su_congr fun p hp => ?_
  show (if (S p.1 && S p.2) = true then f p else 0) + (if (S p.2 && S p.1) = true then f (Ep.sw p) else 0) = _
  rw [Bool.and_comm (S p.2) (S p.1)]
  by_cases h : (S p.1 && S p.2) = true
  · rw [if_pos h, if_pos h, if_pos h, P.sum p hp]
  · rw [if_neg h, if_neg h, if_neg h]; rfl
theorem Paid.closed (P : Paid ps T qs f) (hc : ∀ q ∈ qs, S q.1 = true → S q.2 = false → f q = 0) : su qs (fun q => if S q.1 = true then f q else 0) = eT ps T S := by
  rw [← P.inner S]
  refine su_congr fun q hq => ?_
  by_cases h1 : S q.1 = true
  · cases h2 : S q.2 with
    | true => rw [if_pos h1, h1, Bool.and_true]; rfl
    | false => rw [if_pos h1, hc q hq h1 h2, h1, Bool.and_false]; rfl
  · rw [if_neg h1, if_neg (by rw [Bool.and_eq_true]; exact fun z => h1 z.1)]
theorem Paid.le (P : Paid ps T qs f) (S : Str → Bool) : eT ps T S ≤ su qs (fun q => if S q.1 = true then f q else 0) := by
  rw [← P.inner S]
  refine su_le fun q hq => ?_
  by_cases h1 : S q.1 = true
  · rw [if_pos h1]
    split
    · exact Int.le_refl _
    · exact P.nn q hq
  · rw [if_neg h1, if_neg (by rw [Bool.and_eq_true]; exact fun z => h1 z.1)]; exact Int.le_refl _
theorem spent_list {R : List Str} (nd : R.Nodup) : su R (spentQ qs f) = su qs fun q => if decide (q.1 ∈ R) = true then f q else 0 := by
  have q := su_swap nd qs (fun q : Str × Str => q.1) f
  refine Eq.trans q (su_congr fun z _ => ?_)
  by_cases h : z.1 ∈ R
  · rw [if_pos h, if_pos (decide_eq_true h)]
  · rw [if_neg h, if_neg (by simpa using h)]
theorem Paid.spent_nn (P : Paid ps T qs f) (x : Str) : 0 ≤ spentQ qs f x := su_nonneg fun q hq => by
  split
  · exact P.nn q hq
  · exact Int.le_refl _
/-! ### times handed over -/
def sh (f : Str × Str → Int) (u v : Str) (m : Int) : Str × Str → Int := up (up f (u, v) (f (u, v) - m)) (v, u) (up f (u, v) (f (u, v) - m) (v, u) + m)
theorem sh_other {u v : Str} {m : Int} {q : Str × Str} (h1 : q ≠ (u, v)) (h2 : q ≠ (v, u)) : sh f u v m q = f q := by
  unfold sh
  rw [up_ne h2, up_ne h1]
theorem sh_uv {u v : Str} {m : Int} (ne : u ≠ v) : sh f u v m (u, v) = f (u, v) - m := by
  unfold sh
  rw [up_ne (fun e => ne (congrArg Prod.fst e)), up_self]
theorem sh_vu {u v : Str} {m : Int} (ne : u ≠ v) : sh f u v m (v, u) = f (v, u) + m := by
  unfold sh
  rw [up_self, up_ne (fun e => ne (congrArg Prod.fst e).symm)]
theorem sh_sum {u v : Str} {m : Int} (ne : u ≠ v) (p : Str × Str) : sh f u v m p + sh f u v m (sw p) = f p + f (sw p) := by
  by_cases h1 : p = (u, v)
  · rw [h1]
    show sh f u v m (u, v) + sh f u v m (v, u) = f (u, v) + f (v, u)
    rw [sh_uv ne, sh_vu ne]; omega
  · by_cases h2 : p = (v, u)
    · rw [h2]
      show sh f u v m (v, u) + sh f u v m (u, v) = f (v, u) + f (u, v)
      rw [sh_uv ne, sh_vu ne]; omega
    · rw [sh_other h1 h2, sh_other (fun e => h2 ?_) (fun e => h1 ?_)]
      · show (p.1, p.2) = _
        rw [show p.1 = v from congrArg Prod.snd e, show p.2 = u from congrArg Prod.fst e]
      · show (p.1, p.2) = _
        rw [show p.1 = u from congrArg Prod.snd e, show p.2 = v from congrArg Prod.fst e]
theorem spent_up {a : Str × Str} {c : Int} (nd : qs.Nodup) (h : a ∈ qs) : spentQ qs (up f a c) x = spentQ qs f x + (if a.1 = x then c - f a else 0) := by
  have e : spentQ qs (up f a c) x = su qs (up (fun q => if q.1 = x then f q else 0) a (if a.1 = x then c else 0)) := su_congr fun q _ => by
    unfold up
    by_cases z : q = a
    · rw [if_pos z, if_pos z, z]
    · rw [if_neg z, if_neg z]
  rw [e, su_up _ _ nd h]
  show spentQ qs f x + _ = _
  by_cases z : a.1 = x
  · rw [if_pos z, if_pos z, if_pos z]
  · rw [if_neg z, if_neg z, if_neg z]; omega
theorem spent_sh {u v : Str} {m : Int} (nd : qs.Nodup) (ne : u ≠ v) (h1 : (u, v) ∈ qs) (h2 : (v, u) ∈ qs) : spentQ qs (sh f u v m) x = spentQ qs f x + (if v = x then m else 0) - (if u = x then m else 0) := by
  unfold sh
  rw [spent_up nd h2, spent_up nd h1]
  show spentQ qs f x + (if u = x then f (u, v) - m - f (u, v) else 0) + (if v = x then _ - _ else 0) = _
  by_cases a : u = x <;> by_cases b : v = x <;> simp only [a, b, if_true, if_false] <;> omega
def shP (m : Int) : (Str × Str → Int) → List Str → Str × Str → Int
  | f, [] => f
  | f, [_] => f
  | f, x :: y :: r => shP m (sh f x y m) (y :: r)
theorem shP_snoc (m : Int) (x y : Str) : ∀ (l : List Str) (f : Str × Str → Int), shP m f (l ++ [x, y]) = sh (shP m f (l ++ [x])) x y m
  | [], f => rfl
  | [a], f => rfl
  | a :: b :: r, f => by
    show shP m (sh f a b m) ((b :: r) ++ [x, y]) = sh (shP m (sh f a b m) ((b :: r) ++ [x])) x y m
    exact shP_snoc m x y (b :: r) (sh f a b m)
/-- a way along payments of at least m -/
def Way (qs : List (Str × Str)) (f : Str × Str → Int) (m : Int) : List Str → Prop
  | [] => True
  | [_] => True
  | x :: y :: r => (x, y) ∈ qs ∧ (y, x) ∈ qs ∧ m ≤ f (x, y) ∧ Way qs f m (y :: r)
theorem Way.congr {f' : Str × Str → Int} {m : Int} : ∀ {l : List Str}, (∀ a b, a ∈ l → b ∈ l → f' (a, b) = f (a, b)) → Way qs f m l → Way qs f' m l
  | [], _, _ => trivial
  | [_], _, _ => trivial
  | x :: y :: r, h, ⟨h1, h2, h3, h4⟩ => ⟨h1, h2, by rw [h x y List.mem_cons_self (List.mem_cons_of_mem _ List.mem_cons_self)]; exact h3, Way.congr (fun a b ha hb => h a b (List.mem_cons_of_mem _ ha) (List.mem_cons_of_mem _ hb)) h4⟩
theorem Way.mono {m m' : Int} (h : m' ≤ m) : ∀ {l : List Str}, Way qs f m l → Way qs f m' l
  | [], _ => trivial
  | [_], _ => trivial
  | x :: y :: r, ⟨h1, h2, h3, h4⟩ => ⟨h1, h2, Int.le_trans h h3, Way.mono h h4⟩
theorem shP_way {m : Int} (hm : 0 ≤ m) (nd : qs.Nodup) : ∀ {l : List Str} {x : Str} {f : Str × Str → Int}, (x :: l).Nodup → Way qs f m (x :: l) → (∀ q ∈ qs, 0 ≤ f q) →
    (∀ q ∈ qs, 0 ≤ shP m f (x :: l) q) ∧ (∀ p, shP m f (x :: l) p + shP m f (x :: l) (sw p) = f p + f (sw p)) ∧
      ∀ z, spentQ qs (shP m f (x :: l)) z = spentQ qs f z + (if (x :: l).getLast (List.cons_ne_nil _ _) = z then m else 0) - (if x = z then m else 0)
  | [], x, f, _, _, nn => ⟨nn, fun _ => rfl, fun z => by
    show spentQ qs f z = spentQ qs f z + (if x = z then m else 0) - (if x = z then m else 0)
    omega⟩
  | y :: r, x, f, nl, ⟨h1, h2, h3, h4⟩, nn => by
    obtain ⟨n1, n2⟩ := List.nodup_cons.mp nl
    have ne : x ≠ y := fun e => n1 (by rw [e]; exact List.mem_cons_self)
    have nn' : ∀ q ∈ qs, 0 ≤ sh f x y m q := fun q hq => by
      by_cases a : q = (x, y)
      · rw [a, sh_uv ne]; omega
      · by_cases b : q = (y, x)
        · rw [b, sh_vu ne]; have := nn _ h2; omega
        · rw [sh_other a b]; exact nn q hq
    have w' : Way qs (sh f x y m) m (y :: r) := Way.congr (fun a b ha hb => sh_other (fun e => n1 (by have z : a = x := congrArg Prod.fst e; rw [← z]; exact ha)) fun e => n1 (by have z : b = x := congrArg Prod.snd e; rw [← z]; exact hb)) h4
    obtain ⟨g1, g2, g3⟩ := shP_way hm nd n2 w' nn'
    refine ⟨g1, fun p => (g2 p).trans (sh_sum ne p), fun z => ?_⟩
    show spentQ qs (shP m (sh f x y m) (y :: r)) z = spentQ qs f z + (if (y :: r).getLast (List.cons_ne_nil _ _) = z then m else 0) - _
    rw [g3 z, spent_sh nd ne h1 h2]
    omega
theorem Paid.shP (P : Paid ps T qs f) (L : LotOk ns ps T) {m : Int} (hm : 0 ≤ m) {x : Str} {l : List Str} (nl : (x :: l).Nodup) (w : Way qs f m (x :: l)) : Paid ps T qs (Ep.shP m f (x :: l)) := by
  obtain ⟨g1, g2, _⟩ := shP_way hm (P.nd L) nl w P.nn
  exact ⟨P.perm, g1, fun p hp => (g2 p).trans (P.sum p hp)⟩
end
end Ep

set_option Elab.async false
set_option linter.all false
set_option maxRecDepth 100000
set_option maxHeartbeats 4000000
/-! ## loads, partners, hand_over, least_on, first_payments -/
namespace Ep
open PySem PySem.Spec PyProof.Rows L2
theorem pr_at {qs : List (Str × Str)} {f : Str × Str → V} {i : Nat} {k : List Key} {v : V} (h : (mkT kP qs f)[i]? = some (k, v)) : ∃ q, qs[i]? = some q ∧ k = kP q ∧ v = f q := by
  unfold mkT at h
  rw [List.getElem?_map] at h
  cases e : qs[i]? with
  | none => rw [e] at h; cases h
  | some x =>
    rw [e] at h
    have h2 := Option.some.inj h
    exact ⟨x, rfl, (congrArg Prod.fst h2).symm, (congrArg Prod.snd h2).symm⟩
theorem dN_snoc {ns : List Str} {f : Str → V} {i : Nat} {x : Str} (nd : ns.Nodup) (h : ns[i]? = some x) : (.dK (putK (mkT kS (ns.take i) f) (kS x) (f x)) : HO) = dN (ns.take (i + 1)) f := by
  rw [putK_mk_new kS_inj (nd_take nd h), ← take_snoc h]
  unfold dN
  rw [mkT_congr (g := f) fun a _ => by
    unfold up
    split
    · rename_i e; rw [e]
    · rfl]
theorem spentQ_snoc {qs : List (Str × Str)} {f : Str × Str → Int} {q : Str × Str} : spentQ (qs ++ [q]) f = up (spentQ qs f) q.1 (spentQ qs f q.1 + f q) := by
  funext y
  unfold spentQ up
  rw [su_app, su_cons, su_nil]
  by_cases e : y = q.1
  · rw [if_pos e, if_pos e.symm, e]; omega
  · rw [if_neg e, if_neg fun z => e z.symm]; show _ = su qs _; omega
theorem dget_tup {H : Hp} {d t : Addr} {a b : Str} {qs : List (Str × Str)} {f : Str × Str → Int} (hd : H d = some (dP qs f)) (ht : H t = some (.tup [.str a, .str b])) (h : (a, b) ∈ qs) : DGet H d (.ref t) (some (.int (f (a, b)))) := dP_get (p := (a, b)) hd ht h
theorem dget_tupZ {H : Hp} {d t : Addr} {o : Obj} {a b : Str} {qs : List (Str × Str)} {f : Str × Str → Int} (hd : H d = some (.frz o (dP qs f))) (ht : H t = some (.tup [.str a, .str b])) (h : (a, b) ∈ qs) : DGet H d (.ref t) (some (.int (f (a, b)))) := dP_getZ (p := (a, b)) hd ht h
theorem dput_tup {H : Hp} {d t : Addr} {a b : Str} {qs : List (Str × Str)} {f : Str × Str → Int} {n : Int} (hd : H d = some (dP qs f)) (ht : H t = some (.tup [.str a, .str b])) (h : (a, b) ∈ qs) (hl : qs.length ≤ 10000) : DPut H d (.ref t) (.int n) (upd H d (dP qs (up f (a, b) n))) := dP_put (p := (a, b)) hd ht h (lt_sz hl)
theorem two_sz : 2 ≤ sizeLine := by decide
section
variable {P : Program} {w : World} {K : PySem.W.Frag} {mg : Str → Option Value} {base : Heap} {f : Addr} {fd : FuncData}
/-- loads(players, paid) -/
def p_loads : Sp := fun vs H Q _ => ∃ dt dp ns t qs g, vs = [.ref dt, .ref dp] ∧ H dt = some (dI ns t) ∧ H dp = some (dP qs g) ∧ ns.Nodup ∧ ns.length ≤ 24 ∧ (∀ q ∈ qs, q.1 ∈ ns) ∧
  ∀ H' d, Same H H' → H d = none → H' d = some (dI ns (spentQ qs g)) → Q (.ref d) H'
abbrev s_loads : Stmt := top 32
abbrev N_loads : List Str := ["players", "paid", "found", "payer", "other", "player"]
theorem sc_loads : FnScope N_loads ["players", "paid"] (defScope s_loads) := ⟨rfl, rfl, rfl, by decide +kernel, rfl, by decide +kernel, by decide +kernel⟩
theorem ok_loads (F : FnP K "loads" "loads" s_loads f fd) (T : Txt K mg) : FnOk P w K mg base CX0 1 f fd ["players", "paid"] p_loads := by
  refine ok0 F sc_loads (fun _ _ _ _ h => by obtain ⟨a, l, x, y, z, u, rfl, _⟩ := h; rfl) fun cdv A outer s H vs Q E hr h => ?_
  obtain ⟨dt, dp, ns, t, qs, g, rfl, ht, hp, nd, hlen, hin, q⟩ := h
  have hu := hu_of hr
  refine ⟨_, (pss_cons (ps_lock (ps_setDc (i := 2) (own := [("player", 5)]) (g := gName 5) (tt := tYes) rfl sc_loads.nd rfl rfl (swD_true rfl rfl rfl (by decide +kernel)) (pi_keys (pv 0)) (blkOk_by (own := [("player", 5)]) (N := N_loads) (sc := defScope s_loads) (by decide +kernel)) (fun _ _ _ _ _ => (pg_name (i := 5) sc_loads.nd rfl (Or.inl rfl))) (fun _ _ _ _ _ => pts_nil) (fun _ _ _ _ _ => (pv 5)) (fun _ _ _ _ _ => pe_int)))
    (pss_cons (ps_lock (ps_for PassesOwn.never rfl (pi_keys (pv 1)) (pg_tup rfl (pgs_cons (pg_name (i := 3) sc_loads.nd rfl (Or.inl rfl)) (pgs_cons (pg_name (i := 4) sc_loads.nd rfl (Or.inl rfl)) pgs_nil)))
      (pss_one (ps_daug hu (pv 2) (pv 3) (pe_dget hu (pv 1) (pe_tup (pa_cons (pv 3) (pa_cons (pv 4) pa_nil))) (fun _ _ => rfl)) in_add (fun _ _ _ => rfl)))))
    (pss_one (ps_ret (pv 2))))), ?_⟩
  refine ⟨dt, _, ht, trivial, fun od => ⟨.ref dt, rfl, dt, od, rfl, .inl ⟨_, upd_same, fun D nD => ?_⟩⟩⟩
  have htz : upd H dt (.frz od (dI ns t)) dt = some (.frz od (dI ns t)) := upd_same
  have nD0 : H D = none := by rw [upd_ne (fun z => by rw [z, upd_same] at nD; cases nD)] at nD; exact nD
  have ntD : dt ≠ D := ne_of_none ht nD0
  refine dc_it walk_keys (fun i H' => Same (upd H dt (.frz od (dI ns t))) H' ∧ H' D = some (dI (ns.take i) fun _ => 0)) ?_ ?_ ?_ ?_
  · exact ⟨Same.new Same.rfl nD, upd_same⟩
  · rintro i H1 _ ⟨k, _⟩
    exact k _ _ htz
  · rintro i v H1 H2 hi ⟨k, hD⟩ ⟨rfl, key, v2, hkv, rfl⟩
    obtain ⟨x, hx, rfl, rfl⟩ := nm_at hkv
    refine ⟨rfl, .str x, rfl, _, kS x, rfl, hD, ?_, Same.wrN k nD, ?_⟩
    · rw [length_mkT, List.length_take]
      exact lt_sz (by omega)
    · rw [upd_same]
      exact congrArg some (dN_snoc (f := fun _ => .int 0) nd hx)
  · rintro H1 ⟨k, hD⟩
    rw [length_mkT, List.take_of_length_le (Nat.le_refl _)] at hD
    have kk := lock_same ht k
    refine ⟨k _ _ htz, ?_⟩
    have hD2 : upd H1 dt (dI ns t) D = some (dI ns fun _ => 0) := by rw [upd_ne (Ne.symm ntD)]; exact hD
    generalize hH2 : upd H1 dt (dI ns t) = H2 at kk hD2
    have hp2 := kk _ _ hp
    have npD : dp ≠ D := ne_of_none hp nD0
    refine ⟨dp, _, hp2, trivial, fun op => ⟨.ref dp, rfl, dp, op, rfl, .inr ⟨_, upd_same, ?_⟩⟩⟩
    have hpz : upd H2 dp (.frz op (dP qs g)) dp = some (.frz op (dP qs g)) := upd_same
    refine for_it walk_keysT (fun i σ H' => (∃ x3 x4 x5, σ = [some (.ref dt), some (.ref dp), some (.ref D), x3, x4, x5]) ∧ Same (upd H dp (.frz op (dP qs g))) H' ∧ H' dp = some (.frz op (dP qs g)) ∧ H' D = some (dI ns (spentQ (qs.take i) g))) ?_ ?_ ?_ ?_
    · refine ⟨⟨_, _, _, rfl⟩, fun b o e => ?_, hpz, by rw [upd_ne (Ne.symm npD), hD2]; rfl⟩
      by_cases c : b = dp
      · rw [c, upd_same] at e ⊢; exact e
      · rw [upd_ne c] at e ⊢; exact kk _ _ e
    · rintro i σ H3 _ ⟨_, _, h, _⟩
      exact h
    · rintro i v σ H3 H4 hi ⟨⟨x3, x4, x5, rfl⟩, k3, h3, hD3⟩ ⟨rfl, key, v2, b, hkv, rfl, hb⟩
      obtain ⟨p, hpi, rfl, rfl⟩ := pr_at hkv
      have hmem := List.mem_of_getElem? hpi
      obtain ⟨p1, p2⟩ := p
      refine ⟨b, [.str p1, .str p2], rfl, SqT.of hb, rfl, _, _, rfl, _, _, rfl, rfl, ?_⟩
      refine ⟨.ref D, rfl, .str p1, rfl, D, _, rfl, dN_get hD3 (hin _ hmem), .ref dp, rfl, .str p1, rfl, .str p2, rfl, two_sz, fun u nu => ?_⟩
      have h4 := new_get (u := .tup [.str p1, .str p2]) nu h3
      have hD4 := new_get (u := .tup [.str p1, .str p2]) nu hD3
      refine ⟨dp, _, rfl, dget_tupZ h4 upd_same hmem, spentQ (qs.take i) g p1, g (p1, p2), rfl, rfl, _, dI_put hD4 (hin _ hmem) (lt_sz (by omega)), ⟨_, _, _, rfl⟩, ?_, ?_, ?_⟩
      · exact Same.wrN (Same.new k3 nu) (by rw [upd_ne (Ne.symm npD)]; exact nD0)
      · rw [upd_ne npD]; exact h4
      · rw [upd_same, take_snoc hpi, spentQ_snoc]
    · rintro σ H3 ⟨⟨x3, x4, x5, rfl⟩, k3, h3, hD3⟩
      rw [length_mkT, List.take_of_length_le (Nat.le_refl _)] at hD3
      refine ⟨h3, .ref D, rfl, ?_⟩
      refine q _ D (lock_same hp k3) nD0 ?_
      rw [upd_ne (Ne.symm npD)]; exact hD3
/-- hand_over(paid, path, many) -/
def p_hand_over : Sp := fun vs H Q _ => ∃ dp lp m qs g path, vs = [.ref dp, .ref lp, .int m] ∧ H dp = some (dP qs g) ∧ qs.length ≤ 1000 ∧ H lp = some (.lst (path.map V.str)) ∧ path.length ≤ 24 ∧ path ≠ [] ∧ path.Nodup ∧ Way qs g m path ∧
  ∀ H', Kp [dp] H H' → H' dp = some (dP qs (shP m g path)) → Q .non H'
theorem way_at {qs : List (Str × Str)} {g : Str × Str → Int} {m : Int} : ∀ {l : List Str} {i : Nat} {x y : Str}, Way qs g m l → l[i]? = some x → l[i + 1]? = some y → (x, y) ∈ qs ∧ (y, x) ∈ qs ∧ m ≤ g (x, y)
  | [], i, x, y, _, h, _ => by simp at h
  | [a], i, x, y, _, _, h => by simp at h
  | a :: b :: r, 0, x, y, ⟨h1, h2, h3, _⟩, hx, hy => by
    cases (show some a = some x from hx)
    cases (show some b = some y from hy)
    exact ⟨h1, h2, h3⟩
  | a :: b :: r, i + 1, x, y, ⟨_, _, _, h4⟩, hx, hy => way_at (l := b :: r) h4 hx hy
abbrev s_hand_over : Stmt := top 35
abbrev N_hand_over : List Str := ["paid", "path", "many", "at"]
theorem sc_hand_over : FnScope N_hand_over ["paid", "path", "many"] (defScope s_hand_over) := ⟨rfl, rfl, rfl, by decide +kernel, rfl, by decide +kernel, by decide +kernel⟩
theorem str_get {xs : List Str} {i : Nat} {x : Str} (h : xs[i]? = some x) : (xs.map V.str)[i]? = some (.str x) := by rw [List.getElem?_map, h]; rfl
theorem atI_1 {xs : List V} {i : Nat} {v : V} (h : xs[i + 1]? = some v) : atI xs ((i : Int) + 1) = some v := by
  have := atI_nat h
  rwa [Int.natCast_add] at this
theorem take2_snoc {α : Type} {l : List α} {i : Nat} {x y : α} (hx : l[i]? = some x) (hy : l[i + 1]? = some y) : l.take (i + 2) = l.take i ++ [x, y] := by
  rw [take_snoc hy, take_snoc hx, List.append_assoc]
  rfl
theorem ok_hand_over (F : FnP K "hand_over" "hand_over" s_hand_over f fd) (T : Txt K mg) : FnOk P w K mg base CX0 1 f fd ["paid", "path", "many"] p_hand_over := by
  refine ok0 F sc_hand_over (fun _ _ _ _ h => by obtain ⟨a, l, x, y, z, u, rfl, _⟩ := h; rfl) fun cdv A outer s H vs Q E hr h => ?_
  obtain ⟨dp, lp, m, qs, g, path, rfl, hp, hql, hl, hlen, hne, nd, way, q⟩ := h
  have hu := hu_of hr
  refine ⟨_, (pss_one (ps_for PassesOwn.never rfl (pi_range1 (by rfl) T.range (pa_cons (pe_op op_sub (pe_callB call_len_seq (by rfl) T.len bt_len (pa_cons (pv 1) pa_nil)) pe_int) pa_nil)) (pg_name (i := 3) sc_hand_over.nd rfl (Or.inl rfl))
      (pss_cons (ps_daug hu (pv 0) (pe_tup (pa_cons (pe_ix ix_list (pv 1) (pv 3) (fun _ _ => rfl)) (pa_cons (pe_ix ix_list (pv 1) (pe_op op_add (pv 3) pe_int) (fun _ _ => rfl)) pa_nil))) (pv 2) in_sub (fun _ _ _ => rfl))
      (pss_one (ps_daug hu (pv 0) (pe_tup (pa_cons (pe_ix ix_list (pv 1) (pe_op op_add (pv 3) pe_int) (fun _ _ => rfl)) (pa_cons (pe_ix ix_list (pv 1) (pv 3) (fun _ _ => rfl)) pa_nil))) (pv 2) in_add (fun _ _ _ => rfl)))))), ?_⟩
  have nlp : lp ≠ dp := fun z => by rw [z, hp] at hl; cases hl
  have hpos : 0 < path.length := List.length_pos_iff.mpr hne
  refine ⟨.ref lp, rfl, lp, _, rfl, .inl (SqL.of hl), _, 1, rfl, rfl, _, rfl, ?_, ?_, ?_⟩
  · rw [List.length_map]; omega
  · rw [List.length_map]; omega
  have e0 : (((path.map V.str).length : Int) - 1).toNat = path.length - 1 := by rw [List.length_map]; omega
  rw [e0]
  refine for_it walk_range (fun i σ H' => (∃ x3, σ = [some (.ref dp), some (.ref lp), some (.int m), x3]) ∧ Kp [dp] H H' ∧ H' lp = some (.lst (path.map V.str)) ∧ H' dp = some (dP qs (shP m g (path.take (i + 1))))) ?_ ?_ ?_ ?_
  · refine ⟨⟨_, rfl⟩, Kp.refl, hl, ?_⟩
    rw [hp]
    cases path with
    | nil => exact absurd rfl hne
    | cons a r => rfl
  · rintro i σ H1 _ _
    trivial
  · rintro i v σ H1 H2 hi ⟨⟨x3, rfl⟩, k, hl1, hd1⟩ ⟨rfl, rfl⟩
    obtain ⟨x, hx⟩ : ∃ x, path[i]? = some x := ⟨_, List.getElem?_eq_getElem (by omega)⟩
    obtain ⟨y, hy⟩ : ∃ y, path[i + 1]? = some y := ⟨_, List.getElem?_eq_getElem (by omega)⟩
    obtain ⟨m1, m2, _⟩ := way_at way hx hy
    have ei : (0 : Int) + (i : Int) = (i : Int) := Int.zero_add _
    refine ⟨.ref dp, rfl, .ref lp, rfl, .int (0 + (i : Int)), rfl, lp, _, _, .str x, rfl, rfl, SqL.of hl1, by rw [ei]; exact atI_nat (str_get hx), .ref lp, rfl, .int (0 + (i : Int)), rfl, _, 1, rfl, rfl, lp, _, _, .str y, rfl, rfl, SqL.of hl1, by rw [ei]; exact atI_1 (str_get hy), two_sz, fun u nu => ?_⟩
    have hd2 := new_get (u := .tup [.str x, .str y]) nu hd1
    have hl2 := new_get (u := .tup [.str x, .str y]) nu hl1
    have hu2 : upd H2 u (.tup [.str x, .str y]) u = some (.tup [.str x, .str y]) := upd_same
    have k2 : Kp [dp] H (upd H2 u (.tup [.str x, .str y])) := Kp.new k nu
    generalize upd H2 u (.tup [.str x, .str y]) = H3 at hd2 hl2 hu2 k2
    generalize hg : shP m g (path.take (i + 1)) = g1 at hd2
    refine ⟨dp, _, rfl, dget_tup hd2 hu2 m1, .int m, rfl, g1 (x, y), m, rfl, rfl, _, dput_tup hd2 hu2 m1 (by omega), ?_⟩
    have hd4 : upd H3 dp (dP qs (up g1 (x, y) (g1 (x, y) - m))) dp = some (dP qs (up g1 (x, y) (g1 (x, y) - m))) := upd_same
    have hl4 : upd H3 dp (dP qs (up g1 (x, y) (g1 (x, y) - m))) lp = some (.lst (path.map V.str)) := by rw [upd_ne nlp]; exact hl2
    have k4 : Kp [dp] H (upd H3 dp (dP qs (up g1 (x, y) (g1 (x, y) - m)))) := Kp.wr k2 (List.mem_singleton.mpr rfl)
    generalize upd H3 dp (dP qs (up g1 (x, y) (g1 (x, y) - m))) = H4 at hd4 hl4 k4
    refine ⟨.ref dp, rfl, .ref lp, rfl, .int (0 + (i : Int)), rfl, _, 1, rfl, rfl, lp, _, _, .str y, rfl, rfl, SqL.of hl4, by rw [ei]; exact atI_1 (str_get hy), .ref lp, rfl, .int (0 + (i : Int)), rfl, lp, _, _, .str x, rfl, rfl, SqL.of hl4, by rw [ei]; exact atI_nat (str_get hx), two_sz, fun u2 nu2 => ?_⟩
    have hd5 := new_get (u := .tup [.str y, .str x]) nu2 hd4
    have hl5 := new_get (u := .tup [.str y, .str x]) nu2 hl4
    have hu5 : upd H4 u2 (.tup [.str y, .str x]) u2 = some (.tup [.str y, .str x]) := upd_same
    refine ⟨dp, _, rfl, dget_tup hd5 hu5 m2, .int m, rfl, _, m, rfl, rfl, _, dput_tup hd5 hu5 m2 (by omega), ⟨_, rfl⟩, ?_, ?_, ?_⟩
    · exact Kp.wr (Kp.new k4 nu2) (List.mem_singleton.mpr rfl)
    · rw [upd_ne nlp]; exact hl5
    · rw [upd_same, take2_snoc hx hy, shP_snoc, ← take_snoc hx, hg]
      rfl
  · rintro σ H1 ⟨⟨x3, rfl⟩, k, hl1, hd1⟩
    rw [List.take_of_length_le (by omega)] at hd1
    exact q _ k hd1
/-- least_on(paid, path) -/
def p_least_on : Sp := fun vs H Q _ => ∃ dp lp qs g path, vs = [.ref dp, .ref lp] ∧ H dp = some (dP qs g) ∧ H lp = some (.lst (path.map V.str)) ∧ 2 ≤ path.length ∧ path.length ≤ 24 ∧ Way qs g 1 path ∧
  ∀ H' m, Same H H' → 1 ≤ m → Way qs g m path → Q (.int m) H'
theorem way_of {qs : List (Str × Str)} {g : Str × Str → Int} {m m' : Int} : ∀ {l : List Str}, Way qs g m l → (∀ i x y, l[i]? = some x → l[i + 1]? = some y → m' ≤ g (x, y)) → Way qs g m' l
  | [], _, _ => trivial
  | [_], _, _ => trivial
  | a :: b :: r, ⟨h1, h2, _, h4⟩, h => ⟨h1, h2, h 0 a b rfl rfl, way_of h4 fun i x y hx hy => h (i + 1) x y hx hy⟩
abbrev s_least_on : Stmt := top 36
abbrev N_least_on : List Str := ["paid", "path", "at"]
theorem sc_least_on : FnScope N_least_on ["paid", "path"] (defScope s_least_on) := ⟨rfl, rfl, rfl, by decide +kernel, rfl, by decide +kernel, by decide +kernel⟩
def edgV (g : Str × Str → Int) (path : List Str) : List Int := (path.zip path.tail).map g
theorem edgV_at {g : Str × Str → Int} {path : List Str} {i : Nat} {x y : Str} (hx : path[i]? = some x) (hy : path[i + 1]? = some y) : (path.zip path.tail)[i]? = some (x, y) := by
  rw [List.getElem?_zip_eq_some]
  exact ⟨hx, by rw [List.getElem?_tail]; exact hy⟩
theorem ok_least_on (F : FnP K "least_on" "least_on" s_least_on f fd) (T : Txt K mg) : FnOk P w K mg base CX0 1 f fd ["paid", "path"] p_least_on := by
  refine ok0 F sc_least_on (fun _ _ _ _ h => by obtain ⟨a, l, x, y, z, rfl, _⟩ := h; rfl) fun cdv A outer s H vs Q E hr h => ?_
  obtain ⟨dp, lp, qs, g, path, rfl, hp, hl, hlo, hlen, way, q⟩ := h
  have hu := hu_of hr
  refine ⟨_, (pss_one (ps_ret (pe_callBK (crk_min rfl hr.units) (by rfl) T.min bt_min (pa_cons (pe_lc (own := [("at", 2)]) (g := gName 2) (tt := tYes) rfl sc_least_on.nd (pi_range1 (by rfl) T.range (pa_cons (pe_op op_sub (pe_callB call_len_seq (by rfl) T.len bt_len (pa_cons (pv 1) pa_nil)) pe_int) pa_nil)) (blkOk_by (own := [("at", 2)]) (N := N_least_on) (sc := defScope s_least_on) (by decide +kernel)) (fun _ _ _ _ _ => (pg_name (i := 2) sc_least_on.nd rfl (Or.inl rfl))) (fun _ _ _ _ _ => pts_nil) (fun _ _ _ _ _ => (pe_dget hu (pv 0) (pe_tup (pa_cons (pe_ix (r := rIxL K) ix_list (pv 1) (pv 2) (fun _ _ => rfl)) (pa_cons (pe_ix (r := rIxL K) ix_list (pv 1) (pe_op op_add (pv 2) pe_int) (fun _ _ => rfl)) pa_nil))) (fun _ _ => rfl)))) pa_nil) (pk_cons pe_non pk_nil)))), ?_⟩
  refine ⟨.ref lp, rfl, lp, _, rfl, .inl (SqL.of hl), _, 1, rfl, rfl, _, rfl, ?_, ?_, fun D nD => ?_⟩
  · rw [List.length_map]; omega
  · rw [List.length_map]; omega
  have e0 : (((path.map V.str).length : Int) - 1).toNat = path.length - 1 := by rw [List.length_map]; omega
  rw [e0]
  have hz : (path.zip path.tail).length = path.length - 1 := by rw [List.length_zip, List.length_tail]; omega
  refine lc_it walk_range (fun i H' => Same H H' ∧ H' D = some (.lst ((((path.zip path.tail).take i).map g).map V.int))) ?_ ?_ ?_ ?_
  · exact ⟨Same.new Same.rfl nD, upd_same⟩
  · rintro i H1 _ _
    trivial
  · rintro i v H1 H2 hi ⟨k, hD⟩ ⟨rfl, rfl⟩
    obtain ⟨x, hx⟩ : ∃ x, path[i]? = some x := ⟨_, List.getElem?_eq_getElem (by omega)⟩
    obtain ⟨y, hy⟩ : ∃ y, path[i + 1]? = some y := ⟨_, List.getElem?_eq_getElem (by omega)⟩
    obtain ⟨m1, m2, _⟩ := way_at way hx hy
    have ei : (0 : Int) + (i : Int) = (i : Int) := Int.zero_add _
    refine ⟨rfl, .ref dp, rfl, .ref lp, rfl, .int (0 + (i : Int)), rfl, lp, _, _, .str x, rfl, rfl, SqL.of (k _ _ hl), by rw [ei]; exact atI_nat (str_get hx), .ref lp, rfl, .int (0 + (i : Int)), rfl, _, 1, rfl, rfl, lp, _, _, .str y, rfl, rfl, SqL.of (k _ _ hl), by rw [ei]; exact atI_1 (str_get hy), two_sz, fun u nu => ?_⟩
    have hD2 := new_get (u := .tup [.str x, .str y]) nu hD
    refine ⟨dp, _, rfl, dget_tup (new_get nu (k _ _ hp)) upd_same m1, _, hD2, ?_, Same.wrN (Same.new k nu) nD, ?_⟩
    · rw [List.length_map, List.length_map, List.length_take]
      exact lt_sz (by omega)
    · rw [upd_same, take_snoc (edgV_at (g := g) hx hy), List.map_append, List.map_append]; rfl
  · rintro H1 ⟨k, hD⟩
    rw [List.take_of_length_le (by omega)] at hD
    refine ⟨D, edgV g path, .non, rfl, rfl, SqL.of hD, fun e => ?_, fun m hm hle => ?_⟩
    · have e2 := congrArg List.length e
      unfold edgV at e2
      rw [List.length_map, hz] at e2
      have : path.length - 1 = 0 := e2
      omega
    · refine q _ m k ?_ (way_of way fun i x y hx hy => hle _ (List.mem_map.mpr ⟨(x, y), List.mem_of_getElem? (edgV_at (g := g) hx hy), rfl⟩))
      obtain ⟨⟨x, y⟩, hxy, rfl⟩ := List.mem_map.mp hm
      obtain ⟨i, hi⟩ := List.mem_iff_getElem?.mp hxy
      rw [List.getElem?_zip_eq_some] at hi
      exact (way_at way hi.1 (by have z := hi.2; rw [List.getElem?_tail] at z; exact z)).2.2
end
end Ep

set_option Elab.async false
set_option linter.all false
set_option maxRecDepth 100000
set_option maxHeartbeats 4000000
/-! ## partners, first_payments -/
namespace Ep
open PySem PySem.Spec PyProof.Rows L2
/-- whom each pays, by lists -/
def LinksAt (H : Hp) (d : Addr) (qs : List (Str × Str)) : Prop := ∃ (ps : List Str) (L : Str → Addr), H d = some (dN ps fun x => .ref (L x)) ∧ (∀ q ∈ qs, q.1 ∈ ps) ∧ ps.length ≤ 1000 ∧
  ∀ x ∈ ps, ∃ os : List Str, H (L x) = some (.lst (os.map V.str)) ∧ os.length ≤ 1000 ∧ ∀ v, v ∈ os ↔ (x, v) ∈ qs
def oth (l : List (Str × Str)) (x : Str) : List Str := (l.filter fun q => decide (q.1 = x)).map Prod.snd
theorem oth_snoc {l : List (Str × Str)} {q : Str × Str} : oth (l ++ [q]) = up (oth l) q.1 (oth l q.1 ++ [q.2]) := by
  funext y
  unfold oth up
  rw [List.filter_append, List.map_append]
  by_cases e : y = q.1
  · rw [if_pos e, List.filter_cons_of_pos (by simp [e]), e]; rfl
  · rw [if_neg e, List.filter_cons_of_neg (by simp; exact fun z => e z.symm)]
    simp
theorem mem_oth {l : List (Str × Str)} {x v : Str} : v ∈ oth l x ↔ (x, v) ∈ l := by
  unfold oth
  rw [List.mem_map]
  constructor
  · rintro ⟨q, hq, rfl⟩
    obtain ⟨h1, h2⟩ := List.mem_filter.mp hq
    have h2 := of_decide_eq_true h2
    rw [← h2]; exact h1
  · intro h
    exact ⟨(x, v), List.mem_filter.mpr ⟨h, decide_eq_true rfl⟩, rfl⟩
theorem oth_len (l : List (Str × Str)) (x : Str) : (oth l x).length ≤ l.length := by
  unfold oth
  rw [List.length_map]
  exact List.length_filter_le _ _
section
variable {P : Program} {w : World} {K : PySem.W.Frag} {mg : Str → Option Value} {base : Heap} {f : Addr} {fd : FuncData}
/-- partners(paid) -/
def p_partners : Sp := fun vs H Q _ => ∃ dp qs g, vs = [.ref dp] ∧ H dp = some (dP qs g) ∧ qs.length ≤ 1000 ∧ ∀ H' d, Same H H' → H d = none → LinksAt H' d qs → Q (.ref d) H'
abbrev s_partners : Stmt := top 33
abbrev N_partners : List Str := ["paid", "found", "payer", "other"]
theorem sc_partners : FnScope N_partners ["paid"] (defScope s_partners) := ⟨rfl, rfl, rfl, by decide +kernel, rfl, by decide +kernel, by decide +kernel⟩
theorem ok_partners (F : FnP K "partners" "partners" s_partners f fd) (T : Txt K mg) : FnOk P w K mg base CX0 1 f fd ["paid"] p_partners := by
  refine ok0 F sc_partners (fun _ _ _ _ h => by obtain ⟨a, l, x, rfl, _⟩ := h; rfl) fun cdv A outer s H vs Q E hr h => ?_
  obtain ⟨dp, qs, g, rfl, hp, hql, q⟩ := h
  have hu := hu_of hr
  refine ⟨_, (pss_cons (ps_lock (ps_setDc (i := 1) (own := [("payer", 2), ("other", 3)]) (g := gTup K 2 (gCons (gName 2) (gCons (gName 3) gNil))) (tt := tYes) rfl sc_partners.nd rfl rfl (swD_true rfl rfl rfl (by decide +kernel)) (pi_keys (pv 0)) (blkOk_by (own := [("payer", 2), ("other", 3)]) (N := N_partners) (sc := defScope s_partners) (by decide +kernel)) (fun _ _ _ _ _ => (pg_tup rfl (pgs_cons (pg_name (i := 2) sc_partners.nd rfl (Or.inl rfl)) (pgs_cons (pg_name (i := 3) sc_partners.nd rfl (Or.inl rfl)) pgs_nil)))) (fun _ _ _ _ _ => pts_nil) (fun _ _ _ _ _ => (pv 2)) (fun _ _ _ _ _ => (pe_lst pa_nil))))
    (pss_cons (ps_for PassesOwn.never rfl (pi_list (pe_callB (cr_sortedDT rfl hr.units) (by rfl) T.sorted bt_sorted (pa_cons (pv 0) pa_nil))) (pg_tup rfl (pgs_cons (pg_name (i := 2) sc_partners.nd rfl (Or.inl rfl)) (pgs_cons (pg_name (i := 3) sc_partners.nd rfl (Or.inl rfl)) pgs_nil)))
      (pss_one (ps_expr (pe_bm PySem.F.plainAttrs_list PySem.F.slot_list_append PySem.F.type_list_append mt_append (pe_dget hu (pv 1) (pv 2) (fun _ _ => rfl)) (pa_cons (pv 3) pa_nil)))))
    (pss_one (ps_ret (pv 1))))), ?_⟩
  refine ⟨dp, _, hp, trivial, fun od => ⟨.ref dp, rfl, dp, od, rfl, .inr ⟨_, upd_same, fun D nD => ?_⟩⟩⟩
  have hpz : upd H dp (.frz od (dP qs g)) dp = some (.frz od (dP qs g)) := upd_same
  have nD0 : H D = none := by rw [upd_ne (fun z => by rw [z, upd_same] at nD; cases nD)] at nD; exact nD
  have npD : dp ≠ D := ne_of_none hp nD0
  have none0 : ∀ {H' a}, Same (upd H dp (.frz od (dP qs g))) H' → H' a = none → H a = none := fun {H' a} k na => by
    have z := none_of k na
    rw [upd_ne (fun e => by rw [e, upd_same] at z; cases z)] at z
    exact z
  refine dc_it walk_keysT (fun i H' => Same (upd H dp (.frz od (dP qs g))) H' ∧ ∃ (ps : List Str) (L : Str → Addr), H' D = some (dN ps fun x => .ref (L x)) ∧ (∀ q ∈ qs.take i, q.1 ∈ ps) ∧ ps.length ≤ i ∧
      (∀ x ∈ ps, H' (L x) = some (.lst []) ∧ H (L x) = none) ∧ ∀ x ∈ ps, ∀ y ∈ ps, L x = L y → x = y) ?_ ?_ ?_ ?_
  · exact ⟨Same.new Same.rfl nD, [], fun _ => 0, upd_same, fun q h => absurd h List.not_mem_nil, Nat.le_refl _, fun x h => absurd h List.not_mem_nil, fun x h => absurd h List.not_mem_nil⟩
  · rintro i H1 _ ⟨k, _⟩
    exact k _ _ hpz
  · rintro i v H1 H2 hi ⟨k, ps, L, hD, hin, hpl, hL, inj⟩ ⟨rfl, key, v2, b, hkv, rfl, hb⟩
    obtain ⟨p, hpi, rfl, rfl⟩ := pr_at hkv
    have hmem := List.mem_of_getElem? hpi
    obtain ⟨p1, p2⟩ := p
    rw [length_mkT] at hi
    refine ⟨b, [.str p1, .str p2], rfl, SqT.of hb, rfl, _, _, rfl, _, _, rfl, rfl, rfl, .str p1, rfl, Nat.zero_le _, fun u nu => ?_⟩
    refine ⟨_, kS p1, rfl, new_get nu hD, ?_, ?_⟩
    · rw [length_mkT]; exact lt_sz (by omega)
    have nuD : u ≠ D := fun z => by rw [z, hD] at nu; cases nu
    have hu0 : H u = none := none0 k nu
    have neL : ∀ x ∈ ps, L x ≠ u := fun x hx e => by rw [← e, (hL x hx).1] at nu; cases nu
    have neD : ∀ x ∈ ps, L x ≠ D := fun x hx e => by have z := (hL x hx).1; rw [e, hD] at z; cases z
    have ef : (fun x => V.ref (up L p1 u x)) = up (fun x => V.ref (L x)) p1 (.ref u) := by rw [up_fun]
    by_cases c : p1 ∈ ps
    · refine ⟨Same.wrN (Same.new k nu) nD, ps, up L p1 u, by rw [upd_same, putK_mk kS_inj c, ef]; rfl, fun q hq => ?_, by omega, fun x hx => ?_, fun x hx y hy e => ?_⟩
      · rw [take_snoc hpi] at hq
        rcases List.mem_append.mp hq with h | h
        · exact hin q h
        · rw [List.mem_singleton.mp h]; exact c
      · by_cases e : x = p1
        · rw [e, up_self, upd_ne nuD, upd_same]; exact ⟨rfl, hu0⟩
        · rw [up_ne e, upd_ne (neD x hx), upd_ne (neL x hx)]; exact hL x hx
      · by_cases a1 : x = p1 <;> by_cases a2 : y = p1
        · rw [a1, a2]
        · rw [a1, up_self, up_ne a2] at e; exact absurd e.symm (neL y hy)
        · rw [a2, up_self, up_ne a1] at e; exact absurd e (neL x hx)
        · rw [up_ne a1, up_ne a2] at e; exact inj x hx y hy e
    · have mem : ∀ x ∈ ps ++ [p1], x = p1 ∨ (x ≠ p1 ∧ x ∈ ps) := fun x hx => by
        rcases List.mem_append.mp hx with h | h
        · exact .inr ⟨fun e => c (e ▸ h), h⟩
        · exact .inl (List.mem_singleton.mp h)
      refine ⟨Same.wrN (Same.new k nu) nD, ps ++ [p1], up L p1 u, by rw [upd_same, putK_mk_new kS_inj c, ef]; rfl, fun q hq => ?_, by rw [List.length_append]; exact Nat.succ_le_succ hpl, fun x hx => ?_, fun x hx y hy e => ?_⟩
      · rw [take_snoc hpi] at hq
        rcases List.mem_append.mp hq with h | h
        · exact List.mem_append_left _ (hin q h)
        · rw [List.mem_singleton.mp h]; exact List.mem_append_right _ (List.mem_singleton.mpr rfl)
      · rcases mem x hx with e | ⟨e, hx⟩
        · rw [e, up_self, upd_ne nuD, upd_same]; exact ⟨rfl, hu0⟩
        · rw [up_ne e, upd_ne (neD x hx), upd_ne (neL x hx)]; exact hL x hx
      · rcases mem x hx with a1 | ⟨a1, hx⟩ <;> rcases mem y hy with a2 | ⟨a2, hy⟩
        · rw [a1, a2]
        · rw [a1, up_self, up_ne a2] at e; exact absurd e.symm (neL y hy)
        · rw [a2, up_self, up_ne a1] at e; exact absurd e (neL x hx)
        · rw [up_ne a1, up_ne a2] at e; exact inj x hx y hy e
  · rintro H1 ⟨k, ps, L, hD, hin, hpl, hL, inj⟩
    rw [length_mkT, List.take_of_length_le (Nat.le_refl _)] at hin
    rw [length_mkT] at hpl
    refine ⟨k _ _ hpz, ?_⟩
    have kk := lock_same hp k
    have hL2 : ∀ x ∈ ps, upd H1 dp (dP qs g) (L x) = some (.lst []) ∧ H (L x) = none := fun x hx => ⟨by
      rw [upd_ne (fun e => by have z := (hL x hx).2; rw [e, hp] at z; cases z)]
      exact (hL x hx).1, (hL x hx).2⟩
    have hD2 : upd H1 dp (dP qs g) D = some (dN ps fun x => .ref (L x)) := by rw [upd_ne (Ne.symm npD)]; exact hD
    generalize upd H1 dp (dP qs g) = H2 at kk hL2 hD2
    refine ⟨.ref dp, rfl, dp, _, encP H2, rfl, .inl (kk _ _ hp), fun bs hk => ⟨(sortDT_k hk).1, fun ys p pm pw np => ?_⟩⟩
    obtain ⟨zs, qs', rfl, hz2, pm, pw⟩ := (sortDT_k (K := K) hk).2 ys pm pw
    refine ⟨p, rfl, ⟨_, SqL.of upd_same⟩, ?_⟩
    have hlz : zs.length = qs'.length := Paired.length hz2
    have hlq : qs'.length = qs.length := pm.length_eq
    have k3 : Same H (upd H2 p (.lst (zs.map V.ref))) := Same.new kk np
    have npp : ∀ x ∈ ps, L x ≠ p := fun x hx e => by rw [← e, (hL2 x hx).1] at np; cases np
    refine for_it (walk_list (xs := zs.map V.ref)) (fun i σ H' => (∃ x2 x3, σ = [some (.ref dp), some (.ref D), x2, x3]) ∧ Same H H' ∧ H' p = some (.lst (zs.map V.ref)) ∧ (∀ b o, H2 b = some (.tup o) → H' b = some (.tup o)) ∧ H' D = some (dN ps fun x => .ref (L x)) ∧
        ∀ x ∈ ps, H' (L x) = some (.lst ((oth (qs'.take i) x).map V.str))) ?_ ?_ ?_ ?_
    · refine ⟨⟨_, _, rfl⟩, k3, upd_same, fun b o e => new_get np e, new_get np hD2, fun x hx => ?_⟩
      rw [upd_ne (npp x hx)]
      exact (hL2 x hx).1
    · rintro i σ H3 _ ⟨_, _, h, _⟩
      exact SqL.of h
    · rintro i v σ H3 H4 hi ⟨⟨x2, x3, rfl⟩, k4, hpp, ht, hD3, hL3⟩ ⟨rfl, hv⟩
      obtain ⟨z, hzi, rfl⟩ := map_ref_get hv
      obtain ⟨⟨p1, p2⟩, hqi, htw⟩ := L2.paired_get hz2 hzi
      have hmem := pm.mem_iff.mp (List.mem_of_getElem? hqi)
      have hp1 := hin _ hmem
      have htw2 := ht _ _ htw
      have hLp := hL3 p1 hp1
      refine ⟨z, [.str p1, .str p2], rfl, SqT.of htw2, rfl, _, _, rfl, _, _, rfl, rfl, ?_⟩
      refine ⟨.ref D, rfl, .str p1, rfl, D, _, rfl, dN_get hD3 hp1, .inl ⟨rfl, _, SqL.of hLp⟩, .str p2, rfl, L p1, _, _, rfl, rfl, hLp, ?_, ?_⟩
      · rw [List.length_map]
        have := oth_len (qs'.take i) p1
        rw [List.length_take] at this
        exact lt_sz (by omega)
      refine ⟨⟨_, _, rfl⟩, Same.wrN k4 (hL2 p1 hp1).2, ?_, fun b o e => ?_, ?_, fun x hx => ?_⟩
      · rw [upd_ne (Ne.symm (npp p1 hp1))]; exact hpp
      · rw [upd_ne (fun e2 => by have z := ht b o e; rw [e2, hLp] at z; cases z)]; exact ht b o e
      · rw [upd_ne (fun e2 => by rw [e2, hLp] at hD3; cases hD3)]; exact hD3
      · rw [take_snoc hqi, oth_snoc]
        by_cases e : x = p1
        · rw [e, upd_same, up_self, List.map_append]; rfl
        · rw [up_ne e, upd_ne (fun e2 => e (inj x hx p1 hp1 e2))]
          exact hL3 x hx
    · rintro σ H3 ⟨⟨x2, x3, rfl⟩, k4, hpp, ht, hD3, hL3⟩
      rw [List.take_of_length_le (by rw [List.length_map]; omega)] at hL3
      refine ⟨.ref D, rfl, q _ D k4 nD0 ⟨ps, L, hD3, hin, by omega, fun x hx => ⟨_, hL3 x hx, ?_, fun v => mem_oth.trans pm.mem_iff⟩⟩⟩
      have := oth_len qs' x
      omega
/-- first_payments(tickets, lot) -/
def p_first (K : PySem.W.Frag) : Sp := fun vs H Q _ => ∃ dt a ns t ps T', vs = [.ref dt, .ref a] ∧ H dt = some (dI ns t) ∧ LotAt K H a ps T' ∧ LotOk ns ps T' ∧ ns.length ≤ 24 ∧
  ∀ H' d qs g, Same H H' → H d = none → H' d = some (dP qs g) → Paid ps T' qs g → Q (.ref d) H'
abbrev s_first_payments : Stmt := top 37
abbrev N_first_payments : List Str := ["tickets", "lot", "left", "paid", "one", "other", "many"]
theorem sc_first_payments : FnScope N_first_payments ["tickets", "lot"] (defScope s_first_payments) := ⟨rfl, rfl, rfl, by decide +kernel, rfl, by decide +kernel, by decide +kernel⟩
theorem both_snoc {l : List (Str × Str)} {p : Str × Str} : both (l ++ [p]) = both l ++ [p, sw p] := by
  unfold both
  rw [List.flatMap_append]
  rfl
theorem min_max_ok {m x : Int} (hm : 0 ≤ m) : 0 ≤ (if (if x > 0 then x else 0) < m then (if x > 0 then x else 0) else m) ∧ (if (if x > 0 then x else 0) < m then (if x > 0 then x else 0) else m) ≤ m := by
  split <;> split <;> omega
theorem ok_first_payments (F : FnP K "first_payments" "first_payments" s_first_payments f fd) (T : Txt K mg) (d_Lot_entries : Dm P w K mg base 1 (cL K) "entries" ["self"] (p_Lot_entries K)) : FnOk P w K mg base CX0 2 f fd ["tickets", "lot"] (p_first K) := by
  refine ok0 F sc_first_payments (fun _ _ _ _ h => by obtain ⟨a, l, x, y, z, u, rfl, _⟩ := h; rfl) fun cdv A outer s H vs Q E hr h => ?_
  obtain ⟨dt, a, ns, t, ps, T', rfl, ht, hlot, lok, hns, q⟩ := h
  have hu := hu_of hr
  refine ⟨_, (pss_cons (ps_par (i := 2) (j := 3) (by rfl) sc_first_payments.nd rfl rfl (by decide) rfl rfl (pa_cons (pe_callTy call_dictD (by rfl) T.dict bt_dict (pa_cons (pv 0) pa_nil)) (pa_cons pe_dnewT pa_nil)) (by rfl))
    (pss_cons (ps_for PassesOwn.never rfl (pi_list (pe_dm0 d_Lot_entries hr (pv 1))) (pg_tup rfl (pgs_cons (pg_name (i := 4) sc_first_payments.nd rfl (Or.inl rfl)) (pgs_cons (pg_name (i := 5) sc_first_payments.nd rfl (Or.inl rfl)) (pgs_cons (pg_name (i := 6) sc_first_payments.nd rfl (Or.inl rfl)) pgs_nil))))
      (pss_cons (ps_dput hu (pv 3) (pe_tup (pa_cons (pv 4) (pa_cons (pv 5) pa_nil))) (pe_callB (call_min2 rfl) (by rfl) T.min bt_min (pa_cons (pv 6) (pa_cons (pe_callB (call_max2 rfl) (by rfl) T.max bt_max (pa_cons pe_int (pa_cons (pe_dget hu (pv 2) (pv 4) (fun _ _ => rfl)) pa_nil))) pa_nil))) rfl)
      (pss_cons (ps_dput hu (pv 3) (pe_tup (pa_cons (pv 5) (pa_cons (pv 4) pa_nil))) (pe_op op_sub (pv 6) (pe_dget hu (pv 3) (pe_tup (pa_cons (pv 4) (pa_cons (pv 5) pa_nil))) (fun _ _ => rfl))) rfl)
      (pss_cons (ps_daug hu (pv 2) (pv 4) (pe_dget hu (pv 3) (pe_tup (pa_cons (pv 4) (pa_cons (pv 5) pa_nil))) (fun _ _ => rfl)) in_sub (fun _ _ _ => rfl))
      (pss_one (ps_daug hu (pv 2) (pv 5) (pe_dget hu (pv 3) (pe_tup (pa_cons (pv 5) (pa_cons (pv 4) pa_nil))) (fun _ _ => rfl)) in_sub (fun _ _ _ => rfl)))))))
    (pss_one (ps_ret (pv 3))))), ?_⟩
  refine ⟨.ref dt, rfl, dt, _, rfl, .inl ht, fun dl nl dp np => ?_⟩
  have hl : upd (upd H dl (dI ns t)) dp (.dT []) dl = some (dI ns t) := new_get np upd_same
  have hd : upd (upd H dl (dI ns t)) dp (.dT []) dp = some (.dT []) := upd_same
  have k0 : Same H (upd (upd H dl (dI ns t)) dp (.dT [])) := Same.new (Same.new Same.rfl nl) np
  have np0 : H dp = none := none_of (Same.new Same.rfl nl) np
  have nlp : dl ≠ dp := fun e => by rw [← e, upd_same] at np; cases np
  have eT : (.dK (mkT kS ns fun x => V.int (t x)) : HO) = dI ns t := rfl
  rw [eT]
  generalize upd (upd H dl (dI ns t)) dp (.dT []) = H1 at hl hd k0
  obtain ⟨dx, d0, ha, hd0⟩ := hlot
  refine ⟨_, _, rfl, .ref a, rfl, a, dx, _, rfl, k0 _ _ ha, rfl, a, ps, T', rfl, ⟨dx, d0, k0 _ _ ha, k0 _ _ hd0⟩, lok.len, fun H2 l qs k1 pm nl2 hr2 => ?_⟩
  obtain ⟨ts, hl2, hts⟩ := hr2
  refine ⟨l, rfl, ⟨_, SqL.of hl2⟩, ?_⟩
  have hlt : ts.length = qs.length := by
    have z := Paired.length hts
    rw [List.length_map] at z
    exact z
  have hqs : qs.length ≤ 500 := by rw [pm.length_eq]; exact lok.len
  have ndq : qs.Nodup := pm.nodup_iff.mpr lok.nd
  have ltq : ∀ p ∈ qs, LtS p.1 p.2 := fun p hp => lok.lt p (pm.mem_iff.mp hp)
  have nbq : (both qs).Nodup := nodup_both ndq ltq
  refine for_it (walk_list (xs := ts.map V.ref)) (fun i σ H' => (∃ x4 x5 x6, σ = [some (.ref dt), some (.ref a), some (.ref dl), some (.ref dp), x4, x5, x6]) ∧ Same H H' ∧ H' l = some (.lst (ts.map V.ref)) ∧ (∀ b o, H2 b = some (.tup o) → H' b = some (.tup o)) ∧
    (∃ t2, H' dl = some (dI ns t2)) ∧ ∃ g, H' dp = some (dP (both (qs.take i)) g) ∧ (∀ q ∈ both (qs.take i), 0 ≤ g q) ∧ ∀ p ∈ qs.take i, g p + g (sw p) = T' p) ?_ ?_ ?_ ?_
  · exact ⟨⟨_, _, _, rfl⟩, Same.tr k0 k1, hl2, fun b o e => e, ⟨t, k1 _ _ hl⟩, fun _ => 0, k1 _ _ hd, fun q h => absurd h List.not_mem_nil, fun p h => absurd h List.not_mem_nil⟩
  · rintro i σ H3 _ ⟨_, _, h, _⟩
    exact SqL.of h
  · rintro i v σ H3 H4 hi ⟨⟨x4, x5, x6, rfl⟩, k3, hl3, ht3, ⟨t2, hdl⟩, g, hdp, nn, sm⟩ ⟨rfl, hv⟩
    obtain ⟨z, hzi, rfl⟩ := map_ref_get hv
    obtain ⟨r, hri, hrun⟩ := L2.paired_get hts hzi
    rw [List.getElem?_map] at hri
    obtain ⟨p, hpi, rfl⟩ := Option.map_eq_some_iff.mp hri
    obtain ⟨p1, p2⟩ := p
    have hmem := List.mem_of_getElem? hpi
    have hlt12 : LtS p1 p2 := ltq _ hmem
    have ne12 : p1 ≠ p2 := fun e => by rw [e] at hlt12; exact ltS_irr hlt12
    have hm1 : p1 ∈ ns := lok.m1 _ (pm.mem_iff.mp hmem)
    have hm2 : p2 ∈ ns := lok.m2 _ (pm.mem_iff.mp hmem)
    have hm0 : 0 ≤ T' (p1, p2) := by have := lok.pos _ (pm.mem_iff.mp hmem); omega
    have nin := nd_take ndq hpi
    have nb1 : (p1, p2) ∉ both (qs.take i) := fun h => by
      rcases mem_both.mp h with h | h
      · exact nin h
      · exact lt_asym hlt12 (ltq (p2, p1) (List.mem_of_mem_take h))
    have nb2 : (p2, p1) ∉ both (qs.take i) ++ [(p1, p2)] := fun h => by
      rcases List.mem_append.mp h with h | h
      · rcases mem_both.mp h with h | h
        · exact lt_asym hlt12 (ltq (p2, p1) (List.mem_of_mem_take h))
        · exact nin h
      · exact ne12 (congrArg Prod.snd (List.mem_singleton.mp h))
    have lb : (both (qs.take i)).length ≤ 1000 := by rw [length_both, List.length_take]; omega
    refine ⟨z, [.str p1, .str p2, .int (T' (p1, p2))], rfl, SqT.of (ht3 _ _ hrun), rfl, _, _, rfl, _, _, rfl, _, _, rfl, rfl, ?_⟩
    obtain ⟨c0, c1⟩ := min_max_ok (m := T' (p1, p2)) (x := t2 p1) hm0
    generalize hc : (if (if t2 p1 > 0 then t2 p1 else 0) < T' (p1, p2) then (if t2 p1 > 0 then t2 p1 else 0) else T' (p1, p2)) = c at c0 c1
    refine ⟨.int (T' (p1, p2)), rfl, .ref dl, rfl, .str p1, rfl, dl, _, rfl, dN_get hdl hm1, 0, t2 p1, rfl, T' (p1, p2), _, rfl, ?_⟩
    rw [hc]
    refine ⟨.ref dp, rfl, .str p1, rfl, .str p2, rfl, two_sz, fun u nu => ?_⟩
    have hdp4 := new_get (u := .tup [.str p1, .str p2]) nu hdp
    have hdl4 := new_get (u := .tup [.str p1, .str p2]) nu hdl
    have hl4 := new_get (u := .tup [.str p1, .str p2]) nu hl3
    have k4 : Same H (upd H4 u (.tup [.str p1, .str p2])) := Same.new k3 nu
    have ht4 : ∀ b o, H2 b = some (.tup o) → upd H4 u (.tup [.str p1, .str p2]) b = some (.tup o) := fun b o e => new_get nu (ht3 b o e)
    have hu4 : TwoAt (upd H4 u (.tup [.str p1, .str p2])) u (p1, p2) := upd_same
    generalize upd H4 u (.tup [.str p1, .str p2]) = H5 at hdp4 hdl4 hl4 k4 ht4 hu4
    refine ⟨dp, _, rfl, dP_new (n := c) hdp4 hu4 nb1 (lt_sz (by omega)), ?_⟩
    generalize hg1 : up g (p1, p2) c = g1
    have stay : ∀ {H5 : Hp} {o o' : HO}, H5 dp = some o' → (∀ xs, o' ≠ .tup xs) → (∀ b ys, H2 b = some (.tup ys) → H5 b = some (.tup ys)) → ∀ b ys, H2 b = some (.tup ys) → upd H5 dp o b = some (.tup ys) := fun h1 h2 h3 b ys e => by
      rw [upd_ne (fun e2 => by have z := h3 b ys e; rw [e2, h1] at z; exact h2 _ (Option.some.inj z))]
      exact h3 b ys e
    have e1 : g1 (p1, p2) = c := by rw [← hg1, up_self]
    have hdp6 : upd H5 dp (dP (both (qs.take i) ++ [(p1, p2)]) g1) dp = some (dP (both (qs.take i) ++ [(p1, p2)]) g1) := upd_same
    have hdl6 : upd H5 dp (dP (both (qs.take i) ++ [(p1, p2)]) g1) dl = some (dI ns t2) := by rw [upd_ne nlp]; exact hdl4
    have nldp : l ≠ dp := fun e => by rw [e, hdp] at hl3; cases hl3
    have nldl : l ≠ dl := fun e => by rw [e, hdl] at hl3; cases hl3
    have hl6 : upd H5 dp (dP (both (qs.take i) ++ [(p1, p2)]) g1) l = some (.lst (ts.map V.ref)) := by rw [upd_ne nldp]; exact hl4
    have k6 : Same H (upd H5 dp (dP (both (qs.take i) ++ [(p1, p2)]) g1)) := Same.wrN k4 np0
    have ht6 := stay (o := dP (both (qs.take i) ++ [(p1, p2)]) g1) hdp4 (fun xs e => by cases e) ht4
    generalize upd H5 dp (dP (both (qs.take i) ++ [(p1, p2)]) g1) = H6 at hdp6 hdl6 hl6 k6 ht6
    refine ⟨.int (T' (p1, p2)), rfl, .ref dp, rfl, .str p1, rfl, .str p2, rfl, two_sz, fun u2 nu2 => ?_⟩
    have hu7 : upd H6 u2 (.tup [.str p1, .str p2]) u2 = some (.tup [.str p1, .str p2]) := upd_same
    have hdp7 := new_get (u := .tup [.str p1, .str p2]) nu2 hdp6
    refine ⟨dp, _, rfl, dget_tup hdp7 hu7 (List.mem_append_right _ (List.mem_singleton.mpr rfl)), T' (p1, p2), g1 (p1, p2), rfl, rfl, ?_⟩
    refine ⟨.ref dp, rfl, .str p2, rfl, .str p1, rfl, two_sz, fun u3 nu3 => ?_⟩
    have hdp8 := new_get (u := .tup [.str p2, .str p1]) nu3 hdp7
    have hdl8 := new_get (u := .tup [.str p2, .str p1]) nu3 (new_get (u := .tup [.str p1, .str p2]) nu2 hdl6)
    have hl8 := new_get (u := .tup [.str p2, .str p1]) nu3 (new_get (u := .tup [.str p1, .str p2]) nu2 hl6)
    have k8 : Same H (upd (upd H6 u2 (.tup [.str p1, .str p2])) u3 (.tup [.str p2, .str p1])) := Same.new (Same.new k6 nu2) nu3
    have ht8 : ∀ b o, H2 b = some (.tup o) → upd (upd H6 u2 (.tup [.str p1, .str p2])) u3 (.tup [.str p2, .str p1]) b = some (.tup o) := fun b o e => new_get nu3 (new_get nu2 (ht6 b o e))
    have hu8 : TwoAt (upd (upd H6 u2 (.tup [.str p1, .str p2])) u3 (.tup [.str p2, .str p1])) u3 (p2, p1) := upd_same
    generalize upd (upd H6 u2 (.tup [.str p1, .str p2])) u3 (.tup [.str p2, .str p1]) = H8 at hdp8 hdl8 hl8 k8 ht8 hu8
    refine ⟨dp, _, rfl, dP_new (n := T' (p1, p2) - g1 (p1, p2)) hdp8 hu8 nb2 (lt_sz (by rw [List.length_append]; show _ + 1 ≤ _; omega)), ?_⟩
    have eb : both (qs.take i) ++ [(p1, p2)] ++ [(p2, p1)] = both (qs.take (i + 1)) := by rw [take_snoc hpi, both_snoc, List.append_assoc]; rfl
    rw [eb]
    generalize hg2 : up g1 (p2, p1) (T' (p1, p2) - g1 (p1, p2)) = g2
    have e2 : g2 (p2, p1) = T' (p1, p2) - c := by rw [← hg2, up_self, e1]
    have e3 : g2 (p1, p2) = c := by rw [← hg2, up_ne (fun e => ne12 (congrArg Prod.fst e)), e1]
    have e4 : ∀ q, q ≠ (p1, p2) → q ≠ (p2, p1) → g2 q = g q := fun q h1 h2 => by rw [← hg2, up_ne h2, ← hg1, up_ne h1]
    have in1 : (p1, p2) ∈ both (qs.take (i + 1)) := by rw [← eb]; exact List.mem_append_left _ (List.mem_append_right _ (List.mem_singleton.mpr rfl))
    have in2 : (p2, p1) ∈ both (qs.take (i + 1)) := by rw [← eb]; exact List.mem_append_right _ (List.mem_singleton.mpr rfl)
    have hdp9 : upd H8 dp (dP (both (qs.take (i + 1))) g2) dp = some (dP (both (qs.take (i + 1))) g2) := upd_same
    have hdl9 : upd H8 dp (dP (both (qs.take (i + 1))) g2) dl = some (dI ns t2) := by rw [upd_ne nlp]; exact hdl8
    have hl9 : upd H8 dp (dP (both (qs.take (i + 1))) g2) l = some (.lst (ts.map V.ref)) := by rw [upd_ne nldp]; exact hl8
    have k9 : Same H (upd H8 dp (dP (both (qs.take (i + 1))) g2)) := Same.wrN k8 np0
    have ht9 := stay (o := dP (both (qs.take (i + 1))) g2) hdp8 (fun xs e => by cases e) ht8
    generalize upd H8 dp (dP (both (qs.take (i + 1))) g2) = H9 at hdp9 hdl9 hl9 k9 ht9
    refine ⟨.ref dl, rfl, .str p1, rfl, dl, _, rfl, dN_get hdl9 hm1, .ref dp, rfl, .str p1, rfl, .str p2, rfl, two_sz, fun u4 nu4 => ?_⟩
    have hdpA := new_get (u := .tup [.str p1, .str p2]) nu4 hdp9
    have hdlA := new_get (u := .tup [.str p1, .str p2]) nu4 hdl9
    have hlA := new_get (u := .tup [.str p1, .str p2]) nu4 hl9
    have kA : Same H (upd H9 u4 (.tup [.str p1, .str p2])) := Same.new k9 nu4
    have htA : ∀ b o, H2 b = some (.tup o) → upd H9 u4 (.tup [.str p1, .str p2]) b = some (.tup o) := fun b o e => new_get nu4 (ht9 b o e)
    have huA : upd H9 u4 (.tup [.str p1, .str p2]) u4 = some (.tup [.str p1, .str p2]) := upd_same
    generalize upd H9 u4 (.tup [.str p1, .str p2]) = HA at hdpA hdlA hlA kA htA huA
    refine ⟨dp, _, rfl, dget_tup hdpA huA in1, t2 p1, g2 (p1, p2), rfl, rfl, _, dI_put hdlA hm1 (lt_sz (by omega)), ?_⟩
    generalize hn1 : up t2 p1 (t2 p1 - g2 (p1, p2)) = t3
    have nl0 : H dl = none := nl
    have stay2 : ∀ {H5 : Hp} {o o' : HO}, H5 dl = some o' → (∀ xs, o' ≠ .tup xs) → (∀ b ys, H2 b = some (.tup ys) → H5 b = some (.tup ys)) → ∀ b ys, H2 b = some (.tup ys) → upd H5 dl o b = some (.tup ys) := fun h1 h2 h3 b ys e => by
      rw [upd_ne (fun e2 => by have z := h3 b ys e; rw [e2, h1] at z; exact h2 _ (Option.some.inj z))]
      exact h3 b ys e
    have hdlB : upd HA dl (dI ns t3) dl = some (dI ns t3) := upd_same
    have hdpB : upd HA dl (dI ns t3) dp = some (dP (both (qs.take (i + 1))) g2) := by rw [upd_ne (Ne.symm nlp)]; exact hdpA
    have hlB : upd HA dl (dI ns t3) l = some (.lst (ts.map V.ref)) := by rw [upd_ne nldl]; exact hlA
    have kB : Same H (upd HA dl (dI ns t3)) := Same.wrN kA nl0
    have htB := stay2 (o := dI ns t3) hdlA (fun xs e => by cases e) htA
    generalize upd HA dl (dI ns t3) = HB at hdlB hdpB hlB kB htB
    refine ⟨.ref dl, rfl, .str p2, rfl, dl, _, rfl, dN_get hdlB hm2, .ref dp, rfl, .str p2, rfl, .str p1, rfl, two_sz, fun u5 nu5 => ?_⟩
    have hdpC := new_get (u := .tup [.str p2, .str p1]) nu5 hdpB
    have hdlC := new_get (u := .tup [.str p2, .str p1]) nu5 hdlB
    refine ⟨dp, _, rfl, dget_tup hdpC upd_same in2, t3 p2, g2 (p2, p1), rfl, rfl, _, dI_put hdlC hm2 (lt_sz (by omega)), ⟨_, _, _, rfl⟩, Same.wrN (Same.new kB nu5) nl0, ?_, ?_, ⟨_, upd_same⟩, g2, ?_, fun q hq => ?_, fun q hq => ?_⟩
    · rw [upd_ne nldl]; exact new_get nu5 hlB
    · exact stay2 hdlC (fun xs e => by cases e) fun b o e => new_get nu5 (htB b o e)
    · rw [upd_ne (Ne.symm nlp)]; exact hdpC
    · by_cases a1 : q = (p1, p2)
      · rw [a1, e3]; exact c0
      · by_cases a2 : q = (p2, p1)
        · rw [a2, e2]; omega
        · rw [e4 q a1 a2]
          rw [← eb] at hq
          rcases List.mem_append.mp hq with h | h
          · rcases List.mem_append.mp h with h | h
            · exact nn q h
            · exact absurd (List.mem_singleton.mp h) a1
          · exact absurd (List.mem_singleton.mp h) a2
    · rw [take_snoc hpi] at hq
      rcases List.mem_append.mp hq with h | h
      · have b1 : q ≠ (p1, p2) := fun e => nin (e ▸ h)
        have b2 : q ≠ (p2, p1) := fun e => lt_asym hlt12 (by have z := ltq q (List.mem_of_mem_take h); rw [e] at z; exact z)
        have b3 : sw q ≠ (p1, p2) := fun e => b2 (by
          show (q.1, q.2) = _
          rw [show q.1 = p2 from congrArg Prod.snd e, show q.2 = p1 from congrArg Prod.fst e])
        have b4 : sw q ≠ (p2, p1) := fun e => b1 (by
          show (q.1, q.2) = _
          rw [show q.1 = p1 from congrArg Prod.snd e, show q.2 = p2 from congrArg Prod.fst e])
        rw [e4 q b1 b2, e4 (sw q) b3 b4]
        exact sm q h
      · rw [List.mem_singleton.mp h]
        show g2 (p1, p2) + g2 (p2, p1) = _
        rw [e2, e3]; omega
  · rintro σ H3 ⟨⟨x4, x5, x6, rfl⟩, k3, hl3, ht3, _, g, hdp, nn, sm⟩
    rw [List.take_of_length_le (by rw [List.length_map]; omega)] at hdp nn sm
    refine ⟨.ref dp, rfl, q _ dp (both qs) g k3 np0 hdp ⟨?_, nn, fun p hp => sm p (pm.mem_iff.mpr hp)⟩⟩
    unfold both
    exact List.Perm.flatMap_right _ pm
end
end Ep

set_option Elab.async false
set_option linter.all false
set_option maxRecDepth 100000
set_option maxHeartbeats 4000000
/-! ## path_from -/
namespace Ep
open PySem PySem.Spec PyProof.Rows L2
section
variable {qs : List (Str × Str)} {g : Str × Str → Int} {src : Str} {bf : Str → Option Str} {x y v : Str} {l : List Str}
inductive Back (bf : Str → Option Str) (src : Str) : Str → List Str → Prop
  | root (h : bf src = none) : Back bf src src [src]
  | step {x y : Str} {l : List Str} (h : bf x = some y) (b : Back bf src y l) : Back bf src x (x :: l)
theorem Back.head (b : Back bf src x l) : ∃ r, l = x :: r := by cases b <;> exact ⟨_, rfl⟩
theorem Back.last (b : Back bf src x l) : ∃ r, l.reverse = src :: r := by
  induction b with
  | root h => exact ⟨[], rfl⟩
  | @step x y l h b ih =>
    obtain ⟨r, e⟩ := ih
    exact ⟨r ++ [x], by rw [List.reverse_cons, e]; rfl⟩
theorem Back.up {v : Str} {o : Option Str} (b : Back bf src x l) (h : v ∉ l) : Back (up bf v o) src x l := by
  induction b with
  | root h0 => exact .root (by rw [up_ne (fun e => h (by rw [← e]; exact List.mem_cons_self))]; exact h0)
  | @step x y l h0 b ih =>
    exact .step (by rw [up_ne (fun e => h (by rw [← e]; exact List.mem_cons_self))]; exact h0) (ih fun m => h (List.mem_cons_of_mem _ m))
theorem Way.snoc {m : Int} : ∀ {l : List Str} {x v : Str}, Way qs g m (l ++ [x]) → (x, v) ∈ qs → (v, x) ∈ qs → m ≤ g (x, v) → Way qs g m (l ++ [x, v])
  | [], x, v, _, h1, h2, h3 => ⟨h1, h2, h3, trivial⟩
  | [a], x, v, ⟨g1, g2, g3, _⟩, h1, h2, h3 => ⟨g1, g2, g3, h1, h2, h3, trivial⟩
  | a :: b :: r, x, v, ⟨g1, g2, g3, g4⟩, h1, h2, h3 => ⟨g1, g2, g3, Way.snoc (l := b :: r) g4 h1 h2 h3⟩
structure Tr (qs : List (Str × Str)) (g : Str × Str → Int) (src : Str) (row : List Str) (bf : Str → Option Str) : Prop where
  nd : row.Nodup
  back : ∀ x ∈ row, ∃ l, Back bf src x l ∧ l.Nodup ∧ (∀ z ∈ l, z ∈ row) ∧ Way qs g 1 l.reverse
theorem Tr.one (h : bf src = none) : Tr qs g src [src] bf :=
  ⟨List.nodup_cons.mpr ⟨List.not_mem_nil, List.nodup_nil⟩, fun x hx => by
    rw [List.mem_singleton.mp hx]
    exact ⟨[src], .root h, List.nodup_cons.mpr ⟨List.not_mem_nil, List.nodup_nil⟩, fun z hz => hz, trivial⟩⟩
theorem Tr.grow {row : List Str} (t : Tr qs g src row bf) (hx : x ∈ row) (hv : v ∉ row) (h1 : (x, v) ∈ qs) (h2 : (v, x) ∈ qs) (h3 : 1 ≤ g (x, v)) : Tr qs g src (row ++ [v]) (up bf v (some x)) := by
  refine ⟨List.nodup_append.mpr ⟨t.nd, List.nodup_cons.mpr ⟨List.not_mem_nil, List.nodup_nil⟩, fun a ha b hb e => hv (by rw [← List.mem_singleton.mp hb, ← e]; exact ha)⟩, fun z hz => ?_⟩
  rcases List.mem_append.mp hz with h | h
  · obtain ⟨l, b, n, m, w⟩ := t.back z h
    exact ⟨l, b.up fun q => hv (m _ q), n, fun z q => List.mem_append_left _ (m z q), w⟩
  · rw [List.mem_singleton.mp h]
    obtain ⟨l, b, n, m, w⟩ := t.back x hx
    have hvl : v ∉ l := fun q => hv (m _ q)
    obtain ⟨r, e⟩ := b.head
    refine ⟨v :: l, .step (up_self _ _ _) (b.up hvl), List.nodup_cons.mpr ⟨hvl, n⟩, fun z q => ?_, ?_⟩
    · rcases List.mem_cons.mp q with q | q
      · rw [q]; exact List.mem_append_right _ (List.mem_singleton.mpr rfl)
      · exact List.mem_append_left _ (m z q)
    · rw [List.reverse_cons, e, List.reverse_cons, List.append_assoc]
      rw [e, List.reverse_cons] at w
      exact Way.snoc w h1 h2 h3
end
def bV : Option Str → V
  | none => .non
  | some y => .str y
section
variable {P : Program} {w : World} {K : PySem.W.Frag} {mg : Str → Option Value} {base : Heap} {f : Addr} {fd : FuncData}
/-- path_from(paid, links, [src], is_goal) -/
def p_path_from : Sp := fun vs H Q _ => ∃ dp dl ds dg qs g src ns, ∃ G : Str → Bool, vs = [.ref dp, .ref dl, .ref ds, .ref dg] ∧ H dp = some (dP qs g) ∧ qs.length ≤ 1000 ∧ (∀ q ∈ qs, q.2 ∈ ns ∧ (q.2, q.1) ∈ qs) ∧ LinksAt H dl qs ∧ H ds = some (.lst [.str src]) ∧ src ∈ ns ∧
  H dg = some (dN ns fun x => .bl (G x)) ∧ ns.length ≤ 24 ∧
  (∀ H' p lp lr r, ∀ row : List V, Same H H' → (src :: r).Nodup → (∀ z ∈ src :: r, z ∈ ns) → Way qs g 1 (src :: r) → G ((src :: r).getLast (List.cons_ne_nil _ _)) = true →
    H' p = some (.tup [.ref lp, .ref lr]) → H' lp = some (.lst ((src :: r).map V.str)) → H' lr = some (.lst row) → H lp = none → Q (.ref p) H') ∧
  (∀ H' p lr, ∀ row : List Str, Same H H' → row.Nodup → src ∈ row → (∀ z ∈ row, z ∈ ns ∧ G z = false) → (∀ q ∈ qs, q.1 ∈ row → q.2 ∉ row → g q ≤ 0) →
    H' p = some (.tup [.non, .ref lr]) → H' lr = some (.lst (row.map V.str)) → H lr = none → Q (.ref p) H')
abbrev s_path_from : Stmt := top 34
abbrev N_path_from : List Str := ["paid", "links", "sources", "is_goal", "before", "row", "at", "player", "path", "other", "source"]
theorem sc_path_from : FnScope N_path_from ["paid", "links", "sources", "is_goal"] (defScope s_path_from) := ⟨rfl, rfl, rfl, by decide +kernel, rfl, by decide +kernel, by decide +kernel⟩
theorem ok_path_from (F : FnP K "path_from" "path_from" s_path_from f fd) (T : Txt K mg) : FnOk P w K mg base CX0 1 f fd ["paid", "links", "sources", "is_goal"] p_path_from := by
  refine ok0 F sc_path_from (fun _ _ _ _ h => by obtain ⟨a, l, x, y, z, u, v, x2, y2, rfl, _⟩ := h; rfl) fun cdv A outer s H vs Q E hr h => ?_
  obtain ⟨dp, dl, ds, dg, qs, g, src, ns, G, rfl, hp, hql, hin, hlk, hs, hsrc, hg, hns, q1, q2⟩ := h
  have hu := hu_of hr
  refine ⟨_, (pss_cons (ps_setDc (i := 4) (own := [("source", 10)]) (g := gName 10) (tt := tYes) rfl sc_path_from.nd rfl rfl (swD_true rfl rfl rfl (by decide +kernel)) (pi_list (pv 2)) (blkOk_by (own := [("source", 10)]) (N := N_path_from) (sc := defScope s_path_from) (by decide +kernel)) (fun _ _ _ _ _ => (pg_name (i := 10) sc_path_from.nd rfl (Or.inl rfl))) (fun _ _ _ _ _ => pts_nil) (fun _ _ _ _ _ => (pv 10)) (fun _ _ _ _ _ => pe_non))
    (pss_cons (ps_par (i := 5) (j := 6) (by rfl) sc_path_from.nd rfl rfl (by decide) rfl rfl (pa_cons (pe_callTy call_list_of (by rfl) T.list bt_list (pa_cons (pv 2) pa_nil)) (pa_cons pe_int pa_nil)) (by rfl))
    (pss_cons (ps_while PassesOwn.never (pt_cmpR op_lt (pv 6) (pe_callB call_len_seq (by rfl) T.len bt_len (pa_cons (pv 5) pa_nil)) (nomark _))
      (pss_cons (ps_set (i := 7) sc_path_from.nd rfl (Or.inl rfl) (pe_ix ix_list (pv 5) (pv 6) (fun _ _ => rfl)))
      (pss_cons (ps_aug (i := 6) sc_path_from.nd rfl (Or.inl rfl) pe_int ip_add)
      (pss_cons (ps_if (pt_val (pe_dget hu (pv 3) (pv 7) (fun _ _ => rfl)))
        (pss_cons (ps_set (i := 8) sc_path_from.nd rfl (Or.inl rfl) (pe_lst (pa_cons (pv 7) pa_nil)))
        (pss_cons (ps_while PassesOwn.never (pt_cmpR op_notN (pe_dget hu (pv 4) (pe_ix ix_list (pv 8) (pe_un un_neg pe_int) (fun _ _ => rfl)) (fun _ _ => rfl)) pe_non (nomark _))
          (pss_one (ps_expr (pe_bm PySem.F.plainAttrs_list PySem.F.slot_list_append PySem.F.type_list_append mt_append (pv 8) (pa_cons (pe_dget hu (pv 4) (pe_ix ix_list (pv 8) (pe_un un_neg pe_int) (fun _ _ => rfl)) (fun _ _ => rfl)) pa_nil)))))
        (pss_one (ps_ret (pe_tup (pa_cons (pe_revL (pv 8)) (pa_cons (pv 5) pa_nil)))))))
        pss_nil)
      (pss_one (ps_for PassesOwn.never rfl (pi_list (pe_dget2 hu (pv 1) (pv 7) (pe_lst pa_nil) ⟨rfl, rfl, rfl, rfl⟩)) (pg_name (i := 9) sc_path_from.nd rfl (Or.inl rfl))
        (pss_one (ps_if (PW.pt (pw_and (pt_cmp (pc_dnotin hu (pv 9) (pv 4))) (pw_and1 (pt_cmpR op_gt (pe_dget hu (pv 0) (pe_tup (pa_cons (pv 7) (pa_cons (pv 9) pa_nil))) (fun _ _ => rfl)) pe_int (nomark _)))))
          (pss_cons (ps_dput hu (pv 4) (pv 9) (pv 7) rfl)
          (pss_one (ps_expr (pe_bm PySem.F.plainAttrs_list PySem.F.slot_list_append PySem.F.type_list_append mt_append (pv 5) (pa_cons (pv 9) pa_nil)))))
          pss_nil))))))))
    (pss_one (ps_ret (pe_tup (pa_cons pe_non (pa_cons (pv 5) pa_nil)))))))), ?_⟩
  refine ⟨.ref ds, rfl, ds, rfl, ⟨_, SqL.of hs⟩, fun b nb => ?_⟩
  have nsb : ds ≠ b := ne_of_none hs nb
  refine dc_it (walk_list (xs := [.str src])) (fun i H' => Same H H' ∧ H' b = some (dN ([src].take i) fun _ => .non)) ?_ ?_ ?_ ?_
  · exact ⟨Same.new Same.rfl nb, upd_same⟩
  · rintro i H1 _ ⟨k, _⟩
    exact SqL.of (k _ _ hs)
  · rintro i v H1 H2 hi ⟨k, hb⟩ ⟨rfl, hv⟩
    match i, hi, hv, hb with
    | 0, _, hv, hb =>
      cases (show some (V.str src) = some v from hv)
      exact ⟨rfl, .str src, rfl, _, kS src, rfl, hb, lt_sz (Nat.zero_le _), Same.wrN k nb, by rw [upd_same]; rfl⟩
  rintro H1 ⟨k1, hb1⟩
  have hb1 : H1 b = some (dN [src] fun _ => .non) := hb1
  refine ⟨.ref ds, rfl, ds, _, rfl, .inl (SqL.of (k1 _ _ hs)), fun r nr => ⟨_, _, rfl, ?_⟩⟩
  have nr0 : H r = none := none_of k1 nr
  have k2 : Same H (upd H1 r (.lst [.str src])) := Same.new k1 nr
  have hb2 : upd H1 r (.lst [.str src]) b = some (dN [src] fun _ => .non) := new_get nr hb1
  have nbr : b ≠ r := ne_of_none hb1 nr
  have ndgb : dg ≠ b := ne_of_none hg nb
  have ndgr : dg ≠ r := ne_of_none hg nr0
  refine ⟨fun m σ H' => (∃ x7 x8 x9 x10, ∃ dn rest bf, σ = [some (.ref dp), some (.ref dl), some (.ref ds), some (.ref dg), some (.ref b), some (.ref r), some (.int (dn.length : Nat)), x7, x8, x9, x10] ∧ m = 24 - dn.length ∧
    Same H H' ∧ H' b = some (dN (dn ++ rest) fun x => bV (bf x)) ∧ H' r = some (.lst ((dn ++ rest).map V.str)) ∧ Tr qs g src (dn ++ rest) bf ∧ (∀ z ∈ dn ++ rest, z ∈ ns) ∧ src ∈ dn ++ rest ∧
    ∀ z ∈ dn, G z = false ∧ ∀ v, (z, v) ∈ qs → 0 < g (z, v) → v ∈ dn ++ rest), ⟨24, ?_⟩, ?_⟩
  · refine ⟨_, _, _, _, [], [src], fun _ => none, rfl, rfl, k2, hb2, upd_same, Tr.one rfl, fun z hz => by rw [List.mem_singleton.mp hz]; exact hsrc, List.mem_singleton.mpr rfl, fun z hz => absurd hz List.not_mem_nil⟩
  rintro m σ H2 ⟨x7, x8, x9, x10, dn, rest, bf, rfl, rfl, k3, hb3, hr3, tr, hrn, hsr, hdn⟩
  have hrow : (dn ++ rest).length ≤ 24 := Nat.le_trans (List.Nodup.length_le_of_subset tr.nd fun z hz => hrn z hz) hns
  have hlen : ((dn ++ rest).map V.str).length = dn.length + rest.length := by rw [List.length_map, List.length_append]
  cases rest with
  | nil =>
    refine ⟨.int (dn.length : Nat), rfl, .ref r, rfl, r, _, rfl, .inl (SqL.of hr3), (dn.length : Nat), _, rfl, rfl, false, bl_f (by rw [hlen]; simp), ?_⟩
    refine ⟨.ref r, rfl, two_sz, fun p np => ?_⟩
    have e : dn ++ [] = dn := List.append_nil dn
    rw [e] at hr3 tr hrn hsr hdn
    refine q2 _ p r dn (Same.new k3 np) tr.nd hsr (fun z hz => ⟨hrn z hz, (hdn z hz).1⟩) (fun q hq h1 h2 => ?_) upd_same (new_get np hr3) nr0
    refine Int.not_lt.mp fun h3 => h2 ((hdn q.1 h1).2 q.2 hq h3)
  | cons x rest =>
    refine ⟨.int (dn.length : Nat), rfl, .ref r, rfl, r, _, rfl, .inl (SqL.of hr3), (dn.length : Nat), _, rfl, rfl, true, bl_t (by rw [hlen, List.length_cons]; omega), ?_⟩
    rw [List.length_append, List.length_cons] at hrow
    refine ⟨fun σ' H' => ∃ m', m' < 24 - dn.length ∧ (∃ x7 x8 x9 x10, ∃ dn rest bf, σ' = [some (.ref dp), some (.ref dl), some (.ref ds), some (.ref dg), some (.ref b), some (.ref r), some (.int (dn.length : Nat)), x7, x8, x9, x10] ∧ m' = 24 - dn.length ∧
      Same H H' ∧ H' b = some (dN (dn ++ rest) fun x => bV (bf x)) ∧ H' r = some (.lst ((dn ++ rest).map V.str)) ∧ Tr qs g src (dn ++ rest) bf ∧ (∀ z ∈ dn ++ rest, z ∈ ns) ∧ src ∈ dn ++ rest ∧
      ∀ z ∈ dn, G z = false ∧ ∀ v, (z, v) ∈ qs → 0 < g (z, v) → v ∈ dn ++ rest), fun _ _ h => h, ?_⟩
    have hx : ((dn ++ x :: rest).map V.str)[dn.length]? = some (.str x) := by
      rw [List.getElem?_map, List.getElem?_append_right (Nat.le_refl _), Nat.sub_self]; rfl
    have hxr : x ∈ dn ++ x :: rest := List.mem_append_right _ List.mem_cons_self
    have hxn := hrn x hxr
    refine ⟨.ref r, rfl, .int (dn.length : Nat), rfl, r, _, _, .str x, rfl, rfl, SqL.of hr3, atI_nat hx, ?_⟩
    refine ⟨.int (dn.length : Nat), rfl, _, 1, rfl, rfl, ?_⟩
    cases hG : G x with
    | true =>
      refine ⟨.ref dg, rfl, .str x, rfl, dg, _, rfl, dN_get (k3 _ _ hg) hxn, true, congrArg V.bl hG, ?_⟩
      obtain ⟨l, hbk, hnd, hlr, hway⟩ := tr.back x hxr
      refine ⟨.str x, rfl, (show 1 ≤ sizeLine by decide), fun pa npa => ?_⟩
      have npa0 : H pa = none := none_of k3 npa
      have nbpa : b ≠ pa := ne_of_none hb3 npa
      have nrpa : r ≠ pa := ne_of_none hr3 npa
      have k4 : Same H (upd H2 pa (.lst [.str x])) := Same.new k3 npa
      obtain ⟨rs0, e0⟩ := hbk.head
      refine ⟨fun m σ H' => ∃ dn' y rs, σ = [some (.ref dp), some (.ref dl), some (.ref ds), some (.ref dg), some (.ref b), some (.ref r), some (.int ((dn.length : Nat) + 1)), some (.str x), some (.ref pa), x9, x10] ∧ m = rs.length ∧
        Same H H' ∧ H' b = some (dN (dn ++ x :: rest) fun x => bV (bf x)) ∧ H' r = some (.lst ((dn ++ x :: rest).map V.str)) ∧ H' pa = some (.lst ((dn' ++ [y]).map V.str)) ∧ l = dn' ++ y :: rs ∧ Back bf src y (y :: rs), ⟨rs0.length, ?_⟩, ?_⟩
      · have hbk2 := hbk
        rw [e0] at hbk2
        exact ⟨[], x, rs0, rfl, rfl, k4, new_get npa hb3, new_get npa hr3, upd_same, e0, hbk2⟩
      rintro m σ H3 ⟨dn', y, rs, rfl, rfl, k5, hb5, hr5, hpa, hl, hy⟩
      have hyr : y ∈ dn ++ x :: rest := hlr y (by rw [hl]; exact List.mem_append_right _ List.mem_cons_self)
      have hlast : atI ((dn' ++ [y]).map V.str) (-1) = some (.str y) := by rw [List.map_append]; exact atI_last _ _
      cases hy with
      | root h0 =>
        have e0 : bV (bf src) = .non := by rw [h0]; rfl
        refine ⟨.ref b, rfl, .ref pa, rfl, 1, rfl, pa, _, _, .str src, rfl, rfl, SqL.of hpa, hlast, b, _, rfl, dN_get hb5 hyr, rfl, false, by rw [e0]; rfl, ?_⟩
        refine ⟨.ref pa, rfl, pa, _, rfl, SqL.of hpa, fun lp nlp => ⟨.ref r, rfl, two_sz, fun p np => ?_⟩⟩
        obtain ⟨rr, er⟩ := hbk.last
        have elp : ((dn' ++ [src]).map V.str).reverse = (src :: rr).map V.str := by rw [← List.map_reverse, ← hl, er]
        have hnd' : (src :: rr).Nodup := by rw [← er]; exact (List.reverse_perm l).nodup_iff.mpr hnd
        have hlast' : (src :: rr).getLast (List.cons_ne_nil _ _) = x := by
          obtain ⟨rs, e⟩ := hbk.head
          have e2 : src :: rr = rs.reverse ++ [x] := by rw [← er, e, List.reverse_cons]
          have e3 := congrArg List.getLast? e2
          rw [List.getLast?_append, List.getLast?_singleton, List.getLast?_eq_some_getLast (List.cons_ne_nil _ _)] at e3
          exact Option.some.inj e3
        refine q1 _ p lp r rr _ (Same.new (Same.new k5 nlp) np) hnd' (fun z hz => ?_) (by rw [← er]; exact hway) (by rw [hlast']; exact hG) upd_same (new_get np (by rw [upd_same, elp])) (new_get np (new_get nlp hr5)) (none_of k5 nlp)
        have : z ∈ l.reverse := by rw [er]; exact hz
        exact hrn z (hlr z (List.mem_reverse.mp this))
      | @step _ y2 _ h0 b2 =>
        have e0 : bV (bf y) = .str y2 := by rw [h0]; rfl
        refine ⟨.ref b, rfl, .ref pa, rfl, 1, rfl, pa, _, _, .str y, rfl, rfl, SqL.of hpa, hlast, b, _, rfl, dN_get hb5 hyr, rfl, true, by rw [e0]; rfl, ?_⟩
        obtain ⟨rs2, e2⟩ := b2.head
        subst e2
        refine ⟨fun σ' H' => ∃ m', m' < (y2 :: rs2).length ∧ ∃ dn' y rs, σ' = [some (.ref dp), some (.ref dl), some (.ref ds), some (.ref dg), some (.ref b), some (.ref r), some (.int ((dn.length : Nat) + 1)), some (.str x), some (.ref pa), x9, x10] ∧ m' = rs.length ∧
          Same H H' ∧ H' b = some (dN (dn ++ x :: rest) fun x => bV (bf x)) ∧ H' r = some (.lst ((dn ++ x :: rest).map V.str)) ∧ H' pa = some (.lst ((dn' ++ [y]).map V.str)) ∧ l = dn' ++ y :: rs ∧ Back bf src y (y :: rs), fun _ _ h => h, ?_⟩
        refine ⟨.ref pa, rfl, .inl ⟨rfl, _, SqL.of hpa⟩, .ref b, rfl, .ref pa, rfl, 1, rfl, pa, _, _, .str y, rfl, rfl, SqL.of hpa, hlast, b, _, rfl, dN_get hb5 hyr, pa, _, _, rfl, rfl, hpa, ?_, ?_⟩
        · rw [List.length_map]
          have h1 : (dn' ++ [y]).length ≤ l.length := by rw [hl, List.length_append, List.length_append, List.length_cons, List.length_cons]; simp
          have h2 : l.length ≤ 24 := Nat.le_trans (List.Nodup.length_le_of_subset hnd fun z hz => hrn z (hlr z hz)) hns
          exact lt_sz (by omega)
        · refine ⟨rs2.length, by simp, dn' ++ [y], y2, rs2, rfl, rfl, Same.wrN k5 npa0, by rw [upd_ne nbpa]; exact hb5, by rw [upd_ne nrpa]; exact hr5, ?_, by rw [hl, List.append_assoc]; rfl, b2⟩
          rw [upd_same, e0, List.map_append, List.map_append, List.map_append]
          rfl
    | false =>
      refine ⟨.ref dg, rfl, .str x, rfl, dg, _, rfl, dN_get (k3 _ _ hg) hxn, false, congrArg V.bl hG, ?_⟩
      obtain ⟨ps, L, hl1, hl2, hl3, hl4⟩ := hlk
      have hll := k3 _ _ hl1
      refine ⟨.ref dl, rfl, dl, rfl, isD_N hll, .str x, rfl, Nat.zero_le _, fun le nle => ?_⟩
      have k4 : Same H (upd H2 le (.lst [])) := Same.new k3 nle
      have hb4 := new_get (u := .lst []) nle hb3
      have hr4 := new_get (u := .lst []) nle hr3
      have fin : ∃ o a, ∃ os : List Str, DGet (upd H2 le (.lst [])) dl (.str x) o ∧ o.getD (.ref le) = .ref a ∧ upd H2 le (.lst []) a = some (.lst (os.map V.str)) ∧ a ≠ r ∧ (∀ v, v ∈ os ↔ (x, v) ∈ qs) := by
        by_cases c : x ∈ ps
        · obtain ⟨os, ho, _, hv⟩ := hl4 x c
          exact ⟨_, L x, os, dN_get (k4 _ _ hl1) c, rfl, k4 _ _ ho, ne_of_none ho nr0, hv⟩
        · refine ⟨_, le, [], dN_no (k4 _ _ hl1) c, rfl, upd_same, fun e => ?_, fun v => ⟨fun h => absurd h List.not_mem_nil, fun h => absurd (hl2 _ h) c⟩⟩
          rw [e, hr3] at nle
          cases nle
      obtain ⟨o, a, os, hg1, hg2, hao, nar, hos⟩ := fin
      refine ⟨o, hg1, a, hg2, ⟨_, SqL.of hao⟩, ?_⟩
      have nab : a ≠ b := fun e => by rw [e, hb4] at hao; cases hao
      generalize upd H2 le (.lst []) = H3 at k4 hb4 hr4 hao
      refine for_it (walk_list (xs := os.map V.str)) (fun j σ H' => ∃ x9 rj bj, σ = [some (.ref dp), some (.ref dl), some (.ref ds), some (.ref dg), some (.ref b), some (.ref r), some (.int ((dn.length : Nat) + 1)), some (.str x), x8, x9, x10] ∧
        Same H H' ∧ H' a = some (.lst (os.map V.str)) ∧ H' b = some (dN (dn ++ x :: rj) fun x => bV (bj x)) ∧ H' r = some (.lst ((dn ++ x :: rj).map V.str)) ∧ Tr qs g src (dn ++ x :: rj) bj ∧ (∀ z ∈ dn ++ x :: rj, z ∈ ns) ∧
        (∀ z ∈ dn ++ x :: rest, z ∈ dn ++ x :: rj) ∧ ∀ v ∈ os.take j, 0 < g (x, v) → v ∈ dn ++ x :: rj) ?_ ?_ ?_ ?_
      · exact ⟨_, rest, bf, rfl, k4, hao, hb4, hr4, tr, hrn, fun z hz => hz, fun v hv => absurd hv List.not_mem_nil⟩
      · rintro j σ H4 _ ⟨_, _, _, _, _, h, _⟩
        exact SqL.of h
      · rintro j v σ H4 H5 hj ⟨x9', rj, bj, rfl, k5, ha5, hb5, hr5, trj, hrnj, hold, hos5⟩ ⟨rfl, hv⟩
        obtain ⟨ot, hot, rfl⟩ := map_str_get hv
        have hq : (x, ot) ∈ qs := (hos ot).mp (List.mem_of_getElem? hot)
        have hlenj : (dn ++ x :: rj).length ≤ 24 := Nat.le_trans (List.Nodup.length_le_of_subset trj.nd fun z hz => hrnj z hz) hns
        by_cases c : ot ∈ dn ++ x :: rj
        · refine ⟨.str ot, rfl, .ref b, rfl, b, _, rfl, dN_get hb5 c, false, rfl, ?_⟩
          refine ⟨_, rj, bj, rfl, k5, ha5, hb5, hr5, trj, hrnj, hold, fun v hv h => ?_⟩
          rw [take_snoc hot] at hv
          rcases List.mem_append.mp hv with hv | hv
          · exact hos5 v hv h
          · rw [List.mem_singleton.mp hv]; exact c
        · refine ⟨.str ot, rfl, .ref b, rfl, b, _, rfl, dN_no hb5 c, true, rfl, ?_⟩
          refine ⟨.ref dp, rfl, .str x, rfl, .str ot, rfl, two_sz, fun u nu => ?_⟩
          have hb6 := new_get (u := .tup [.str x, .str ot]) nu hb5
          have hr6 := new_get (u := .tup [.str x, .str ot]) nu hr5
          have ha6 := new_get (u := .tup [.str x, .str ot]) nu ha5
          have k6 : Same H (upd H5 u (.tup [.str x, .str ot])) := Same.new k5 nu
          have hget := dget_tup (k6 _ _ hp) upd_same hq
          generalize upd H5 u (.tup [.str x, .str ot]) = H6 at hb6 hr6 ha6 k6 hget
          by_cases hpos : 0 < g (x, ot)
          · refine ⟨dp, _, rfl, hget, _, 0, rfl, rfl, true, bl_t hpos, ?_⟩
            refine ⟨.str x, rfl, .ref b, rfl, .str ot, rfl, b, _, rfl, dN_new hb6 c (lt_sz (by omega)), ?_⟩
            refine ⟨.ref r, rfl, .inl ⟨rfl, _, SqL.of (by rw [upd_ne (Ne.symm nbr)]; exact hr6)⟩, .str ot, rfl, r, _, _, rfl, rfl, by rw [upd_ne (Ne.symm nbr)]; exact hr6, by rw [List.length_map]; exact lt_sz (by omega), ?_⟩
            have e1 : dn ++ x :: rj ++ [ot] = dn ++ x :: (rj ++ [ot]) := by rw [List.append_assoc]; rfl
            have tr2 := trj.grow (List.mem_append_right _ List.mem_cons_self) c hq (hin _ hq).2 (show 1 ≤ g (x, ot) by omega)
            rw [e1] at tr2
            refine ⟨_, rj ++ [ot], up bj ot (some x), rfl, Same.wrN (Same.wrN k6 nb) nr0, ?_, ?_, ?_, tr2, fun z hz => ?_, fun z hz => ?_, fun v hv h => ?_⟩
            · rw [upd_ne nar, upd_ne nab]; exact ha6
            · rw [upd_ne nbr, upd_same, e1, up_fun]; rfl
            · rw [upd_same, ← e1, List.map_append (l₂ := [ot])]; rfl
            · rw [← e1] at hz
              rcases List.mem_append.mp hz with hz | hz
              · exact hrnj z hz
              · rw [List.mem_singleton.mp hz]; exact (hin _ hq).1
            · rw [← e1]; exact List.mem_append_left _ (hold z hz)
            · rw [← e1]
              rw [take_snoc hot] at hv
              rcases List.mem_append.mp hv with hv | hv
              · exact List.mem_append_left _ (hos5 v hv h)
              · rw [List.mem_singleton.mp hv]; exact List.mem_append_right _ (List.mem_singleton.mpr rfl)
          · refine ⟨dp, _, rfl, hget, _, 0, rfl, rfl, false, bl_f hpos, ?_⟩
            refine ⟨_, rj, bj, rfl, k6, ha6, hb6, hr6, trj, hrnj, hold, fun v hv h => ?_⟩
            rw [take_snoc hot] at hv
            rcases List.mem_append.mp hv with hv | hv
            · exact hos5 v hv h
            · rw [List.mem_singleton.mp hv] at h; exact absurd h hpos
      · rintro σ H4 ⟨x9', rj, bj, rfl, k5, ha5, hb5, hr5, trj, hrnj, hold, hos5⟩
        rw [List.take_of_length_le (by rw [List.length_map]; exact Nat.le_refl _)] at hos5
        have e1 : dn ++ [x] ++ rj = dn ++ x :: rj := by rw [List.append_assoc]; rfl
        refine ⟨24 - (dn ++ [x]).length, by rw [List.length_append, List.length_singleton]; omega, some (.str x), x8, x9', x10, dn ++ [x], rj, bj, ?_, rfl, k5, by rw [e1]; exact hb5, by rw [e1]; exact hr5, by rw [e1]; exact trj, by rw [e1]; exact hrnj, by rw [e1]; exact hold _ hsr, fun z hz => ?_⟩
        · rw [List.length_append, List.length_singleton]; rfl
        · rw [e1]
          rcases List.mem_append.mp hz with hz | hz
          · exact ⟨(hdn z hz).1, fun v h1 h2 => hold _ ((hdn z hz).2 v h1 h2)⟩
          · rw [List.mem_singleton.mp hz]
            exact ⟨hG, fun v h1 h2 => hos5 v ((hos v).mpr h1) h2⟩
end
end Ep

set_option Elab.async false
set_option linter.all false
set_option maxRecDepth 100000
set_option maxHeartbeats 4000000
/-! ## runs_of, left_by -/
namespace Ep
open PySem PySem.Spec PyProof.Rows L2
def min3 (a b c : Int) : Int := if c < (if b < a then b else a) then c else (if b < a then b else a)
theorem min3_eq (a b c : Int) : nuMin3 (.int a) (.int b) (.int c) = some (.int (min3 a b c)) := by
  unfold nuMin3 nuMin2 min3
  have e1 : nuLt (.int b) (.int a) = some (decide (b < a)) := rfl
  rw [e1]
  show (some (if decide (b < a) = true then V.int b else V.int a)).bind _ = _
  by_cases h : b < a
  · rw [if_pos (decide_eq_true h), if_pos h]
    rw [Option.bind_some]
    have e2 : nuLt (.int c) (.int b) = some (decide (c < b)) := rfl
    rw [e2]
    by_cases h2 : c < b
    · rw [if_pos h2, decide_eq_true h2]; rfl
    · rw [if_neg h2, decide_eq_false h2]; rfl
  · rw [if_neg (by simpa using h), if_neg h]
    rw [Option.bind_some]
    have e2 : nuLt (.int c) (.int a) = some (decide (c < a)) := rfl
    rw [e2]
    by_cases h2 : c < a
    · rw [if_pos h2, decide_eq_true h2]; rfl
    · rw [if_neg h2, decide_eq_false h2]; rfl
theorem min3_le (a b c : Int) : min3 a b c ≤ a ∧ min3 a b c ≤ b ∧ min3 a b c ≤ c := by
  unfold min3
  split <;> split <;> omega
theorem min3_pos {a b c : Int} (ha : 1 ≤ a) (hb : 1 ≤ b) (hc : 1 ≤ c) : 1 ≤ min3 a b c := by
  unfold min3
  split <;> split <;> omega
/-! ### dict(list of pairs) -/
theorem merge_mk {f : Str → V} : ∀ (b a : List Str), (a ++ b).Nodup → mergeK (mkT kS a f) (mkT kS b f) = mkT kS (a ++ b) f
  | [], a, _ => by rw [List.append_nil]; rfl
  | x :: b, a, nd => by
    have e : a ++ x :: b = (a ++ [x]) ++ b := by rw [List.append_assoc]; rfl
    have nx : x ∉ a := fun h => (List.nodup_append.mp nd).2.2 x h x List.mem_cons_self rfl
    show mergeK (putK (mkT kS a f) (kS x) (f x)) (mkT kS b f) = _
    rw [putK_mk_new kS_inj nx, mkT_congr (g := f) fun y _ => by
      unfold up
      split
      · rename_i e; rw [e]
      · rfl]
    rw [e] at nd ⊢
    exact merge_mk b (a ++ [x]) nd
theorem merge_nil {f : Str → V} {ns : List Str} (nd : ns.Nodup) : mergeK [] (mkT kS ns f) = mkT kS ns f := merge_mk ns [] nd
theorem ents_pairs {K : PySem.W.Frag} {H : Hp} {t : Str → Int} : ∀ {ts : List Addr} {ns : List Str}, Paired (fun u x => H u = some (.tup (cE t x))) ts ns → Paired (fun p kv => SqT K H p [kV kv.1, kv.2]) ts (mkT kS ns fun x => .int (t x))
  | _, _, .nil => .nil
  | _, _, .cons h r => .cons (SqT.of h) (ents_pairs r)
def spentR (rs : List Run) (x : Str) : Int := su rs fun r => if r.1 = x then r.2.2 else 0
theorem spentR_snoc {rs : List Run} {r : Run} : spentR (rs ++ [r]) = up (spentR rs) r.1 (spentR rs r.1 + r.2.2) := by
  funext y
  unfold spentR up
  rw [su_app, su_cons, su_nil]
  by_cases e : y = r.1
  · rw [if_pos e, if_pos e.symm, e]; omega
  · rw [if_neg e, if_neg fun z => e z.symm]; show _ = su rs _; omega
theorem sub_up {t s : Str → Int} {x : Str} {c : Int} : up (fun y => t y - s y) x (t x - s x - c) = fun y => t y - up s x (s x + c) y := by
  funext y
  unfold up
  split
  · rename_i e; rw [e]; omega
  · rfl
def runsL (qs : List (Str × Str)) (g : Str × Str → Int) : List Run := (qs.filter fun q => decide (0 < g q)).map fun q => (q.1, q.2, g q)
def cR (q : Run) : List V := [.str q.1, .str q.2.1, .int q.2.2]
section
variable {P : Program} {w : World} {K : PySem.W.Frag} {mg : Str → Option Value} {base : Heap} {f : Addr} {fd : FuncData}
def p_runs_of : Sp := fun vs H Q _ => ∃ d qs g, vs = [.ref d] ∧ H d = some (dP qs g) ∧ qs.Nodup ∧ qs.length ≤ 1000 ∧
  ∀ H' l, ∀ qs' : List (Str × Str), Same H H' → qs'.Perm qs → qs'.Pairwise LtP → H l = none → RunsAt H' l (runsL qs' g) → Q (.ref l) H'
abbrev s_runs_of : Stmt := top 39
abbrev N_runs_of : List Str := ["paid", "payer", "other"]
theorem sc_runs_of : FnScope N_runs_of ["paid"] (defScope s_runs_of) := ⟨rfl, rfl, rfl, by decide +kernel, rfl, by decide +kernel, by decide +kernel⟩
theorem ok_runs_of (F : FnP K "runs_of" "runs_of" s_runs_of f fd) (T : Txt K mg) : FnOk P w K mg base CX0 1 f fd ["paid"] p_runs_of := by
  refine ok0 F sc_runs_of (fun _ _ _ _ h => by obtain ⟨a, l, x, rfl, _⟩ := h; rfl) fun cdv A outer s H vs Q E hr h => ?_
  obtain ⟨d, qs, g, rfl, hd, nd, hql, q⟩ := h
  have hu := hu_of hr
  refine ⟨_, (pss_one (ps_ret (pe_lc (own := [("payer", 1), ("other", 2)]) (g := gTup K 2 (gCons (gName 1) (gCons (gName 2) gNil))) rfl sc_runs_of.nd (pi_list (pe_callB (cr_sortedDT rfl hr.units) (by rfl) T.sorted bt_sorted (pa_cons (pv 0) pa_nil))) (blkOk_by (own := [("payer", 1), ("other", 2)]) (N := N_runs_of) (sc := defScope s_runs_of) (by decide +kernel)) (fun _ _ _ _ _ => (pg_tup rfl (pgs_cons (pg_name (i := 1) sc_runs_of.nd rfl (Or.inl rfl)) (pgs_cons (pg_name (i := 2) sc_runs_of.nd rfl (Or.inl rfl)) pgs_nil)))) (fun _ _ _ _ _ => pts_one (pt_cmpR op_gt (pe_dget hu (pv 0) (pe_tup (pa_cons (pv 1) (pa_cons (pv 2) pa_nil))) (fun _ _ => rfl)) pe_int (nomark _))) (fun _ _ _ _ _ => (pe_tup (pa_cons (pv 1) (pa_cons (pv 2) (pa_cons (pe_dget hu (pv 0) (pe_tup (pa_cons (pv 1) (pa_cons (pv 2) pa_nil))) (fun _ _ => rfl)) pa_nil)))))))), ?_⟩
  refine ⟨.ref d, rfl, d, _, encP H, rfl, .inl hd, fun bs hk => ⟨(sortDT_k hk).1, fun ys p pm pw np => ?_⟩⟩
  obtain ⟨zs, qs', rfl, hz2, pm, pw⟩ := (sortDT_k (K := K) hk).2 ys pm pw
  refine ⟨p, rfl, ⟨_, SqL.of upd_same⟩, fun D nD => ?_⟩
  have hlz : zs.length = qs'.length := Paired.length hz2
  have hlq : qs'.length = qs.length := pm.length_eq
  have npD : p ≠ D := fun z => by rw [z, upd_same] at nD; cases nD
  have nD0 : H D = none := by rw [upd_ne (Ne.symm npD)] at nD; exact nD
  refine lc_it (walk_list (xs := zs.map V.ref)) (fun i H' => Same H H' ∧ H' p = some (.lst (zs.map V.ref)) ∧ ∃ us : List Addr, H' D = some (.lst (us.map V.ref)) ∧ Paired (fun u x => H' u = some (.tup (cR x))) us (runsL (qs'.take i) g)) ?_ ?_ ?_ ?_
  · exact ⟨Same.new (Same.new Same.rfl np) nD, new_get nD upd_same, [], upd_same, .nil⟩
  · rintro i H1 _ ⟨_, h, _⟩
    exact SqL.of h
  · rintro i v H1 H2 hi ⟨k, hp, us, hD, hus⟩ ⟨rfl, hv⟩
    obtain ⟨z, hzi, rfl⟩ := map_ref_get hv
    obtain ⟨⟨p1, p2⟩, hqi, htw⟩ := L2.paired_get hz2 hzi
    have hmem := pm.mem_iff.mp (List.mem_of_getElem? hqi)
    refine ⟨z, [.str p1, .str p2], rfl, SqT.of (k _ _ htw), rfl, _, _, rfl, _, _, rfl, rfl, rfl, .ref d, rfl, .str p1, rfl, .str p2, rfl, two_sz, fun u nu => ?_⟩
    have hD1 := new_get (u := .tup [.str p1, .str p2]) nu hD
    have hp1 := new_get (u := .tup [.str p1, .str p2]) nu hp
    have k1 : Same H (upd H2 u (.tup [.str p1, .str p2])) := Same.new k nu
    have hus1 : Paired (fun v x => upd H2 u (.tup [.str p1, .str p2]) v = some (.tup (cR x))) us (runsL (qs'.take i) g) := Paired.mapP hus fun _ _ z => new_get nu z
    have hget := dget_tup (k1 _ _ hd) upd_same hmem
    generalize upd H2 u (.tup [.str p1, .str p2]) = H3 at hD1 hp1 k1 hus1 hget
    by_cases hpos : 0 < g (p1, p2)
    · have er : runsL (qs'.take (i + 1)) g = runsL (qs'.take i) g ++ [(p1, p2, g (p1, p2))] := by
        unfold runsL
        rw [take_snoc hqi, List.filter_append, List.map_append, List.filter_cons_of_pos (p := fun q => decide (0 < g q)) (a := (p1, p2)) (decide_eq_true hpos)]; rfl
      refine ⟨d, _, rfl, hget, _, 0, rfl, rfl, true, bl_t hpos, ?_⟩
      refine ⟨.str p1, rfl, .str p2, rfl, .ref d, rfl, .str p1, rfl, .str p2, rfl, two_sz, fun u2 nu2 => ?_⟩
      have hD2 := new_get (u := .tup [.str p1, .str p2]) nu2 hD1
      have hp2 := new_get (u := .tup [.str p1, .str p2]) nu2 hp1
      have k2 : Same H (upd H3 u2 (.tup [.str p1, .str p2])) := Same.new k1 nu2
      have hus2 : Paired (fun v x => upd H3 u2 (.tup [.str p1, .str p2]) v = some (.tup (cR x))) us (runsL (qs'.take i) g) := Paired.mapP hus1 fun _ _ z => new_get nu2 z
      refine ⟨d, _, rfl, dget_tup (k2 _ _ hd) upd_same hmem, (show 3 ≤ sizeLine by decide), fun u3 nu3 => ?_⟩
      obtain ⟨g1, g2, g3⟩ := grow (c := cR) (p1, p2, g (p1, p2)) hD2 hus2 nu3
      refine ⟨_, g1, ?_, Same.wrN (Same.new k2 nu3) nD0, ?_, us ++ [u3], g2, by rw [er]; exact g3⟩
      · rw [List.length_map]
        have e := Paired.length hus
        have e2 : (runsL (qs'.take i) g).length ≤ qs'.length := by
          unfold runsL
          rw [List.length_map]
          exact Nat.le_trans (List.length_filter_le _ _) (List.length_take_le' _ _)
        exact lt_sz (by omega)
      · rw [upd_ne npD]; exact new_get nu3 hp2
    · have er : runsL (qs'.take (i + 1)) g = runsL (qs'.take i) g := by
        unfold runsL
        rw [take_snoc hqi, List.filter_append, List.filter_cons_of_neg (by simpa using hpos)]
        simp
      refine ⟨d, _, rfl, hget, _, 0, rfl, rfl, false, bl_f hpos, ?_⟩
      exact ⟨k1, hp1, us, hD1, by rw [er]; exact hus1⟩
  · rintro H1 ⟨k, hp, us, hD, hus⟩
    rw [List.take_of_length_le (by rw [List.length_map]; omega)] at hus
    exact q _ D qs' k pm (ascP_of pw (pm.nodup_iff.mpr nd)) nD0 ⟨us, hD, hus⟩
/-- left_by(purses, payments) -/
def p_left_by (K : PySem.W.Frag) : Sp := fun vs H Q _ => ∃ a l ns t rs, vs = [.ref a, .ref l] ∧ PurAt K H a ns t ∧ NamesOk ns ∧ RunsAt H l rs ∧ (∀ r ∈ rs, r.1 ∈ ns) ∧ (∀ x ∈ ns, spentR rs x ≤ t x) ∧
  ∀ H' d, ∀ ys : List Str, Same H H' → ys.Perm ns → Asc ys → H d = none → H' d = some (dI ys fun x => t x - spentR rs x) → Q (.ref d) H'
abbrev s_left_by : Stmt := top 40
abbrev N_left_by : List Str := ["purses", "payments", "left", "payer", "other", "times", "player"]
theorem sc_left_by : FnScope N_left_by ["purses", "payments"] (defScope s_left_by) := ⟨rfl, rfl, rfl, by decide +kernel, rfl, by decide +kernel, by decide +kernel⟩
theorem ok_left_by (F : FnP K "left_by" "left_by" s_left_by f fd) (T : Txt K mg) (d_Purses_entries : Dm P w K mg base 1 (cP K) "entries" ["self"] (p_entries K)) : FnOk P w K mg base CX0 2 f fd ["purses", "payments"] (p_left_by K) := by
  refine ok0 F sc_left_by (fun _ _ _ _ h => by obtain ⟨a, l, x, y, z, rfl, _⟩ := h; rfl) fun cdv A outer s H vs Q E hr h => ?_
  obtain ⟨a, l, ns, t, rs, rfl, ⟨dx, d0, ha, hd0⟩, nok, ⟨ts, hl, hts⟩, hin, hle, q⟩ := h
  have hu := hu_of hr
  refine ⟨_, (pss_cons (ps_set (i := 2) sc_left_by.nd rfl (Or.inl rfl) (pe_callTy (call_dictP rfl) (by rfl) T.dict bt_dict (pa_cons (pe_dm0 d_Purses_entries hr (pv 0)) pa_nil)))
    (pss_cons (ps_for PassesOwn.never rfl (pi_list (pv 1)) (pg_tup rfl (pgs_cons (pg_name (i := 3) sc_left_by.nd rfl (Or.inl rfl)) (pgs_cons (pg_name (i := 4) sc_left_by.nd rfl (Or.inl rfl)) (pgs_cons (pg_name (i := 5) sc_left_by.nd rfl (Or.inl rfl)) pgs_nil))))
      (pss_one (ps_daug hu (pv 2) (pv 3) (pv 5) in_sub (fun _ _ _ => rfl))))
    (pss_cons (ps_for PassesOwn.never rfl (pi_list (pe_callB (call_sortedD rfl) (by rfl) T.sorted bt_sorted (pa_cons (pv 2) pa_nil))) (pg_name (i := 6) sc_left_by.nd rfl (Or.inl rfl))
      (pss_one (ps_if (pt_cmpR op_lt (pe_dget hu (pv 2) (pv 6) (fun _ _ => rfl)) pe_int (nomark _))
        (pss_one ps_never)
        pss_nil)))
    (pss_one (ps_ret (pv 2)))))), ?_⟩
  refine ⟨.ref a, rfl, a, dx, _, rfl, ha, rfl, a, ns, t, rfl, ⟨dx, d0, ha, hd0⟩, nok, fun H1 l1 ys k1 pm as nl1 he => ?_⟩
  obtain ⟨es, hl1, hes⟩ := he
  have ndy : ys.Nodup := asc_nodup as
  refine ⟨l1, es, mkT kS ys fun x => .int (t x), rfl, SqL.of hl1, ents_pairs hes, fun d nd => ?_⟩
  rw [merge_nil ndy]
  have nd0 : H d = none := none_of k1 nd
  have k2 : Same H (upd H1 d (dI ys t)) := Same.new k1 nd
  refine ⟨.ref l, rfl, l, rfl, ⟨_, SqL.of (k2 _ _ hl)⟩, ?_⟩
  have hlt : ts.length = rs.length := Paired.length hts
  have hyl : ys.length ≤ 24 := by rw [pm.length_eq]; exact nok.len
  refine for_it (walk_list (xs := ts.map V.ref)) (fun i σ H' => (∃ x3 x4 x5 x6, σ = [some (.ref a), some (.ref l), some (.ref d), x3, x4, x5, x6]) ∧ Same H H' ∧ H' d = some (dI ys fun x => t x - spentR (rs.take i) x)) ?_ ?_ ?_ ?_
  · refine ⟨⟨_, _, _, _, rfl⟩, k2, ?_⟩
    have e : (dI ys fun x => t x - spentR (rs.take 0) x) = dI ys t := dI_congr fun x _ => Int.sub_zero _
    rw [e]
    exact upd_same
  · rintro i σ H2 _ ⟨_, k, _⟩
    exact SqL.of (k _ _ hl)
  · rintro i v σ H2 H3 hi ⟨⟨x3, x4, x5, x6, rfl⟩, k, hd⟩ ⟨rfl, hv⟩
    obtain ⟨z, hzi, rfl⟩ := map_ref_get hv
    obtain ⟨⟨y1, y2, m⟩, hri, hrun⟩ := L2.paired_get hts hzi
    have hy1 : y1 ∈ ys := pm.mem_iff.mpr (hin _ (List.mem_of_getElem? hri))
    refine ⟨z, [.str y1, .str y2, .int m], rfl, SqT.of (k _ _ hrun), rfl, _, _, rfl, _, _, rfl, _, _, rfl, rfl, ?_⟩
    have hp := dI_put (n := t y1 - spentR (rs.take i) y1 - m) hd hy1 (lt_sz (by omega))
    rw [sub_up, ← spentR_snoc (r := (y1, y2, m)), ← take_snoc hri] at hp
    exact ⟨.ref d, rfl, .str y1, rfl, d, _, rfl, dN_get hd hy1, .int m, rfl, _, m, rfl, rfl, _, hp, ⟨_, _, _, _, rfl⟩, Same.wrN k nd0, upd_same⟩
  · rintro σ H2 ⟨⟨x3, x4, x5, x6, rfl⟩, k, hd⟩
    rw [List.take_of_length_le (by rw [List.length_map]; omega)] at hd
    refine ⟨.ref d, rfl, d, _, ys, rfl, .inl hd, keys_mk, mkT_nd hyl, fun zs p pmz so np => ?_⟩
    refine ⟨p, rfl, ⟨_, SqL.of upd_same⟩, ?_⟩
    refine for_it (walk_list (xs := zs.map V.str)) (fun i σ H' => (∃ x3 x4 x5 x6, σ = [some (.ref a), some (.ref l), some (.ref d), x3, x4, x5, x6]) ∧ Same H H' ∧ H' p = some (.lst (zs.map V.str)) ∧ H' d = some (dI ys fun x => t x - spentR rs x)) ?_ ?_ ?_ ?_
    · exact ⟨⟨_, _, _, _, rfl⟩, Same.new k np, upd_same, new_get np hd⟩
    · rintro i σ H3 _ ⟨_, _, h, _⟩
      exact SqL.of h
    · rintro i v σ H3 H4 hi ⟨⟨x3, x4, x5, x6, rfl⟩, k3, hp3, hd3⟩ ⟨rfl, hv⟩
      obtain ⟨x, hx, rfl⟩ := map_str_get hv
      have hxy : x ∈ ys := pmz.mem_iff.mp (List.mem_of_getElem? hx)
      have := hle x (pm.mem_iff.mp hxy)
      refine ⟨.ref d, rfl, .str x, rfl, d, _, rfl, dN_get hd3 hxy, t x - spentR rs x, 0, rfl, rfl, false, bl_f (by omega), ?_⟩
      exact ⟨⟨_, _, _, _, rfl⟩, k3, hp3, hd3⟩
    · rintro σ H3 ⟨⟨x3, x4, x5, x6, rfl⟩, k3, hp3, hd3⟩
      exact ⟨.ref d, rfl, q _ d ys k3 pm as nd0 hd3⟩
/-- after(purses, payments) -/
def p_after (K : PySem.W.Frag) : Sp := fun vs H Q _ => ∃ a l ns t rs, vs = [.ref a, .ref l] ∧ PurAt K H a ns t ∧ NamesOk ns ∧ AmOk ns t ∧ RunsAt H l rs ∧ (∀ r ∈ rs, r.1 ∈ ns ∧ 0 ≤ r.2.2) ∧ (∀ x ∈ ns, spentR rs x ≤ t x) ∧
  ∀ H' b, ∀ ys : List Str, Same H H' → ys.Perm ns → H b = none → PurAt K H' b ys (fun x => t x - spentR rs x) → Q (.ref b) H'
abbrev s_after : Stmt := top 46
abbrev N_after : List Str := ["purses", "payments"]
theorem sc_after : FnScope N_after ["purses", "payments"] (defScope s_after) := ⟨rfl, rfl, rfl, by decide +kernel, rfl, by decide +kernel, by decide +kernel⟩
theorem NamesOk.perm {ns ys : List Str} (n : NamesOk ns) (p : ys.Perm ns) : NamesOk ys := ⟨p.nodup_iff.mpr n.nd, by rw [p.length_eq]; exact n.len, fun x hx => n.ok x (p.mem_iff.mp hx)⟩
theorem ok_after (F : FnP K "after" "after" s_after f fd) (T : Txt K mg) (d_purses_with : Df P w K mg base CX0 5 "purses_with" ["table"] (p_purses_with K)) (d_left_by : Df P w K mg base CX0 2 "left_by" ["purses", "payments"] (p_left_by K)) : FnOk P w K mg base CX0 6 f fd ["purses", "payments"] (p_after K) := by
  refine ok0 F sc_after (fun _ _ _ _ h => by obtain ⟨a, l, x, y, z, rfl, _⟩ := h; rfl) fun cdv A outer s H vs Q E hr h => ?_
  obtain ⟨a, l, ns, t, rs, rfl, ha, nok, am, hrs, hin, hle, q⟩ := h
  refine ⟨_, (pss_one (ps_ret (pe_df d_purses_with hr (pa_cons (pe_df d_left_by hr (pa_cons (pv 0) (pa_cons (pv 1) pa_nil))) pa_nil)))), ?_⟩
  refine ⟨.ref a, rfl, .ref l, rfl, a, l, ns, t, rs, rfl, ha, nok, hrs, fun r hr => (hin r hr).1, hle, fun H1 d ys k1 pm as nd hd => ?_⟩
  refine ⟨d, ys, _, rfl, hd, nok.perm pm, fun x hx => ?_, fun H2 b k2 nb hb => q _ b ys (Same.tr k1 k2) pm (none_of k1 nb) hb⟩
  have hx := pm.mem_iff.mp hx
  have h1 := hle x hx
  have h2 := am x hx
  have h3 : 0 ≤ spentR rs x := su_nonneg fun r hr => by
    split
    · exact (hin r hr).2
    · exact Int.le_refl _
  show 0 ≤ t x - spentR rs x ∧ t x - spentR rs x ≤ 10 ^ 30
  omega
end
end Ep

set_option Elab.async false
set_option linter.all false
set_option maxRecDepth 100000
set_option maxHeartbeats 4000000
/-! ## spread_table -/
namespace Ep
open PySem PySem.Spec PyProof.Rows L2
def inR (R : List Str) : Str → Bool := fun x => decide (x ∈ R)
/-- a set whose own meetings ask for more than it has -/
def Short (ns : List Str) (t : Str → Int) (ps : List (Str × Str)) (T : Str × Str → Int) : Prop := ∃ R : List Str, R.Nodup ∧ (∀ x ∈ R, x ∈ ns) ∧ su R t < eT ps T (inR R)
theorem LinksAt.kp {S : List Addr} {H H' : Hp} {d : Addr} {qs : List (Str × Str)} (k : Kp S H H') (hd : d ∉ S) (hS : ∀ b ∈ S, ∀ xs, H b ≠ some (.lst xs)) (h : LinksAt H d qs) : LinksAt H' d qs := by
  obtain ⟨ps, L, h1, h2, h3, h4⟩ := h
  refine ⟨ps, L, k _ _ h1 hd, h2, h3, fun x hx => ?_⟩
  obtain ⟨os, g1, g2, g3⟩ := h4 x hx
  exact ⟨os, k _ _ g1 fun m => hS _ m _ g1, g2, g3⟩
theorem closed_short {ns ps qs R : List (Str)} : True := trivial
theorem spent_R {ps qs : List (Str × Str)} {T g : Str × Str → Int} (P : Paid ps T qs g) {R : List Str} (nd : R.Nodup) (hc : ∀ q ∈ qs, q.1 ∈ R → q.2 ∉ R → g q ≤ 0) : su R (spentQ qs g) = eT ps T (inR R) := by
  rw [spent_list nd, ← P.closed (S := inR R) fun q hq h1 h2 => ?_]
  · rfl
  · have := hc q hq (of_decide_eq_true h1) (of_decide_eq_false h2)
    have := P.nn q hq
    omega
theorem spent_R_le {ps qs : List (Str × Str)} {T g : Str × Str → Int} (P : Paid ps T qs g) {R : List Str} (nd : R.Nodup) : eT ps T (inR R) ≤ su R (spentQ qs g) := by
  rw [spent_list nd]
  exact P.le (inR R)
section
variable {P : Program} {w : World} {K : PySem.W.Frag} {mg : Str → Option Value} {base : Heap} {f : Addr} {fd : FuncData}
def p_spread (K : PySem.W.Frag) : Sp := fun vs H Q _ => ∃ dt a ns t ps T', vs = [.ref dt, .ref a] ∧ H dt = some (dI ns t) ∧ LotAt K H a ps T' ∧ LotOk ns ps T' ∧ ns.Nodup ∧ ns.length ≤ 24 ∧
  (∀ H' p x, Same H H' → Short ns t ps T' → H' p = some (.tup [.non, x]) → Q (.ref p) H') ∧
  (∀ H' p d qs g, Same H H' → H' p = some (.tup [.ref d, .non]) → H' d = some (dP qs g) → H d = none → Paid ps T' qs g → (∀ x ∈ ns, spentQ qs g x ≤ t x) → Q (.ref p) H')
abbrev s_spread_table : Stmt := top 38
abbrev N_spread_table : List Str := ["tickets", "lot", "paid", "spent", "left", "links", "player", "path", "reached", "step", "one"]
theorem sc_spread_table : FnScope N_spread_table ["tickets", "lot"] (defScope s_spread_table) := ⟨rfl, rfl, rfl, by decide +kernel, rfl, by decide +kernel, by decide +kernel⟩
theorem ok_spread_table (F : FnP K "spread_table" "spread_table" s_spread_table f fd) (T : Txt K mg) (d_first_payments : Df P w K mg base CX0 2 "first_payments" ["tickets", "lot"] (p_first K)) (d_loads : Df P w K mg base CX0 1 "loads" ["players", "paid"] p_loads)
    (d_partners : Df P w K mg base CX0 1 "partners" ["paid"] p_partners) (d_path_from : Df P w K mg base CX0 1 "path_from" ["paid", "links", "sources", "is_goal"] p_path_from) (d_least_on : Df P w K mg base CX0 1 "least_on" ["paid", "path"] p_least_on)
    (d_hand_over : Df P w K mg base CX0 1 "hand_over" ["paid", "path", "many"] p_hand_over) : FnOk P w K mg base CX0 3 f fd ["tickets", "lot"] (p_spread K) := by
  refine ok0 F sc_spread_table (fun _ _ _ _ h => by obtain ⟨a, l, x, y, z, u, rfl, _⟩ := h; rfl) fun cdv A outer s H vs Q E hr h => ?_
  obtain ⟨dt, a, ns, t, ps, T', rfl, ht, hlot, lok, nd, hns, q1, q2⟩ := h
  have hu := hu_of hr
  refine ⟨_, (pss_cons (ps_set (i := 2) sc_spread_table.nd rfl (Or.inl rfl) (pe_df d_first_payments hr (pa_cons (pv 0) (pa_cons (pv 1) pa_nil))))
    (pss_cons (ps_set (i := 3) sc_spread_table.nd rfl (Or.inr rfl) (pe_df d_loads hr (pa_cons (pv 0) (pa_cons (pv 2) pa_nil))))
    (pss_cons (ps_set (i := 4) sc_spread_table.nd rfl (Or.inr rfl) (pe_lock (pe_dc (own := [("player", 6)]) (g := gName 6) (tt := tYes) rfl sc_spread_table.nd (pi_keys (pv 0)) (blkOk_by (own := [("player", 6)]) (N := N_spread_table) (sc := defScope s_spread_table) (by decide +kernel)) (fun _ _ _ _ _ => (pg_name (i := 6) sc_spread_table.nd rfl (Or.inl rfl))) (fun _ _ _ _ _ => pts_nil) (fun _ _ _ _ _ => (pv 6)) (fun _ _ _ _ _ => (pe_op op_sub (pe_dget hu (pv 0) (pv 6) (fun _ _ => rfl)) (pe_dget hu (pv 3) (pv 6) (fun _ _ => rfl)))))))
    (pss_cons (ps_set (i := 5) sc_spread_table.nd rfl (Or.inl rfl) (pe_df d_partners hr (pa_cons (pv 2) pa_nil)))
    (pss_cons (ps_for PassesOwn.never rfl (pi_list (pe_callB (call_sortedD rfl) (by rfl) T.sorted bt_sorted (pa_cons (pv 4) pa_nil))) (pg_name (i := 6) sc_spread_table.nd rfl (Or.inl rfl))
      (pss_one (ps_while PassesOwn.never (pt_cmpR op_lt (pe_dget hu (pv 4) (pv 6) (fun _ _ => rfl)) pe_int (nomark _))
        (pss_cons (ps_asg (pe_df d_path_from hr (pa_cons (pv 2) (pa_cons (pv 5) (pa_cons (pe_lst (pa_cons (pv 6) pa_nil)) (pa_cons (pe_lock (pe_dc (own := [("one", 10)]) (g := gName 10) (tt := tYes) rfl sc_spread_table.nd (pi_keys (pv 4)) (blkOk_by (own := [("one", 10)]) (N := N_spread_table) (sc := defScope s_spread_table) (by decide +kernel)) (fun _ _ _ _ _ => (pg_name (i := 10) sc_spread_table.nd rfl (Or.inl rfl))) (fun _ _ _ _ _ => pts_nil) (fun _ _ _ _ _ => (pv 10)) (fun _ _ _ _ _ => (pe_cmpR op_gt (pe_dget hu (pv 4) (pv 10) (fun _ _ => rfl)) pe_int (nomark _))))) pa_nil))))) (pg_tup rfl (pgs_cons (pg_name (i := 7) sc_spread_table.nd rfl (Or.inl rfl)) (pgs_cons (pg_name (i := 8) sc_spread_table.nd rfl (Or.inl rfl)) pgs_nil))))
        (pss_cons (ps_if (pt_cmpR op_isN (pv 7) pe_non (nomark _))
          (pss_one (ps_ret (pe_tup (pa_cons pe_non (pa_cons (pe_callB cr_sortedS (by rfl) T.sorted bt_sorted (pa_cons (pv 8) pa_nil)) pa_nil)))))
          pss_nil)
        (pss_cons (ps_set (i := 9) sc_spread_table.nd rfl (Or.inl rfl) (pe_callB (call_min3Nu rfl) (by rfl) T.min bt_min (pa_cons (pe_df d_least_on hr (pa_cons (pv 2) (pa_cons (pv 7) pa_nil))) (pa_cons (pe_dget hu (pv 4) (pe_ix ix_list (pv 7) (pe_un un_neg pe_int) (fun _ _ => rfl)) (fun _ _ => rfl)) (pa_cons (pe_un un_neg (pe_dget hu (pv 4) (pv 6) (fun _ _ => rfl))) pa_nil)))))
        (pss_cons (ps_expr (pe_df d_hand_over hr (pa_cons (pv 2) (pa_cons (pv 7) (pa_cons (pv 9) pa_nil)))))
        (pss_cons (ps_daug hu (pv 4) (pv 6) (pv 9) in_add (fun _ _ _ => rfl))
        (pss_one (ps_daug hu (pv 4) (pe_ix ix_list (pv 7) (pe_un un_neg pe_int) (fun _ _ => rfl)) (pv 9) in_sub (fun _ _ _ => rfl)))))))))))
    (pss_one (ps_ret (pe_tup (pa_cons (pv 2) (pa_cons pe_non pa_nil)))))))))), ?_⟩
  refine ⟨.ref dt, rfl, .ref a, rfl, dt, a, ns, t, ps, T', rfl, ht, hlot, lok, hns, fun H1 dp qs g0 k1 ndp hdp0 P0 => ?_⟩
  have hql : qs.length ≤ 1000 := P0.len lok
  refine ⟨.ref dt, rfl, .ref dp, rfl, dt, dp, ns, t, qs, g0, rfl, k1 _ _ ht, hdp0, nd, hns, fun q hq => P0.m1 lok hq, fun H2 dsp k2 ndsp hdsp => ?_⟩
  have k12 := Same.tr k1 k2
  have ht2 := k12 _ _ ht
  refine ⟨dt, _, ht2, trivial, fun od => ⟨.ref dt, rfl, dt, od, rfl, .inl ⟨_, upd_same, fun D nD => ?_⟩⟩⟩
  have htz : upd H2 dt (.frz od (dI ns t)) dt = some (.frz od (dI ns t)) := upd_same
  have nD2 : H2 D = none := by rw [upd_ne (fun z => by rw [z, upd_same] at nD; cases nD)] at nD; exact nD
  have ndts : dsp ≠ dt := fun e => by rw [e] at ndsp; rw [k1 _ _ ht] at ndsp; cases ndsp
  have hdspz : upd H2 dt (.frz od (dI ns t)) dsp = some (dI ns (spentQ qs g0)) := by rw [upd_ne ndts]; exact hdsp
  refine dc_it walk_keys (fun i H' => Same (upd H2 dt (.frz od (dI ns t))) H' ∧ H' D = some (dI (ns.take i) fun x => t x - spentQ qs g0 x)) ?_ ?_ ?_ ?_
  · exact ⟨Same.new Same.rfl nD, upd_same⟩
  · rintro i H3 _ ⟨k, _⟩
    exact k _ _ htz
  · rintro i v H3 H4 hi ⟨k, hD⟩ ⟨rfl, key, v2, hkv, rfl⟩
    obtain ⟨x, hx, rfl, rfl⟩ := nm_at hkv
    have hmem := List.mem_of_getElem? hx
    refine ⟨rfl, .str x, rfl, .ref dt, rfl, .str x, rfl, dt, _, rfl, dN_getZ (k _ _ htz) hmem, .ref dsp, rfl, .str x, rfl, dsp, _, rfl, dN_get (k _ _ hdspz) hmem, t x, spentQ qs g0 x, rfl, rfl, _, kS x, rfl, hD, ?_, Same.wrN k nD, ?_⟩
    · rw [length_mkT, List.length_take]
      exact lt_sz (by omega)
    · rw [upd_same]
      exact congrArg some (dN_snoc (f := fun x => .int (t x - spentQ qs g0 x)) nd hx)
  rintro H3 ⟨k3, hD3⟩
  rw [length_mkT, List.take_of_length_le (Nat.le_refl _)] at hD3
  refine ⟨k3 _ _ htz, ?_⟩
  have k4 := lock_same ht2 k3
  have ntD : dt ≠ D := ne_of_none ht2 nD2
  have hD4 : upd H3 dt (dI ns t) D = some (dI ns fun x => t x - spentQ qs g0 x) := by rw [upd_ne (Ne.symm ntD)]; exact hD3
  generalize upd H3 dt (dI ns t) = H4 at k4 hD4
  have hdp4 : H4 dp = some (dP qs g0) := k4 _ _ (k2 _ _ hdp0)
  have nD0 : H D = none := none_of k12 nD2
  refine ⟨.ref dp, rfl, dp, qs, g0, rfl, hdp4, hql, fun H5 lk k5 nlk hlk => ?_⟩
  have k04 := Same.tr k12 k4
  have k05 := Same.tr k04 k5
  have hD5 := k5 _ _ hD4
  have hdp5 := k5 _ _ hdp4
  refine ⟨.ref D, rfl, D, _, ns, rfl, .inl hD5, keys_mk, mkT_nd hns, fun ys p pm so np => ?_⟩
  have ndy : ys.Nodup := pm.nodup_iff.mpr nd
  have nDdp : D ≠ dp := fun e => by rw [e, hdp4] at hD4; cases hD4
  have nlkD : lk ≠ D := fun e => by rw [e, hD4] at nlk; cases nlk
  have nlkp : lk ≠ dp := fun e => by rw [e, hdp4] at nlk; cases nlk
  have npD : p ≠ D := fun e => by rw [e, hD5] at np; cases np
  have npdp : p ≠ dp := fun e => by rw [e, hdp5] at np; cases np
  have noL : ∀ b ∈ [dp, D], ∀ xs, H5 b ≠ some (.lst xs) := fun b hb xs e => by
    rcases List.mem_cons.mp hb with h | h
    · rw [h, hdp5] at e; cases e
    · rw [List.mem_singleton.mp h, hD5] at e; cases e
  have nS : lk ∉ [dp, D] := fun h => by
    rcases List.mem_cons.mp h with h | h
    · exact nlkp h
    · exact nlkD (List.mem_singleton.mp h)
  have sameOf : ∀ {H'}, Kp [dp, D] H5 H' → Same H H' := fun k b o e => k b o (k05 _ _ e) fun h => by
    rcases List.mem_cons.mp h with h | h
    · rw [h, ndp] at e; cases e
    · rw [List.mem_singleton.mp h, nD0] at e; cases e
  refine ⟨p, rfl, ⟨_, SqL.of upd_same⟩, ?_⟩
  refine for_it (walk_list (xs := ys.map V.str)) (fun i σ H' => (∃ x6 x7 x8 x9 x10, σ = [some (.ref dt), some (.ref a), some (.ref dp), some (.ref dsp), some (.ref D), some (.ref lk), x6, x7, x8, x9, x10]) ∧ Kp [dp, D] H5 H' ∧ H' p = some (.lst (ys.map V.str)) ∧
    ∃ g l, H' dp = some (dP qs g) ∧ H' D = some (dI ns l) ∧ Paid ps T' qs g ∧ (∀ x ∈ ns, l x = t x - spentQ qs g x) ∧ ∀ x ∈ ys.take i, 0 ≤ l x) ?_ ?_ ?_ ?_
  · exact ⟨⟨_, _, _, _, _, rfl⟩, Kp.new Kp.refl np, upd_same, g0, _, new_get np hdp5, new_get np hD5, P0, fun x _ => rfl, fun x h => absurd h List.not_mem_nil⟩
  · rintro i σ H6 _ ⟨_, _, h, _⟩
    exact SqL.of h
  · rintro i v σ H6 H7 hi ⟨⟨x6, x7, x8, x9, x10, rfl⟩, k6, hp6, g, l, hdp6, hD6, P6, hl6, hle6⟩ ⟨rfl, hv⟩
    obtain ⟨src, hsrc, rfl⟩ := map_str_get hv
    have hsn : src ∈ ns := pm.mem_iff.mp (List.mem_of_getElem? hsrc)
    have hnt := nd_take ndy hsrc
    refine ⟨fun m σ H' => (∃ x7 x8 x9 x10, σ = [some (.ref dt), some (.ref a), some (.ref dp), some (.ref dsp), some (.ref D), some (.ref lk), some (.str src), x7, x8, x9, x10]) ∧ Kp [dp, D] H5 H' ∧ H' p = some (.lst (ys.map V.str)) ∧
      ∃ g l, m = (-l src).toNat ∧ H' dp = some (dP qs g) ∧ H' D = some (dI ns l) ∧ Paid ps T' qs g ∧ (∀ x ∈ ns, l x = t x - spentQ qs g x) ∧ ∀ x ∈ ys.take i, 0 ≤ l x, ⟨(-l src).toNat, ?_⟩, ?_⟩
    · exact ⟨⟨_, _, _, _, rfl⟩, k6, hp6, g, l, rfl, hdp6, hD6, P6, hl6, hle6⟩
    clear hle6 hl6 P6 hD6 hdp6 hp6 k6
    rintro m σ H8 ⟨⟨x7', x8', x9', x10', rfl⟩, k8, hp8, g, l, rfl, hdp8, hD8, P8, hl8, hle8⟩
    by_cases hneg : l src < 0
    · refine ⟨.ref D, rfl, .str src, rfl, D, _, rfl, dN_get hD8 hsn, l src, 0, rfl, rfl, true, bl_t hneg, ?_⟩
      refine ⟨fun σ H' => ∃ m', m' < (-l src).toNat ∧ (∃ x7 x8 x9 x10, σ = [some (.ref dt), some (.ref a), some (.ref dp), some (.ref dsp), some (.ref D), some (.ref lk), some (.str src), x7, x8, x9, x10]) ∧ Kp [dp, D] H5 H' ∧ H' p = some (.lst (ys.map V.str)) ∧
        ∃ g l, m' = (-l src).toNat ∧ H' dp = some (dP qs g) ∧ H' D = some (dI ns l) ∧ Paid ps T' qs g ∧ (∀ x ∈ ns, l x = t x - spentQ qs g x) ∧ ∀ x ∈ ys.take i, 0 ≤ l x, fun _ _ h => h, ?_⟩
      refine ⟨.ref dp, rfl, .ref lk, rfl, .str src, rfl, (show 1 ≤ sizeLine by decide), fun ds nds => ?_⟩
      have hD9 := new_get (u := .lst [.str src]) nds hD8
      have hdp9 := new_get (u := .lst [.str src]) nds hdp8
      have hp9 := new_get (u := .lst [.str src]) nds hp8
      have hds9 : upd H8 ds (.lst [.str src]) ds = some (.lst [.str src]) := upd_same
      have k9 : Kp [dp, D] H5 (upd H8 ds (.lst [.str src])) := Kp.new k8 nds
      generalize upd H8 ds (.lst [.str src]) = H9 at hD9 hdp9 hp9 hds9 k9
      refine ⟨D, _, hD9, trivial, fun oD => ⟨.ref D, rfl, D, oD, rfl, .inl ⟨_, upd_same, fun dg ndg => ?_⟩⟩⟩
      have hDz : upd H9 D (.frz oD (dI ns l)) D = some (.frz oD (dI ns l)) := upd_same
      have ndg9 : H9 dg = none := by rw [upd_ne (fun z => by rw [z, upd_same] at ndg; cases ndg)] at ndg; exact ndg
      refine dc_it walk_keys (fun i H' => Same (upd H9 D (.frz oD (dI ns l))) H' ∧ H' dg = some (dN (ns.take i) fun x => .bl (decide (0 < l x)))) ?_ ?_ ?_ ?_
      · exact ⟨Same.new Same.rfl ndg, upd_same⟩
      · rintro i HA _ ⟨k, _⟩
        exact k _ _ hDz
      · rintro j v HA HB hj ⟨k, hg⟩ ⟨rfl, key, v2, hkv, rfl⟩
        obtain ⟨x, hx, rfl, rfl⟩ := nm_at hkv
        have hmem := List.mem_of_getElem? hx
        refine ⟨rfl, .str x, rfl, .ref D, rfl, .str x, rfl, D, _, rfl, dN_getZ (k _ _ hDz) hmem, l x, 0, rfl, rfl, _, kS x, rfl, hg, ?_, Same.wrN k ndg, ?_⟩
        · rw [length_mkT, List.length_take]
          exact lt_sz (by omega)
        · rw [upd_same]
          exact congrArg some (dN_snoc (f := fun x => .bl (decide (0 < l x))) nd hx)
      rintro HA ⟨kA, hgA⟩
      rw [length_mkT, List.take_of_length_le (Nat.le_refl _)] at hgA
      refine ⟨kA _ _ hDz, ?_⟩
      have kB := lock_same hD9 kA
      have ngD : dg ≠ D := fun e => by rw [e, hD9] at ndg9; cases ndg9
      have hgB : upd HA D (dI ns l) dg = some (dN ns fun x => .bl (decide (0 < l x))) := by rw [upd_ne ngD]; exact hgA
      generalize upd HA D (dI ns l) = HB at kB hgB
      have kB5 : Kp [dp, D] H5 HB := Kp.trans k9 (Same.kp kB)
      have hlkB : LinksAt HB lk qs := LinksAt.kp kB5 nS noL hlk
      refine ⟨dp, lk, ds, dg, qs, g, src, ns, fun x => decide (0 < l x), rfl, kB _ _ hdp9, hql, fun q hq => ⟨P8.m2 lok hq, P8.sw hq⟩, hlkB, kB _ _ hds9, hsn, hgB, hns, ?_, ?_⟩
      · intro HC pt lp lr r row kC nr hrn hway hgoal hpt hlp hlr nlp
        have hz : 0 < l ((src :: r).getLast (List.cons_ne_nil _ _)) := of_decide_eq_true hgoal
        have hlen : (src :: r).length ≤ 24 := Nat.le_trans (List.Nodup.length_le_of_subset nr fun z hz => hrn z hz) hns
        generalize hzz : (src :: r).getLast (List.cons_ne_nil _ _) = z at hz
        have nzs : z ≠ src := fun e => by rw [e] at hz; omega
        have hzm : z ∈ src :: r := by rw [← hzz]; exact List.getLast_mem _
        have hzn := hrn z hzm
        have hr2 : 2 ≤ (src :: r).length := by
          cases r with
          | nil => exact absurd (show src = z from hzz) (Ne.symm nzs)
          | cons b r => simp
        have hlast : atI ((src :: r).map V.str) (-1) = some (.str z) := by
          have e : src :: r = (src :: r).dropLast ++ [z] := by rw [← hzz, List.dropLast_concat_getLast]
          rw [e, List.map_append]
          exact atI_last _ _
        have hdpC := kC _ _ (kB _ _ hdp9)
        have hDC := kC _ _ (kB _ _ hD9)
        have hpC := kC _ _ (kB _ _ hp9)
        have kC5 : Kp [dp, D] H5 HC := Kp.trans kB5 (Same.kp kC)
        refine ⟨pt, _, rfl, SqT.of hpt, rfl, _, _, rfl, _, _, rfl, rfl, ?_⟩
        refine ⟨.ref lp, rfl, rfl, false, rfl, ?_⟩
        refine ⟨.ref dp, rfl, .ref lp, rfl, dp, lp, qs, g, src :: r, rfl, hdpC, hlp, hr2, hlen, hway, fun HE m0 kE hm0 hway2 => ?_⟩
        have hDE := kE _ _ hDC
        have hlpE := kE _ _ hlp
        refine ⟨.ref D, rfl, .ref lp, rfl, 1, rfl, lp, _, _, .str z, rfl, rfl, SqL.of hlpE, hlast, D, _, rfl, dN_get hDE hzn, .ref D, rfl, .str src, rfl, D, _, rfl, dN_get hDE hsn, l src, rfl, _, _, _, _, rfl, min3_eq m0 (l z) (-l src), ?_⟩
        have hst1 : 1 ≤ min3 m0 (l z) (-l src) := min3_pos hm0 (by omega) (by omega)
        obtain ⟨hst2, hst3, hst4⟩ := min3_le m0 (l z) (-l src)
        generalize min3 m0 (l z) (-l src) = st at hst1 hst2 hst3 hst4
        refine ⟨.ref dp, rfl, .ref lp, rfl, .int st, rfl, dp, lp, st, qs, g, src :: r, rfl, kE _ _ hdpC, hql, hlpE, hlen, List.cons_ne_nil _ _, nr, Way.mono hst2 hway2, fun HF kF hdpF => ?_⟩
        have nDdp' : D ∉ [dp] := fun h => nDdp (List.mem_singleton.mp h)
        have nlpdp : lp ∉ [dp] := fun h => by rw [List.mem_singleton.mp h, hdpC] at hlp; cases hlp
        have hDF := kF _ _ hDE nDdp'
        have hlpF := kF _ _ hlpE nlpdp
        have hpF := kF _ _ (kE _ _ hpC) fun h => npdp (List.mem_singleton.mp h)
        have kF5 : Kp [dp, D] H5 HF := Kp.trans (Kp.trans kC5 (Same.kp kE)) (Kp.mono kF fun b hb => by rw [List.mem_singleton.mp hb]; exact List.mem_cons_self)
        refine ⟨.ref D, rfl, .str src, rfl, D, _, rfl, dN_get hDF hsn, .int st, rfl, l src, st, rfl, rfl, _, dI_put hDF hsn (lt_sz (by omega)), ?_⟩
        have nlpD : lp ≠ D := fun e => by rw [e, hDC] at hlp; cases hlp
        have hlpG : upd HF D (dI ns (up l src (l src + st))) lp = some (.lst ((src :: r).map V.str)) := by rw [upd_ne nlpD]; exact hlpF
        have hDG : upd HF D (dI ns (up l src (l src + st))) D = some (dI ns (up l src (l src + st))) := upd_same
        have ez : up l src (l src + st) z = l z := up_ne nzs
        refine ⟨.ref D, rfl, .ref lp, rfl, 1, rfl, lp, _, _, .str z, rfl, rfl, SqL.of hlpG, hlast, D, _, rfl, dN_get hDG hzn, .int st, rfl, up l src (l src + st) z, st, rfl, rfl, _, dI_put hDG hzn (lt_sz (by omega)), ?_⟩
        obtain ⟨w1, w2, w3⟩ := shP_way (m := st) (by omega) (P8.nd lok) nr (Way.mono hst2 hway2) P8.nn
        refine ⟨(-(up (up l src (l src + st)) z (up l src (l src + st) z - st)) src).toNat, ?_, ⟨_, _, _, _, rfl⟩, ?_, ?_, shP st g (src :: r), _, rfl, ?_, upd_same, P8.shP lok (by omega) nr (Way.mono hst2 hway2), fun x hx => ?_, fun x hx => ?_⟩
        · rw [up_ne (Ne.symm nzs), up_self]; omega
        · exact Kp.wr (Kp.wr kF5 (List.mem_cons_of_mem _ (List.mem_singleton.mpr rfl))) (List.mem_cons_of_mem _ (List.mem_singleton.mpr rfl))
        · rw [upd_ne npD, upd_ne npD]; exact hpF
        · rw [upd_ne (Ne.symm nDdp), upd_ne (Ne.symm nDdp)]; exact hdpF
        · rw [w3 x, hzz]
          have e := hl8 x hx
          by_cases a1 : x = z
          · rw [a1, up_self, ez, if_pos rfl, if_neg (Ne.symm nzs)]; rw [a1] at e; omega
          · rw [up_ne a1, if_neg (Ne.symm a1)]
            by_cases a2 : x = src
            · rw [a2, up_self, if_pos rfl]; rw [a2] at e; omega
            · rw [up_ne a2, if_neg (Ne.symm a2)]; omega
        · have e := hle8 x hx
          have a2 : x ≠ src := fun h => hnt (h ▸ hx)
          by_cases a1 : x = z
          · rw [a1, up_self, ez]; omega
          · rw [up_ne a1, up_ne a2]; exact e
      · intro HC pt lr row kC nrow hsr hrow hcl hpt hlr nlr
        refine ⟨pt, _, rfl, SqT.of hpt, rfl, _, _, rfl, _, _, rfl, rfl, ?_⟩
        refine ⟨.non, rfl, rfl, true, rfl, ?_⟩
        have hrl : row.length ≤ 24 := Nat.le_trans (List.Nodup.length_le_of_subset nrow fun z hz => (hrow z hz).1) hns
        refine ⟨.ref lr, rfl, lr, row, rfl, SqL.of hlr, mkT_nd hrl, fun zs pz pmz soz npz => ⟨two_sz, fun pp npp => ?_⟩⟩
        refine q1 _ pp _ (Same.new (Same.new (Same.tr (sameOf kB5) kC) npz) npp) ⟨row, nrow, fun x hx => (hrow x hx).1, ?_⟩ upd_same
        have e1 := spent_R P8 nrow hcl
        have e2 : su row (fun x => -l x) = su row (spentQ qs g) - su row t := by
          rw [← su_sub]
          exact su_congr fun x hx => by rw [hl8 x (hrow x hx).1]; omega
        have e3 := su_mem_le (l := row) (g := fun x => -l x) (fun x hx => by
          have := of_decide_eq_false (hrow x hx).2
          omega) hsr
        have e4 : (fun x => -l x) src = -l src := rfl
        omega
    · refine ⟨.ref D, rfl, .str src, rfl, D, _, rfl, dN_get hD8 hsn, l src, 0, rfl, rfl, false, bl_f hneg, ?_⟩
      refine ⟨⟨_, _, _, _, _, rfl⟩, k8, hp8, g, l, hdp8, hD8, P8, hl8, fun x hx => ?_⟩
      rw [take_snoc hsrc] at hx
      rcases List.mem_append.mp hx with hx | hx
      · exact hle8 x hx
      · rw [List.mem_singleton.mp hx]; omega
  · rintro σ H6 ⟨⟨x6, x7, x8, x9, x10, rfl⟩, k6, hp6, g, l, hdp6, hD6, P6, hl6, hle6⟩
    rw [List.take_of_length_le (by rw [List.length_map]; exact Nat.le_refl _)] at hle6
    refine ⟨.ref dp, rfl, two_sz, fun pp npp => ?_⟩
    refine q2 _ pp dp qs g (Same.new (sameOf k6) npp) upd_same (new_get npp hdp6) ndp P6 fun x hx => ?_
    have := hl6 x hx
    have := hle6 x (pm.mem_iff.mpr hx)
    omega
end
end Ep

set_option Elab.async false
set_option linter.all false
set_option maxRecDepth 100000
set_option maxHeartbeats 4000000
/-! ## playable, poor -/
namespace Ep
open PySem PySem.Spec PyProof.Rows L2
structure Playable (ns : List Str) (t : Str → Int) (ps : List (Str × Str)) (T : Str × Str → Int) : Prop where
  nn : ∀ x ∈ ns, 0 ≤ t x
  part : ∀ p ∈ ps, 0 < t p.1 ∧ 0 < t p.2
  room : ∀ R : List Str, R.Nodup → (∀ x ∈ R, x ∈ ns) → eT ps T (inR R) = 0 ∨ eT ps T (inR R) < su R t
def Poor (t : Str → Int) (ps : List (Str × Str)) : Prop := ∃ p ∈ ps, t p.1 = 0 ∨ t p.2 = 0
structure Clo (ns : List Str) (t : Str → Int) (rs : List Run) (al : List Str) : Prop where
  nd : al.Nodup
  sub : ∀ x ∈ al, x ∈ ns
  has : ∀ x ∈ ns, 0 < t x - spentR rs x → x ∈ al
  clo : ∀ r ∈ rs, r.2.1 ∈ al → r.1 ∈ al
  why : ∀ x ∈ al, 0 < t x - spentR rs x ∨ ∃ r ∈ rs, r.1 = x
section
variable {ns al : List Str} {t : Str → Int} {ps qs : List (Str × Str)} {T g : Str × Str → Int}
theorem not_short (p : Playable ns t ps T) : ¬ Short ns t ps T := fun ⟨R, h1, h2, h3⟩ => by
  rcases p.room R h1 h2 with e | e
  · have := su_nonneg (l := R) (g := t) fun x hx => p.nn x (h2 x hx)
    omega
  · omega
theorem spent_runs (nn : ∀ q ∈ qs, 0 ≤ g q) (x : Str) : spentR (runsL qs g) x = spentQ qs g x := by
  unfold spentR runsL spentQ
  rw [su_map, su_filter]
  refine su_congr fun q hq => ?_
  by_cases h : 0 < g q
  · rw [if_pos (decide_eq_true h)]
  · rw [if_neg (by simpa using h)]
    have := nn q hq
    split <;> omega
theorem mem_runs {r : Run} : r ∈ runsL qs g ↔ (r.1, r.2.1) ∈ qs ∧ 0 < g (r.1, r.2.1) ∧ r.2.2 = g (r.1, r.2.1) := by
  unfold runsL
  rw [List.mem_map]
  constructor
  · rintro ⟨q, hq, rfl⟩
    obtain ⟨h1, h2⟩ := List.mem_filter.mp hq
    exact ⟨h1, of_decide_eq_true h2, rfl⟩
  · rintro ⟨h1, h2, h3⟩
    exact ⟨_, List.mem_filter.mpr ⟨h1, decide_eq_true h2⟩, by rw [← h3]⟩
theorem order_play (L : LotOk ns ps T) (p : Playable ns t ps T) (P : Paid ps T qs g) (nd : ns.Nodup) (hle : ∀ x ∈ ns, spentQ qs g x ≤ t x) (c : Clo ns t (runsL qs g) al) : ∀ r ∈ runsL qs g, r.2.1 ∈ al := by
  intro r0 hr0
  by_cases hn : r0.2.1 ∈ al
  · exact hn
  exfalso
  obtain ⟨m1, m2, m3⟩ := mem_runs.mp hr0
  have ms : ∀ x, spentR (runsL qs g) x = spentQ qs g x := spent_runs P.nn
  have hC : ∀ x, x ∈ ns.filter (fun x => decide (x ∉ al)) ↔ x ∈ ns ∧ x ∉ al := fun x => by
    rw [List.mem_filter]
    exact ⟨fun h => ⟨h.1, of_decide_eq_true h.2⟩, fun h => ⟨h.1, decide_eq_true h.2⟩⟩
  have hnd : (ns.filter fun x => decide (x ∉ al)).Nodup := List.Pairwise.filter _ nd
  generalize (ns.filter fun x => decide (x ∉ al)) = C at hC hnd
  have e1 : su C (spentQ qs g) = eT ps T (inR C) := spent_R P hnd fun q hq h1 h2 => by
    refine Int.not_lt.mp fun h3 => ?_
    have hq2 : q.2 ∈ al := by
      by_cases z : q.2 ∈ al
      · exact z
      · exact absurd ((hC _).mpr ⟨P.m2 L hq, z⟩) h2
    exact ((hC _).mp h1).2 (c.clo (q.1, q.2, g q) (mem_runs.mpr ⟨hq, h3, rfl⟩) hq2)
  have e2 : su C t = su C (spentQ qs g) := su_congr fun x hx => by
    obtain ⟨h1, h2⟩ := (hC x).mp hx
    have h3 := hle x h1
    have h4 : ¬ 0 < t x - spentR (runsL qs g) x := fun z => h2 (c.has x h1 z)
    rw [ms x] at h4
    omega
  have hm : r0.2.1 ∈ C := (hC _).mpr ⟨P.m2 L m1, hn⟩
  have hpos : 0 < t r0.2.1 := by
    rcases P.mem.mp m1 with h | h
    · exact (p.part _ h).2
    · exact (p.part _ h).1
  have e3 := su_mem_le (l := C) (g := t) (fun x hx => p.nn x ((hC x).mp hx).1) hm
  rcases p.room C hnd fun x hx => ((hC x).mp hx).1 with e | e <;> omega
theorem order_poor (L : LotOk ns ps T) (hp : Poor t ps) (P : Paid ps T qs g) (hle : ∀ x ∈ ns, spentQ qs g x ≤ t x) (c : Clo ns t (runsL qs g) al) : ∃ r ∈ runsL qs g, r.2.1 ∉ al := by
  have key : ∀ y z, (y, z) ∈ qs → (z, y) ∈ qs → y ∈ ns → t y = 0 → 1 ≤ g (y, z) + g (z, y) → ∃ r ∈ runsL qs g, r.2.1 ∉ al := by
    intro y z h1 h2 hy h0 h3
    have hs := hle y hy
    have hzero : ∀ q ∈ qs, q.1 = y → g q = 0 := fun q hq e => by
      have q1 := su_mem_le (l := qs) (g := fun q => if q.1 = y then g q else 0) (fun q hq => by
        split
        · exact P.nn q hq
        · exact Int.le_refl _) hq
      have q2 : (if q.1 = y then g q else 0) ≤ spentQ qs g y := q1
      rw [if_pos e] at q2
      have := P.nn q hq
      omega
    have e1 := hzero (y, z) h1 rfl
    refine ⟨(z, y, g (z, y)), mem_runs.mpr ⟨h2, by show 0 < g (z, y); omega, rfl⟩, fun hal => ?_⟩
    rcases c.why y hal with h | ⟨r, hr, e⟩
    · rw [spent_runs P.nn] at h
      have := P.spent_nn y
      omega
    · obtain ⟨m1, m2, m3⟩ := mem_runs.mp hr
      have := hzero _ m1 e
      omega
  obtain ⟨p, hp, h⟩ := hp
  have h3 := P.sum p hp
  have h4 := L.pos p hp
  have i1 : p ∈ qs := P.mem.mpr (.inl hp)
  have i2 : sw p ∈ qs := P.mem.mpr (.inr hp)
  rcases h with h | h
  · exact key p.1 p.2 i1 i2 (L.m1 p hp) h (by show 1 ≤ g p + g (sw p); omega)
  · exact key p.2 p.1 i2 i1 (L.m2 p hp) h (by show 1 ≤ g (sw p) + g p; omega)
end
/-! ### all of the runs -/
theorem su_all {α : Type} {l : List α} {p : α → Prop} [DecidablePred p] : su l (fun a => if p a then 1 else 0) = l.length ↔ ∀ a ∈ l, p a := by
  induction l with
  | nil => exact ⟨fun _ a h => absurd h List.not_mem_nil, fun _ => rfl⟩
  | cons a l ih =>
    have hle : su l (fun a => if p a then 1 else 0) ≤ l.length := by
      have := su_const_le (l := l) (g := fun a => if p a then (1 : Int) else 0) (c := 1) fun a _ => by split <;> omega
      omega
    rw [su_cons, List.length_cons]
    constructor
    · intro h b hb
      by_cases pa : p a
      · rw [if_pos pa] at h
        rcases List.mem_cons.mp hb with e | e
        · rw [e]; exact pa
        · exact ih.mp (by omega) b e
      · rw [if_neg pa] at h
        omega
    · intro h
      rw [if_pos (h a List.mem_cons_self), ih.mpr fun b hb => h b (List.mem_cons_of_mem _ hb)]
      omega
end Ep

set_option Elab.async false
set_option linter.all false
set_option maxRecDepth 100000
set_option maxHeartbeats 4000000
/-! ## order -/
namespace Ep
open PySem PySem.Spec PyProof.Rows L2
section
variable {P : Program} {w : World} {K : PySem.W.Frag} {mg : Str → Option Value} {base : Heap} {f : Addr} {fd : FuncData}
def p_order (K : PySem.W.Frag) : Sp := fun vs H Q _ => ∃ a l ns t rs, vs = [.ref a, .ref l] ∧ PurAt K H a ns t ∧ NamesOk ns ∧ RunsAt H l rs ∧ rs.length ≤ 1000 ∧ (tabL rs).length ≤ 500 ∧ (∀ p, totL rs p ≤ 10 ^ 24) ∧ (∀ r ∈ rs, r.1 ∈ ns) ∧ (∀ x ∈ ns, spentR rs x ≤ t x) ∧
  (∀ H' p x al, Same H H' → Clo ns t rs al → (∀ r ∈ rs, r.2.1 ∈ al) → H' p = some (.tup [.str "timetable", x]) → Q (.ref p) H') ∧
  (∀ H' p x al, Same H H' → Clo ns t rs al → (∃ r ∈ rs, r.2.1 ∉ al) → H' p = some (.tup [.str "closed", x]) → Q (.ref p) H')
abbrev s_order : Stmt := top 41
abbrev N_order : List Str := ["purses", "payments", "left", "alive", "known", "undone", "at", "run", "player"]
theorem sc_order : FnScope N_order ["purses", "payments"] (defScope s_order) := ⟨rfl, rfl, rfl, by decide +kernel, rfl, by decide +kernel, by decide +kernel⟩
def cntIn (rs : List Run) (S : List Str) : Int := su rs fun r => if r.2.1 ∈ S then 1 else 0
def cntAt (rs : List Run) (x : Str) : Int := su rs fun r => if r.2.1 = x then 1 else 0
theorem cnt_add {rs : List Run} {S : List Str} {x : Str} (h : x ∉ S) : cntIn rs (S ++ [x]) = cntIn rs S + cntAt rs x := by
  unfold cntIn cntAt
  rw [← su_add]
  refine su_congr fun r _ => ?_
  by_cases a : r.2.1 = x
  · rw [if_pos a, a, if_pos (List.mem_append_right _ (List.mem_singleton.mpr rfl)), if_neg h]; rfl
  · rw [if_neg a]
    by_cases b : r.2.1 ∈ S
    · rw [if_pos b, if_pos (List.mem_append_left _ b)]; rfl
    · rw [if_neg b, if_neg (fun m => (List.mem_append.mp m).elim b fun e => a (List.mem_singleton.mp e))]; rfl
theorem ok_order (F : FnP K "order" "order" s_order f fd) (T : Txt K mg) (d_left_by : Df P w K mg base CX0 2 "left_by" ["purses", "payments"] (p_left_by K)) (d_lot_of : Df P w K mg base CX0 7 "lot_of" ["timetable"] (p_lot_of K))
    (d_Lot_players : Dm P w K mg base 1 (cL K) "players" ["self"] (p_Lot_players K)) : FnOk P w K mg base CX0 8 f fd ["purses", "payments"] (p_order K) := by
  refine ok0 F sc_order (fun _ _ _ _ h => by obtain ⟨a, l, x, y, z, rfl, _⟩ := h; rfl) fun cdv A outer s H vs Q E hr h => ?_
  obtain ⟨a, l, ns, t, rs, rfl, hpur, nok, hruns, hrl, htab, htot, hin, hle, q1, q2⟩ := h
  have hu := hu_of hr
  refine ⟨_, (pss_cons (ps_set (i := 2) sc_order.nd rfl (Or.inr rfl) (pe_df d_left_by hr (pa_cons (pv 0) (pa_cons (pv 1) pa_nil))))
    (pss_cons (ps_setLc (i := 3) (own := [("player", 8)]) (g := gName 8) rfl sc_order.nd rfl rfl (sw_true rfl rfl rfl (by decide +kernel)) (pi_list (pe_callB (call_sortedD rfl) (by rfl) T.sorted bt_sorted (pa_cons (pv 2) pa_nil))) (blkOk_by (own := [("player", 8)]) (N := N_order) (sc := defScope s_order) (by decide +kernel)) (fun _ _ _ _ _ => (pg_name (i := 8) sc_order.nd rfl (Or.inl rfl))) (fun _ _ _ _ _ => pts_one (pt_cmpR op_gt (pe_dget hu (pv 2) (pv 8) (fun _ _ => rfl)) pe_int (nomark _))) (fun _ _ _ _ _ => (pv 8)))
    (pss_cons (ps_set (i := 4) sc_order.nd rfl (Or.inr rfl) (pe_dc (own := [("player", 8)]) (g := gName 8) (tt := tYes) rfl sc_order.nd (pi_list (pv 3)) (blkOk_by (own := [("player", 8)]) (N := N_order) (sc := defScope s_order) (by decide +kernel)) (fun _ _ _ _ _ => (pg_name (i := 8) sc_order.nd rfl (Or.inl rfl))) (fun _ _ _ _ _ => pts_nil) (fun _ _ _ _ _ => (pv 8)) (fun _ _ _ _ _ => pe_bl)))
    (pss_cons (ps_par (i := 5) (j := 6) (by rfl) sc_order.nd rfl rfl (by decide) rfl rfl (pa_cons (pe_lst pa_nil) (pa_cons pe_int pa_nil)) (by rfl))
    (pss_cons (ps_while PassesOwn.never (pt_cmpR op_lt (pv 6) (pe_callB call_len_seq (by rfl) T.len bt_len (pa_cons (pv 3) pa_nil)) (nomark _))
      (pss_cons (ps_for PassesOwn.never rfl (pi_list (pv 1)) (pg_name (i := 7) sc_order.nd rfl (Or.inl rfl))
        (pss_one (ps_if (pt_cmpR op_eq (pe_ix ix_tup (pv 7) pe_int (fun _ _ => rfl)) (pe_ix ix_list (pv 3) (pv 6) (fun _ _ => rfl)) (nomark _))
          (pss_cons (ps_expr (pe_bm PySem.F.plainAttrs_list PySem.F.slot_list_append PySem.F.type_list_append mt_append (pv 5) (pa_cons (pv 7) pa_nil)))
          (pss_one (ps_if (pt_cmp (pc_dnotin hu (pe_ix ix_tup (pv 7) pe_int (fun _ _ => rfl)) (pv 4)))
            (pss_cons (ps_dput hu (pv 4) (pe_ix ix_tup (pv 7) pe_int (fun _ _ => rfl)) pe_bl rfl)
            (pss_one (ps_expr (pe_bm PySem.F.plainAttrs_list PySem.F.slot_list_append PySem.F.type_list_append mt_append (pv 3) (pa_cons (pe_ix ix_tup (pv 7) pe_int (fun _ _ => rfl)) pa_nil)))))
            pss_nil)))
          pss_nil)))
      (pss_one (ps_aug (i := 6) sc_order.nd rfl (Or.inl rfl) pe_int ip_add))))
    (pss_cons (ps_if (pt_cmpR op_eq (pe_callB call_len_seq (by rfl) T.len bt_len (pa_cons (pv 5) pa_nil)) (pe_callB call_len_seq (by rfl) T.len bt_len (pa_cons (pv 1) pa_nil)) (nomark _))
      (pss_one (ps_ret (pe_tup (pa_cons pe_str (pa_cons (pe_revL (pv 5)) pa_nil)))))
      pss_nil)
    (pss_one (ps_ret (pe_tup (pa_cons pe_str (pa_cons (pe_lc (own := [("player", 8)]) (g := gName 8) rfl sc_order.nd (pi_list (pe_dm0 d_Lot_players hr (pe_df d_lot_of hr (pa_cons (pv 1) pa_nil)))) (blkOk_by (own := [("player", 8)]) (N := N_order) (sc := defScope s_order) (by decide +kernel)) (fun _ _ _ _ _ => (pg_name (i := 8) sc_order.nd rfl (Or.inl rfl))) (fun _ _ _ _ _ => pts_one (pt_cmp (pc_dnotin hu (pv 8) (pv 4)))) (fun _ _ _ _ _ => (pv 8))) pa_nil))))))))))), ?_⟩
  have ⟨ts, hl, hts⟩ := hruns
  have hlt : ts.length = rs.length := Paired.length hts
  refine ⟨.ref a, rfl, .ref l, rfl, a, l, ns, t, rs, rfl, hpur, nok, hruns, hin, hle, fun H1 d ys k1 pm as nd hd => ?_⟩
  have hyl : ys.length ≤ 24 := by rw [pm.length_eq]; exact nok.len
  refine ⟨.ref d, rfl, d, _, ys, rfl, .inl hd, keys_mk, mkT_nd hyl, fun zs p pmz soz np => ?_⟩
  refine ⟨p, rfl, ⟨_, SqL.of upd_same⟩, fun al nal => ?_⟩
  have k2 : Same H (upd H1 p (.lst (zs.map V.str))) := Same.new k1 np
  have ndz : zs.Nodup := pmz.nodup_iff.mpr (pm.nodup_iff.mpr nok.nd)
  have hzn : ∀ x ∈ zs, x ∈ ns := fun x hx => pm.mem_iff.mp (pmz.mem_iff.mp hx)
  have nal0 : H al = none := none_of k2 nal
  have npal : p ≠ al := fun e => by rw [← e, upd_same] at nal; cases nal
  have ndal : d ≠ al := ne_of_none (new_get np hd) nal
  refine lc_it (walk_list (xs := zs.map V.str)) (fun i H' => Same H H' ∧ H' p = some (.lst (zs.map V.str)) ∧ H' d = some (dI ys fun x => t x - spentR rs x) ∧ H' al = some (.lst (((zs.take i).filter fun x => decide (0 < t x - spentR rs x)).map V.str))) ?_ ?_ ?_ ?_
  · exact ⟨Same.new k2 nal, new_get nal upd_same, new_get nal (new_get np hd), upd_same⟩
  · rintro i H2 _ ⟨_, h, _⟩
    exact SqL.of h
  · rintro i v H2 H3 hi ⟨k, hp, hd2, hal⟩ ⟨rfl, hv⟩
    obtain ⟨x, hx, rfl⟩ := map_str_get hv
    have hxy : x ∈ ys := pmz.mem_iff.mp (List.mem_of_getElem? hx)
    refine ⟨rfl, .ref d, rfl, .str x, rfl, d, _, rfl, dN_get hd2 hxy, t x - spentR rs x, 0, rfl, rfl, ?_⟩
    by_cases hpos : 0 < t x - spentR rs x
    · refine ⟨true, bl_t hpos, .str x, rfl, _, hal, ?_, Same.wrN k nal0, by rw [upd_ne npal]; exact hp, by rw [upd_ne ndal]; exact hd2, ?_⟩
      · rw [List.length_map]
        have e1 := List.length_filter_le (fun x => decide (0 < t x - spentR rs x)) (zs.take i)
        have e2 := List.length_take_le' i zs
        have e3 := pmz.length_eq
        exact lt_sz (by omega)
      · rw [upd_same, take_snoc hx, List.filter_append, List.filter_cons_of_pos (p := fun x => decide (0 < t x - spentR rs x)) (decide_eq_true hpos), List.map_append]; rfl
    · refine ⟨false, bl_f hpos, k, hp, hd2, ?_⟩
      rw [take_snoc hx, List.filter_append, List.filter_cons_of_neg (p := fun x => decide (0 < t x - spentR rs x)) (by simpa using hpos)]
      simpa using hal
  rintro H2 ⟨k3, hp3, hd3, hal3⟩
  rw [List.take_of_length_le (by rw [List.length_map]; exact Nat.le_refl _)] at hal3
  have hA : ∀ x, x ∈ zs.filter (fun x => decide (0 < t x - spentR rs x)) ↔ x ∈ ns ∧ 0 < t x - spentR rs x := fun x => by
    rw [List.mem_filter, pmz.mem_iff, pm.mem_iff]
    exact ⟨fun h => ⟨h.1, of_decide_eq_true h.2⟩, fun h => ⟨h.1, decide_eq_true h.2⟩⟩
  have ndA : (zs.filter fun x => decide (0 < t x - spentR rs x)).Nodup := List.Pairwise.filter _ ndz
  generalize (zs.filter fun x => decide (0 < t x - spentR rs x)) = A0 at hal3 hA ndA
  have hA24 : A0.length ≤ 24 := Nat.le_trans (List.Nodup.length_le_of_subset ndA fun z hz => ((hA z).mp hz).1) nok.len
  clear hp3
  refine ⟨.ref al, rfl, al, rfl, ⟨_, SqL.of hal3⟩, fun kn nkn => ?_⟩
  have nkn0 : H kn = none := none_of k3 nkn
  have nalk : al ≠ kn := ne_of_none hal3 nkn
  refine dc_it (walk_list (xs := A0.map V.str)) (fun i H' => Same H H' ∧ H' al = some (.lst (A0.map V.str)) ∧ H' kn = some (dN (A0.take i) fun _ => .bl true)) ?_ ?_ ?_ ?_
  · exact ⟨Same.new k3 nkn, new_get nkn hal3, upd_same⟩
  · rintro i H3 _ ⟨_, h, _⟩
    exact SqL.of h
  · rintro i v H3 H4 hi ⟨k, hal, hkn⟩ ⟨rfl, hv⟩
    obtain ⟨x, hx, rfl⟩ := map_str_get hv
    refine ⟨rfl, .str x, rfl, _, kS x, rfl, hkn, ?_, Same.wrN k nkn0, by rw [upd_ne nalk]; exact hal, ?_⟩
    · rw [length_mkT, List.length_take]
      exact lt_sz (by omega)
    · rw [upd_same]
      exact congrArg some (dN_snoc (f := fun _ => .bl true) ndA hx)
  rintro H3 ⟨k4, hal4, hkn4⟩
  rw [List.take_of_length_le (by rw [List.length_map]; exact Nat.le_refl _)] at hkn4
  refine ⟨Nat.zero_le _, fun un nun => ⟨_, _, rfl, ?_⟩⟩
  have nun0 : H un = none := none_of k4 nun
  have nalu : al ≠ un := ne_of_none hal4 nun
  have nknu : kn ≠ un := ne_of_none hkn4 nun
  refine ⟨fun m σ H' => (∃ x7 x8, ∃ dn rest, ∃ us : List V, σ = [some (.ref a), some (.ref l), some (.ref d), some (.ref al), some (.ref kn), some (.ref un), some (.int (dn.length : Nat)), x7, x8] ∧ m = 24 - dn.length ∧
    Same H H' ∧ H' al = some (.lst ((dn ++ rest).map V.str)) ∧ H' kn = some (dN (dn ++ rest) fun _ => .bl true) ∧ H' un = some (.lst us) ∧ (us.length : Int) = cntIn rs dn ∧
    (dn ++ rest).Nodup ∧ (∀ x ∈ dn ++ rest, x ∈ ns ∧ (0 < t x - spentR rs x ∨ ∃ r ∈ rs, r.1 = x)) ∧ (∀ x ∈ A0, x ∈ dn ++ rest) ∧ ∀ r ∈ rs, r.2.1 ∈ dn → r.1 ∈ dn ++ rest), ⟨24, ?_⟩, ?_⟩
  · refine ⟨_, _, [], A0, [], rfl, rfl, Same.new k4 nun, new_get nun hal4, new_get nun hkn4, upd_same, ?_, ndA, fun x hx => ⟨((hA x).mp hx).1, .inl ((hA x).mp hx).2⟩, fun x hx => hx, fun r hr h => absurd h List.not_mem_nil⟩
    exact (su_zero fun r _ => if_neg List.not_mem_nil).symm
  rintro m σ H4 ⟨x7, x8, dn, rest, us, rfl, rfl, k5, hal5, hkn5, hun5, hcn, nda, hsub, hA0, hclo⟩
  have hrow : (dn ++ rest).length ≤ 24 := Nat.le_trans (List.Nodup.length_le_of_subset nda fun z hz => (hsub z hz).1) nok.len
  have hlen : ((dn ++ rest).map V.str).length = dn.length + rest.length := by rw [List.length_map, List.length_append]
  cases rest with
  | nil =>
    rw [List.append_nil] at hal5 hkn5 nda hsub hA0 hclo
    refine ⟨.int (dn.length : Nat), rfl, .ref al, rfl, al, _, rfl, .inl (SqL.of hal5), (dn.length : Nat), _, rfl, rfl, false, bl_f (by rw [List.length_map]; omega), ?_⟩
    have cl : Clo ns t rs dn := ⟨nda, fun x hx => (hsub x hx).1, fun x hx hp => hA0 x ((hA x).mpr ⟨hx, hp⟩), fun r hr h => hclo r hr h, fun x hx => (hsub x hx).2⟩
    refine ⟨.ref un, rfl, un, _, rfl, .inl (SqL.of hun5), .ref l, rfl, l, _, rfl, .inl (SqL.of (k5 _ _ hl)), rfl, ?_⟩
    by_cases hall : ∀ r ∈ rs, r.2.1 ∈ dn
    · have e : (us.length : Int) = ((ts.map V.ref).length : Nat) := by
        rw [hcn, List.length_map, hlt]
        exact su_all.mpr hall
      refine ⟨true, bl_t (by rw [e]), ?_⟩
      refine ⟨.ref un, rfl, un, _, rfl, SqL.of hun5, fun pr npr => ⟨two_sz, fun pt npt => ?_⟩⟩
      exact q1 _ pt _ dn (Same.new (Same.new k5 npr) npt) cl hall upd_same
    · have e : ¬ V.int (us.length : Int) = V.int (((ts.map V.ref).length : Nat) : Int) := fun h => hall (su_all.mp (by
        have h2 := V.int.inj h
        rw [hcn, List.length_map, hlt] at h2
        exact h2))
      refine ⟨false, bl_f e, ?_⟩
      have hex : ∃ r ∈ rs, r.2.1 ∉ dn := by
        refine Classical.byContradiction fun h => hall fun r hr => ?_
        refine Classical.byContradiction fun h2 => h ⟨r, hr, h2⟩
      refine ⟨.ref l, rfl, l, rs, rfl, RunsAt.same k5 hruns, hrl, htot, fun H5 lo k6 nlo hlo => ?_⟩
      obtain ⟨dx, dd, hlo1, hlo2⟩ := hlo
      refine ⟨lo, dx, _, rfl, hlo1, rfl, lo, _, _, rfl, ⟨dx, dd, hlo1, hlo2⟩, htab, fun H6 pl ps k7 hps hpl npl hpl6 => ?_⟩
      have k57 := Same.tr k5 (Same.tr k6 k7)
      refine ⟨pl, rfl, ⟨_, SqL.of hpl6⟩, fun D nD => ?_⟩
      have nD0 : H D = none := none_of k57 nD
      refine lc_it (walk_list (xs := ps.map V.str)) (fun i H' => Same H6 H' ∧ ∃ xs : List V, H' D = some (.lst xs) ∧ xs.length ≤ i) ?_ ?_ ?_ ?_
      · exact ⟨Same.new Same.rfl nD, [], upd_same, Nat.le_refl _⟩
      · rintro i H7 _ ⟨k, _⟩
        exact SqL.of (k _ _ hpl6)
      · rintro i v H7 H8 hi ⟨k, xs, hD, hxs⟩ ⟨rfl, hv⟩
        obtain ⟨x, hx, rfl⟩ := map_str_get hv
        rw [List.length_map] at hi
        have hk8 := k _ _ (k7 _ _ (k6 _ _ hkn5))
        by_cases c : x ∈ dn
        · refine ⟨rfl, .str x, rfl, .ref kn, rfl, kn, _, rfl, dN_get hk8 c, false, rfl, ?_⟩
          exact ⟨k, xs, hD, Nat.le_succ_of_le hxs⟩
        · refine ⟨rfl, .str x, rfl, .ref kn, rfl, kn, _, rfl, dN_no hk8 c, true, rfl, ?_⟩
          refine ⟨.str x, rfl, xs, hD, lt_sz (by omega), Same.wrN k nD, _, upd_same, by rw [List.length_append]; exact Nat.succ_le_succ hxs⟩
      · rintro H7 ⟨k, xs, hD, hxs⟩
        refine ⟨two_sz, fun pt npt => ?_⟩
        exact q2 _ pt _ dn (Same.new (Same.tr k57 k) npt) cl hex upd_same
  | cons x rest =>
    refine ⟨.int (dn.length : Nat), rfl, .ref al, rfl, al, _, rfl, .inl (SqL.of hal5), (dn.length : Nat), _, rfl, rfl, true, bl_t (by rw [hlen, List.length_cons]; omega), ?_⟩
    rw [List.length_append, List.length_cons] at hrow
    refine ⟨fun σ H' => ∃ m', m' < 24 - dn.length ∧ (∃ x7 x8, ∃ dn rest, ∃ us : List V, σ = [some (.ref a), some (.ref l), some (.ref d), some (.ref al), some (.ref kn), some (.ref un), some (.int (dn.length : Nat)), x7, x8] ∧ m' = 24 - dn.length ∧
      Same H H' ∧ H' al = some (.lst ((dn ++ rest).map V.str)) ∧ H' kn = some (dN (dn ++ rest) fun _ => .bl true) ∧ H' un = some (.lst us) ∧ (us.length : Int) = cntIn rs dn ∧
      (dn ++ rest).Nodup ∧ (∀ x ∈ dn ++ rest, x ∈ ns ∧ (0 < t x - spentR rs x ∨ ∃ r ∈ rs, r.1 = x)) ∧ (∀ x ∈ A0, x ∈ dn ++ rest) ∧ ∀ r ∈ rs, r.2.1 ∈ dn → r.1 ∈ dn ++ rest), fun _ _ h => h, ?_⟩
    have nxd : x ∉ dn := fun h => (List.nodup_append.mp nda).2.2 x h x List.mem_cons_self rfl
    have hx : ∀ rj : List Str, ((dn ++ x :: rj).map V.str)[dn.length]? = some (.str x) := fun rj => by
      rw [List.getElem?_map, List.getElem?_append_right (Nat.le_refl _), Nat.sub_self]; rfl
    refine ⟨.ref l, rfl, l, rfl, ⟨_, SqL.of (k5 _ _ hl)⟩, ?_⟩
    refine for_it (walk_list (xs := ts.map V.ref)) (fun j σ H' => ∃ x7 rj, ∃ us : List V, σ = [some (.ref a), some (.ref l), some (.ref d), some (.ref al), some (.ref kn), some (.ref un), some (.int (dn.length : Nat)), x7, x8] ∧
      Same H H' ∧ H' al = some (.lst ((dn ++ x :: rj).map V.str)) ∧ H' kn = some (dN (dn ++ x :: rj) fun _ => .bl true) ∧ H' un = some (.lst us) ∧ (us.length : Int) = cntIn rs dn + cntAt (rs.take j) x ∧
      (dn ++ x :: rj).Nodup ∧ (∀ x' ∈ dn ++ x :: rj, x' ∈ ns ∧ (0 < t x' - spentR rs x' ∨ ∃ r ∈ rs, r.1 = x')) ∧ (∀ z ∈ dn ++ x :: rest, z ∈ dn ++ x :: rj) ∧ ∀ r ∈ rs.take j, r.2.1 = x → r.1 ∈ dn ++ x :: rj) ?_ ?_ ?_ ?_
    · refine ⟨_, rest, us, rfl, k5, hal5, hkn5, hun5, ?_, nda, hsub, fun z hz => hz, fun r hr => absurd hr List.not_mem_nil⟩
      rw [hcn]; show _ = cntIn rs dn + 0; omega
    · rintro j σ H5 _ ⟨_, _, _, _, k, _⟩
      exact SqL.of (k _ _ hl)
    · rintro j v σ H5 H6 hj ⟨x7', rj, us', rfl, k6, hal6, hkn6, hun6, hcn6, nd6, hsub6, hold6, hclo6⟩ ⟨rfl, hv⟩
      obtain ⟨z, hzi, rfl⟩ := map_ref_get hv
      obtain ⟨⟨r1, r2, rm⟩, hri, hrun⟩ := L2.paired_get hts hzi
      have hrm := List.mem_of_getElem? hri
      have sq : ∀ {H'}, Same H H' → SqT K H' z [.str r1, .str r2, .int rm] := fun k => SqT.of (k _ _ hrun)
      have hrow6 : (dn ++ x :: rj).length ≤ 24 := Nat.le_trans (List.Nodup.length_le_of_subset nd6 fun z hz => (hsub6 z hz).1) nok.len
      have ec : cntAt (rs.take (j + 1)) x = cntAt (rs.take j) x + if r2 = x then 1 else 0 := by
        unfold cntAt
        rw [take_snoc hri, su_app, su_cons, su_nil]
        show _ + ((if r2 = x then (1 : Int) else 0) + 0) = _
        rw [Int.add_zero]
      by_cases hrx : r2 = x
      · refine ⟨.ref z, rfl, z, _, 1, _, rfl, rfl, sq k6, rfl, .ref al, rfl, .int (dn.length : Nat), rfl, al, _, _, .str x, rfl, rfl, SqL.of hal6, atI_nat (hx rj), rfl, true, bl_t (by rw [hrx]), ?_⟩
        refine ⟨.ref un, rfl, .inl ⟨rfl, _, SqL.of hun6⟩, .ref z, rfl, un, us', _, rfl, rfl, hun6, ?_, ?_⟩
        · have h1 : cntIn rs dn ≤ rs.length := by
            have := su_const_le (l := rs) (g := fun r : Run => if r.2.1 ∈ dn then (1 : Int) else 0) (c := 1) fun r _ => by split <;> omega
            unfold cntIn; omega
          have h2 : cntAt (rs.take j) x ≤ rs.length := by
            have := su_const_le (l := rs.take j) (g := fun r : Run => if r.2.1 = x then (1 : Int) else 0) (c := 1) fun r _ => by split <;> omega
            have := List.length_take_le' j rs
            unfold cntAt; omega
          exact lt_sz (by omega)
        have k7 : Same H (upd H6 un (.lst (us' ++ [.ref z]))) := Same.wrN k6 nun0
        have hal7 : upd H6 un (.lst (us' ++ [.ref z])) al = some (.lst ((dn ++ x :: rj).map V.str)) := by rw [upd_ne nalu]; exact hal6
        have hkn7 : upd H6 un (.lst (us' ++ [.ref z])) kn = some (dN (dn ++ x :: rj) fun _ => .bl true) := by rw [upd_ne nknu]; exact hkn6
        have hun7 : upd H6 un (.lst (us' ++ [.ref z])) un = some (.lst (us' ++ [.ref z])) := upd_same
        generalize upd H6 un (.lst (us' ++ [.ref z])) = H7 at k7 hal7 hkn7 hun7
        have hcn7 : ((us' ++ [V.ref z]).length : Int) = cntIn rs dn + cntAt (rs.take (j + 1)) x := by
          rw [ec, if_pos hrx, List.length_append, List.length_singleton]; omega
        by_cases c : r1 ∈ dn ++ x :: rj
        · refine ⟨.ref z, rfl, z, _, 0, _, rfl, rfl, sq k7, rfl, .ref kn, rfl, kn, _, rfl, dN_get hkn7 c, false, rfl, ?_⟩
          refine ⟨_, rj, _, rfl, k7, hal7, hkn7, hun7, hcn7, nd6, hsub6, hold6, fun r hr h => ?_⟩
          rw [take_snoc hri] at hr
          rcases List.mem_append.mp hr with hr | hr
          · exact hclo6 r hr h
          · rw [List.mem_singleton.mp hr]; exact c
        · refine ⟨.ref z, rfl, z, _, 0, _, rfl, rfl, sq k7, rfl, .ref kn, rfl, kn, _, rfl, dN_no hkn7 c, true, rfl, ?_⟩
          refine ⟨.ref kn, rfl, .ref z, rfl, z, _, 0, _, rfl, rfl, sq k7, rfl, kn, _, rfl, dN_new hkn7 c (lt_sz (by omega)), ?_⟩
          have e1 : dn ++ x :: rj ++ [r1] = dn ++ x :: (rj ++ [r1]) := by rw [List.append_assoc]; rfl
          have k8 : Same H (upd H7 kn (dN (dn ++ x :: rj ++ [r1]) (up (fun _ => .bl true) r1 (.bl true)))) := Same.wrN k7 nkn0
          have hal8 : upd H7 kn (dN (dn ++ x :: rj ++ [r1]) (up (fun _ => .bl true) r1 (.bl true))) al = some (.lst ((dn ++ x :: rj).map V.str)) := by rw [upd_ne nalk]; exact hal7
          refine ⟨.ref al, rfl, .inl ⟨rfl, _, SqL.of hal8⟩, .ref z, rfl, z, _, 0, _, rfl, rfl, sq k8, rfl, al, _, _, rfl, rfl, hal8, by rw [List.length_map]; exact lt_sz (by omega), ?_⟩
          refine ⟨_, rj ++ [r1], _, rfl, Same.wrN k8 nal0, ?_, ?_, ?_, hcn7, ?_, fun z hz => ?_, fun z hz => ?_, fun r hr h => ?_⟩
          · rw [upd_same, ← e1, List.map_append (l₂ := [r1])]; rfl
          · rw [upd_ne (Ne.symm nalk), upd_same, e1]
            refine congrArg some (dN_congr fun y _ => ?_)
            unfold up
            split <;> rfl
          · rw [upd_ne (Ne.symm nalu), upd_ne (Ne.symm nknu)]; exact hun7
          · rw [← e1]
            exact List.nodup_append.mpr ⟨nd6, List.nodup_cons.mpr ⟨List.not_mem_nil, List.nodup_nil⟩, fun a ha b hb e => c (by rw [← List.mem_singleton.mp hb, ← e]; exact ha)⟩
          · rw [← e1] at hz
            rcases List.mem_append.mp hz with hz | hz
            · exact hsub6 z hz
            · rw [List.mem_singleton.mp hz]; exact ⟨hin _ hrm, .inr ⟨_, hrm, rfl⟩⟩
          · rw [← e1]; exact List.mem_append_left _ (hold6 z hz)
          · rw [← e1]
            rw [take_snoc hri] at hr
            rcases List.mem_append.mp hr with hr | hr
            · exact List.mem_append_left _ (hclo6 r hr h)
            · rw [List.mem_singleton.mp hr]; exact List.mem_append_right _ (List.mem_singleton.mpr rfl)
      · refine ⟨.ref z, rfl, z, _, 1, _, rfl, rfl, sq k6, rfl, .ref al, rfl, .int (dn.length : Nat), rfl, al, _, _, .str x, rfl, rfl, SqL.of hal6, atI_nat (hx rj), rfl, false, bl_f (fun e => hrx (V.str.inj e)), ?_⟩
        refine ⟨_, rj, us', rfl, k6, hal6, hkn6, hun6, by rw [ec, if_neg hrx, Int.add_zero]; exact hcn6, nd6, hsub6, hold6, fun r hr h => ?_⟩
        rw [take_snoc hri] at hr
        rcases List.mem_append.mp hr with hr | hr
        · exact hclo6 r hr h
        · rw [List.mem_singleton.mp hr] at h; exact absurd h hrx
    · rintro σ H5 ⟨x7', rj, us', rfl, k6, hal6, hkn6, hun6, hcn6, nd6, hsub6, hold6, hclo6⟩
      rw [List.take_of_length_le (by rw [List.length_map]; omega)] at hcn6 hclo6
      have e1 : dn ++ [x] ++ rj = dn ++ x :: rj := by rw [List.append_assoc]; rfl
      refine ⟨.int (dn.length : Nat), rfl, _, 1, rfl, rfl, ?_⟩
      refine ⟨24 - (dn ++ [x]).length, by rw [List.length_append, List.length_singleton]; omega, x7', x8, dn ++ [x], rj, us', ?_, rfl, k6, by rw [e1]; exact hal6, by rw [e1]; exact hkn6, hun6, by rw [cnt_add nxd]; exact hcn6, by rw [e1]; exact nd6, by rw [e1]; exact hsub6, fun z hz => by rw [e1]; exact hold6 z (hA0 z hz), fun r hr h => ?_⟩
      · rw [List.length_append, List.length_singleton]; rfl
      · rw [e1]
        rcases List.mem_append.mp h with h | h
        · exact hold6 _ (hclo r hr h)
        · exact hclo6 r hr (List.mem_singleton.mp h)
end
end Ep

set_option Elab.async false
set_option linter.all false
set_option maxRecDepth 100000
set_option maxHeartbeats 4000000
/-! ## decide, payments_of -/
namespace Ep
open PySem PySem.Spec PyProof.Rows L2
/-- C() of an own exception class without __init__ -/
theorem pmk_own0 {X : Cx} {C : Addr} {bmB : List Value} {B newId initId : String} {x : Str} {p pos : Pos} (F : ExcBaseFacts B newId initId bmB) (q : PySem.W.excIn X.K C bmB newId = true) (gC : X.mg x = some (.ref C)) (kC : PySem.W.keepIn X.K (.ref C) = true) (r : Raises X (.ref C)) (hg : Gl X x)
    (hdb : (x == ("__debug__" : Str)) = false := by decide) : PMk X (.Call (.Name x p) [] [] pos) (fun _ H Q => Q (.ref C) none H) := by
  intro pins s σ H Q I h
  refine wpAny_Call_Name_kw (ld_glob I hg gC ?_ hdb)
  refine PySem.W.callWith_K0 I.kIn kC ?_
  show wpAny _ _ (call (.ref C) []) _ _ _
  obtain ⟨bm, N, nm, qn, bs, hdct, sn, sub, ab, col, dd, k0, k1, k2, k3, k5, mN, hC, hN, hni, T⟩ := exc_obj I.kIn q
  refine wpAny_call_exc_subT F T hC hN hni (fun h' e hm => ?_) (Nat.zero_le _)
  exact mk_of I hm r h (I.hok.gone hm.new)
/-! ### the runs of payments, as a table -/
section
variable {ns : List Str} {t : Str → Int} {ps qs : List (Str × Str)} {T g : Str × Str → Int}
theorem LotOk.perm {ys : List Str} (L : LotOk ns ps T) (p : ys.Perm ns) : LotOk ys ps T := ⟨L.nd, L.lt, fun q hq => p.mem_iff.mpr (L.m1 q hq), fun q hq => p.mem_iff.mpr (L.m2 q hq), L.pos, L.top, L.len⟩
theorem Short.perm {ys : List Str} (p : ys.Perm ns) (h : Short ys t ps T) : Short ns t ps T := let ⟨R, h1, h2, h3⟩ := h; ⟨R, h1, fun x hx => p.mem_iff.mp (h2 x hx), h3⟩
theorem Paid.perm' {qs' : List (Str × Str)} (P : Paid ps T qs g) (p : qs'.Perm qs) : Paid ps T qs' g := ⟨p.trans P.perm, fun q hq => P.nn q (p.mem_iff.mp hq), P.sum⟩
theorem spentQ_perm {qs' : List (Str × Str)} (p : qs'.Perm qs) (x : Str) : spentQ qs' g x = spentQ qs g x := su_perm _ p
theorem kPr_of (L : LotOk ns ps T) {p : Str × Str} (hp : p ∈ ps) (m : Int) : kPr (p.1, p.2, m) = p ∧ kPr (p.2, p.1, m) = p := by
  have h := L.lt p hp
  have ne : p.1 ≠ p.2 := fun e => by rw [e] at h; exact ltS_irr h
  have e1 : kPr (p.1, p.2, m) = p := by
    rcases pr_cases ne with ⟨_, e⟩ | ⟨q, e⟩
    · exact e
    · exact absurd q (lt_asym h)
  exact ⟨e1, (pr_comm (Ne.symm ne)).trans e1⟩
theorem runs_key (L : LotOk ns ps T) (P : Paid ps T qs g) {r : Run} (hr : r ∈ runsL qs g) : kPr r ∈ ps := by
  obtain ⟨m1, _, _⟩ := mem_runs.mp hr
  obtain ⟨a, b, m⟩ := r
  rcases P.mem.mp m1 with h | h
  · have e := (kPr_of L h m).1
    rw [show kPr (a, b, m) = (a, b) from e]; exact h
  · have e := (kPr_of L h m).2
    rw [show kPr (a, b, m) = sw (a, b) from e]; exact h
theorem runs_tab (L : LotOk ns ps T) (P : Paid ps T qs g) (p : Str × Str) : p ∈ tabL (runsL qs g) ↔ p ∈ ps := by
  rw [mem_tabK]
  constructor
  · rintro ⟨r, hr, rfl⟩
    exact runs_key L P hr
  · intro hp
    have h1 := P.sum p hp
    have h2 := L.pos p hp
    by_cases h : 0 < g p
    · exact ⟨(p.1, p.2, g p), mem_runs.mpr ⟨P.mem.mpr (.inl hp), h, rfl⟩, (kPr_of L hp _).1⟩
    · have h3 : 0 < g (sw p) := by omega
      exact ⟨(p.2, p.1, g (sw p)), mem_runs.mpr ⟨P.mem.mpr (.inr hp), h3, rfl⟩, (kPr_of L hp _).2⟩
theorem runs_tot (L : LotOk ns ps T) (P : Paid ps T qs g) {p : Str × Str} (hp : p ∈ ps) : totL (runsL qs g) p = T p := by
  show su (runsL qs g) _ = _
  unfold runsL
  rw [su_map, su_filter]
  have e1 : su qs (fun q => if decide (0 < g q) = true then (if kPr (q.1, q.2, g q) = p then g q else 0) else 0) = su qs (fun q => if kPr (q.1, q.2, 0) = p then g q else 0) := su_congr fun q hq => by
    have nn := P.nn q hq
    have ek : kPr (q.1, q.2, g q) = kPr (q.1, q.2, 0) := rfl
    rw [ek]
    by_cases h : 0 < g q
    · rw [if_pos (decide_eq_true h)]
    · rw [if_neg (by simpa using h)]
      split <;> omega
  rw [e1, su_perm _ P.perm, su_both]
  have e2 : su ps (fun p' => (if kPr (p'.1, p'.2, 0) = p then g p' else 0) + (if kPr ((sw p').1, (sw p').2, 0) = p then g (sw p') else 0)) = su ps (fun p' => if p = p' then T p else 0) := su_congr fun p' hp' => by
    have e3 := (kPr_of L hp' 0).1
    have e4 : kPr ((sw p').1, (sw p').2, 0) = p' := (kPr_of L hp' 0).2
    rw [e3, e4]
    by_cases h : p = p'
    · rw [if_pos h.symm, if_pos h.symm, if_pos h, P.sum p' hp', h]
    · rw [if_neg fun e => h e.symm, if_neg fun e => h e.symm, if_neg h]; rfl
  rw [e2, su_single _ L.nd hp]
theorem runs_le (L : LotOk ns ps T) (P : Paid ps T qs g) (p : Str × Str) : totL (runsL qs g) p ≤ 10 ^ 24 := by
  by_cases h : p ∈ ps
  · rw [runs_tot L P h]; exact L.top p h
  · have e : totL (runsL qs g) p = 0 := totK_no fun z => h ((runs_tab L P p).mp z)
    rw [e]; decide
theorem runs_tablen (L : LotOk ns ps T) (P : Paid ps T qs g) : (tabL (runsL qs g)).length ≤ 500 := Nat.le_trans (List.Nodup.length_le_of_subset (nodup_tabK _) fun p hp => (runs_tab L P p).mp hp) L.len
theorem runs_len (L : LotOk ns ps T) (P : Paid ps T qs g) : (runsL qs g).length ≤ 1000 := by
  unfold runsL
  rw [List.length_map]
  exact Nat.le_trans (List.length_filter_le _ _) (P.len L)
end
section
variable {P : Program} {w : World} {K : PySem.W.Frag} {mg : Str → Option Value} {base : Heap} {f : Addr} {fd : FuncData}
def p_decide (K : PySem.W.Frag) : Sp := fun vs H Q _ => ∃ a b ns t ps T', vs = [.ref a, .ref b] ∧ PurAt K H a ns t ∧ NamesOk ns ∧ LotAt K H b ps T' ∧ LotOk ns ps T' ∧
  ∀ H' p kind x, Same H H' → (Playable ns t ps T' → kind = "timetable") → (Poor t ps → kind = "group") → H p = none → H' p = some (.tup [.str kind, x]) → Q (.ref p) H'
abbrev s_decide : Stmt := top 43
abbrev N_decide : List Str := ["purses", "lot", "paid", "group", "kind", "found"]
theorem sc_decide : FnScope N_decide ["purses", "lot"] (defScope s_decide) := ⟨rfl, rfl, rfl, by decide +kernel, rfl, by decide +kernel, by decide +kernel⟩
theorem ok_decide (F : FnP K "decide" "decide" s_decide f fd) (T : Txt K mg) (d_spread_table : Df P w K mg base CX0 3 "spread_table" ["tickets", "lot"] (p_spread K)) (d_order : Df P w K mg base CX0 8 "order" ["purses", "payments"] (p_order K))
    (d_runs_of : Df P w K mg base CX0 1 "runs_of" ["paid"] p_runs_of) (d_Purses_entries : Dm P w K mg base 1 (cP K) "entries" ["self"] (p_entries K)) : FnOk P w K mg base CX0 9 f fd ["purses", "lot"] (p_decide K) := by
  refine ok0 F sc_decide (fun _ _ _ _ h => by obtain ⟨a, l, x, y, z, u, rfl, _⟩ := h; rfl) fun cdv A outer s H vs Q E hr h => ?_
  obtain ⟨a, b, ns, t, ps, T', rfl, hpur, nok, hlot, lok, q⟩ := h
  refine ⟨_, (pss_cons (ps_asg (pe_df d_spread_table hr (pa_cons (pe_callTy (call_dictP rfl) (by rfl) T.dict bt_dict (pa_cons (pe_dm0 d_Purses_entries hr (pv 0)) pa_nil)) (pa_cons (pv 1) pa_nil))) (pg_tup rfl (pgs_cons (pg_name (i := 2) sc_decide.nd rfl (Or.inl rfl)) (pgs_cons (pg_name (i := 3) sc_decide.nd rfl (Or.inl rfl)) pgs_nil))))
    (pss_cons (ps_if (pt_cmpR op_isN (pv 2) pe_non (nomark _))
      (pss_one (ps_ret (pe_tup (pa_cons pe_str (pa_cons (pv 3) pa_nil)))))
      pss_nil)
    (pss_cons (ps_asg (pe_df d_order hr (pa_cons (pv 0) (pa_cons (pe_df d_runs_of hr (pa_cons (pv 2) pa_nil)) pa_nil))) (pg_tup rfl (pgs_cons (pg_name (i := 4) sc_decide.nd rfl (Or.inl rfl)) (pgs_cons (pg_name (i := 5) sc_decide.nd rfl (Or.inl rfl)) pgs_nil))))
    (pss_one (ps_ret (pe_ifExp (pt_cmpR op_eq (pv 4) pe_str (nomark _)) (pe_tup (pa_cons pe_str (pa_cons (pv 5) pa_nil))) (pe_tup (pa_cons pe_str (pa_cons (pv 5) pa_nil))))))))), ?_⟩
  have ⟨dx, d0, ha, hd0⟩ := hpur
  refine ⟨.ref a, rfl, a, dx, _, rfl, ha, rfl, a, ns, t, rfl, hpur, nok, fun H1 l1 ys k1 pm as nl1 he => ?_⟩
  obtain ⟨es, hl1, hes⟩ := he
  have ndy : ys.Nodup := asc_nodup as
  have hyl : ys.length ≤ 24 := by rw [pm.length_eq]; exact nok.len
  refine ⟨l1, es, mkT kS ys fun x => .int (t x), rfl, SqL.of hl1, ents_pairs hes, fun d1 nd1 => ?_⟩
  rw [merge_nil ndy]
  have k2 : Same H (upd H1 d1 (dI ys t)) := Same.new k1 nd1
  refine ⟨.ref b, rfl, d1, b, ys, t, ps, T', rfl, upd_same, LotAt.same k2 hlot, lok.perm pm, ndy, hyl, fun H3 p x k3 hsh hp => ?_, fun H3 p dp qs g k3 hp hdp ndp P0 hsp => ?_⟩
  · refine ⟨p, _, rfl, SqT.of hp, rfl, _, _, rfl, _, _, rfl, rfl, ?_⟩
    refine ⟨.non, rfl, rfl, true, rfl, ?_⟩
    refine ⟨x, rfl, two_sz, fun pp npp => ?_⟩
    exact q _ pp _ x (Same.new (Same.tr k2 k3) npp) (fun pl => absurd (hsh.perm pm) (not_short pl)) (fun _ => rfl) (none_of (Same.tr k2 k3) npp) upd_same
  · have k23 := Same.tr k2 k3
    have lok2 := lok.perm pm
    refine ⟨p, _, rfl, SqT.of hp, rfl, _, _, rfl, _, _, rfl, rfl, ?_⟩
    refine ⟨.ref dp, rfl, rfl, false, rfl, ?_⟩
    refine ⟨.ref a, rfl, .ref dp, rfl, dp, qs, g, rfl, hdp, P0.nd lok2, P0.len lok2, fun H4 l4 qs' k4 pmq pwq nl4 hruns => ?_⟩
    have k24 := Same.tr k23 k4
    have P1 := P0.perm' pmq
    have hsp1 : ∀ x ∈ ns, spentQ qs' g x ≤ t x := fun x hx => by rw [spentQ_perm pmq]; exact hsp x (pm.mem_iff.mpr hx)
    refine ⟨a, l4, ns, t, runsL qs' g, rfl, PurAt.same k24 hpur, nok, hruns, runs_len lok2 P1, runs_tablen lok2 P1, runs_le lok2 P1, fun r hr => ?_, fun x hx => by rw [spent_runs P1.nn]; exact hsp1 x hx, fun H5 p5 x al k5 cl hall hp5 => ?_, fun H5 p5 x al k5 cl hex hp5 => ?_⟩
    · exact P1.m1 lok (mem_runs.mp hr).1
    · refine ⟨p5, _, rfl, SqT.of hp5, rfl, _, _, rfl, _, _, rfl, rfl, ?_⟩
      refine ⟨.str "timetable", rfl, rfl, true, rfl, ?_⟩
      refine ⟨x, rfl, two_sz, fun pp npp => ?_⟩
      refine q _ pp _ x (Same.new (Same.tr k24 k5) npp) (fun _ => rfl) (fun po => ?_) (none_of (Same.tr k24 k5) npp) upd_same
      obtain ⟨r, hr, hn⟩ := order_poor lok po P1 hsp1 cl
      exact absurd (hall r hr) hn
    · refine ⟨p5, _, rfl, SqT.of hp5, rfl, _, _, rfl, _, _, rfl, rfl, ?_⟩
      refine ⟨.str "closed", rfl, rfl, false, bl_f (by decide), ?_⟩
      refine ⟨x, rfl, two_sz, fun pp npp => ?_⟩
      refine q _ pp _ x (Same.new (Same.tr k24 k5) npp) (fun pl => ?_) (fun _ => rfl) (none_of (Same.tr k24 k5) npp) upd_same
      obtain ⟨r, hr, hn⟩ := hex
      exact absurd (order_play lok pl P1 nok.nd hsp1 cl r hr) hn
def p_pay (K : PySem.W.Frag) : Sp := fun vs H Q E => ∃ a b ns t ps T', vs = [.ref a, .ref b] ∧ PurAt K H a ns t ∧ NamesOk ns ∧ LotAt K H b ps T' ∧ LotOk ns ps T' ∧ (Playable ns t ps T' ∨ Poor t ps) ∧
  (Poor t ps → ∀ H', Same H H' → E (.ref (cU K)) none H') ∧
  (Playable ns t ps T' → ∀ H' p dp dl qs g, ∀ ys : List Str, Same H H' → H' p = some (.tup [.ref dp, .ref dl]) → H' dp = some (dP qs g) → H' dl = some (dI ys fun x => t x - spentQ qs g x) → H dp = none → H dl = none → dp ≠ dl → Paid ps T' qs g → (∀ x ∈ ns, spentQ qs g x ≤ t x) → ys.Perm ns → Q (.ref p) H')
abbrev s_payments_of : Stmt := top 44
abbrev N_payments_of : List Str := ["purses", "lot", "tickets", "paid", "left", "payer", "other"]
theorem sc_payments_of : FnScope N_payments_of ["purses", "lot"] (defScope s_payments_of) := ⟨rfl, rfl, rfl, by decide +kernel, rfl, by decide +kernel, by decide +kernel⟩
theorem ok_payments_of (F : FnP K "payments_of" "payments_of" s_payments_of f fd) (T : Txt K mg) (d_decide : Df P w K mg base CX0 9 "decide" ["purses", "lot"] (p_decide K)) (d_spread_table : Df P w K mg base CX0 3 "spread_table" ["tickets", "lot"] (p_spread K))
    (d_Purses_entries : Dm P w K mg base 1 (cP K) "entries" ["self"] (p_entries K)) : FnOk P w K mg base (L2.CX P w) 10 f fd ["purses", "lot"] (p_pay K) := by
  refine FunD.ok F sc_payments_of (fun _ _ _ _ h => by obtain ⟨a, l, x, y, z, u, rfl, _⟩ := h; rfl) fun cdv A outer s H vs Q E hr h => ?_
  obtain ⟨a, b, ns, t, ps, T', rfl, hpur, nok, hlot, lok, hpp, qE, qQ⟩ := h
  have hu := hu_of hr
  refine ⟨_, (pss_cons (ps_if (pt_cmpR op_eq (pe_ix ix_tup (pe_df d_decide hr (pa_cons (pv 0) (pa_cons (pv 1) pa_nil))) pe_int (fun _ _ => rfl)) pe_str (nomark _))
      (pss_one (ps_raise rfl (takes_of rfl rfl rfl rfl) (pmk_own0 PySem.F.excBase_ValueError T.exU T.mgU T.kpU (raises_own T.sbU T.tyU) (by rfl))))
      pss_nil)
    (PSs.nox (pss_cons (ps_set (i := 2) sc_payments_of.nd rfl (Or.inl rfl) (pe_callTy (call_dictP rfl) (by rfl) T.dict bt_dict (pa_cons (pe_dm0 d_Purses_entries hr (pv 0)) pa_nil)))
    (pss_cons (ps_set (i := 3) sc_payments_of.nd rfl (Or.inl rfl) (pe_ix ix_tup (pe_df d_spread_table hr (pa_cons (pv 2) (pa_cons (pv 1) pa_nil))) pe_int (fun _ _ => rfl)))
    (pss_cons (ps_set (i := 4) sc_payments_of.nd rfl (Or.inl rfl) (pe_callTy call_dictD (by rfl) T.dict bt_dict (pa_cons (pv 2) pa_nil)))
    (pss_cons (ps_lock (ps_for PassesOwn.never rfl (pi_keys (pv 3)) (pg_tup rfl (pgs_cons (pg_name (i := 5) sc_payments_of.nd rfl (Or.inl rfl)) (pgs_cons (pg_name (i := 6) sc_payments_of.nd rfl (Or.inl rfl)) pgs_nil)))
      (pss_one (ps_daug hu (pv 4) (pv 5) (pe_dget hu (pv 3) (pe_tup (pa_cons (pv 5) (pa_cons (pv 6) pa_nil))) (fun _ _ => rfl)) in_sub (fun _ _ _ => rfl)))))
    (pss_one (ps_ret (pe_tup (pa_cons (pv 3) (pa_cons (pv 4) pa_nil))))))))))), ?_⟩
  refine ⟨.ref a, rfl, .ref b, rfl, a, b, ns, t, ps, T', rfl, hpur, nok, hlot, lok, fun H1 p1 kind x1 k1 hk1 hk2 np1 hp1 => ?_⟩
  rcases hpp with hpl | hpo
  · have ek := hk1 hpl
    subst ek
    refine ⟨p1, _, 0, _, rfl, rfl, SqT.of hp1, rfl, rfl, false, bl_f (by decide), ?_⟩
    have hpur1 := PurAt.same k1 hpur
    have ⟨dx, d0, ha, hd0⟩ := hpur1
    refine ⟨.ref a, rfl, a, dx, _, rfl, ha, rfl, a, ns, t, rfl, hpur1, nok, fun H2 l2 ys k2 pm as nl2 he => ?_⟩
    obtain ⟨es, hl2, hes⟩ := he
    have ndy : ys.Nodup := asc_nodup as
    have hyl : ys.length ≤ 24 := by rw [pm.length_eq]; exact nok.len
    refine ⟨l2, es, mkT kS ys fun x => .int (t x), rfl, SqL.of hl2, ents_pairs hes, fun dt ndt => ?_⟩
    rw [merge_nil ndy]
    have k3 : Same H (upd H2 dt (dI ys t)) := Same.new (Same.tr k1 k2) ndt
    have hdt : upd H2 dt (dI ys t) dt = some (dI ys t) := upd_same
    have eT : (.dK (mkT kS ys fun x => V.int (t x)) : HO) = dI ys t := rfl
    rw [eT]
    generalize upd H2 dt (dI ys t) = H3 at k3 hdt
    refine ⟨.ref dt, rfl, .ref b, rfl, dt, b, ys, t, ps, T', rfl, hdt, LotAt.same k3 hlot, lok.perm pm, ndy, hyl, fun H4 p4 x4 k4 hsh _ => absurd (hsh.perm pm) (not_short hpl), fun H4 p4 dp qs g k4 hp4 hdp ndp P0 hsp => ?_⟩
    have k34 := Same.tr k3 k4
    refine ⟨p4, _, 0, _, rfl, rfl, SqT.of hp4, rfl, ?_⟩
    refine ⟨.ref dt, rfl, dt, _, rfl, .inl (k4 _ _ hdt), fun dl ndl => ?_⟩
    have k5 : Same H (upd H4 dl (dI ys t)) := Same.new k34 ndl
    have hdl5 : upd H4 dl (dI ys t) dl = some (dI ys t) := upd_same
    have hdp5 : upd H4 dl (dI ys t) dp = some (dP qs g) := new_get ndl hdp
    have ndl0 : H dl = none := none_of k34 ndl
    have ndp0 : H dp = none := none_of k3 ndp
    have npl : dp ≠ dl := ne_of_none hdp ndl
    rw [eT]
    generalize upd H4 dl (dI ys t) = H5 at k5 hdl5 hdp5
    refine ⟨dp, _, hdp5, trivial, fun op => ⟨.ref dp, rfl, dp, op, rfl, .inr ⟨_, upd_same, ?_⟩⟩⟩
    refine for_it walk_keysT (fun i σ H' => (∃ x5 x6, σ = [some (.ref a), some (.ref b), some (.ref dt), some (.ref dp), some (.ref dl), x5, x6]) ∧ Same H H' ∧ H' dp = some (.frz op (dP qs g)) ∧ H' dl = some (dI ys fun x => t x - spentQ (qs.take i) g x)) ?_ ?_ ?_ ?_
    · refine ⟨⟨_, _, rfl⟩, Same.wrN k5 ndp0, upd_same, ?_⟩
      have e : (dI ys fun x => t x - spentQ (qs.take 0) g x) = dI ys t := dI_congr fun x _ => Int.sub_zero _
      rw [e, upd_ne (Ne.symm npl)]
      exact hdl5
    · rintro i σ H6 _ ⟨_, _, h, _⟩
      exact h
    · rintro i v σ H6 H7 hi ⟨⟨x5, x6, rfl⟩, k6, hz6, hd6⟩ ⟨rfl, key, v2, bb, hkv, rfl, hb⟩
      obtain ⟨⟨p1', p2'⟩, hpi, rfl, rfl⟩ := pr_at hkv
      have hmem := List.mem_of_getElem? hpi
      have hin : p1' ∈ ys := P0.m1 (lok.perm pm) hmem
      refine ⟨bb, [.str p1', .str p2'], rfl, SqT.of hb, rfl, _, _, rfl, _, _, rfl, rfl, ?_⟩
      refine ⟨.ref dl, rfl, .str p1', rfl, dl, _, rfl, dN_get hd6 hin, .ref dp, rfl, .str p1', rfl, .str p2', rfl, two_sz, fun u nu => ?_⟩
      have hz8 := new_get (u := .tup [.str p1', .str p2']) nu hz6
      have hd8 := new_get (u := .tup [.str p1', .str p2']) nu hd6
      have hput := dI_put (n := t p1' - spentQ (qs.take i) g p1' - g (p1', p2')) hd8 hin (lt_sz (by omega))
      rw [sub_up, ← spentQ_snoc (q := (p1', p2')), ← take_snoc hpi] at hput
      refine ⟨dp, _, rfl, dget_tupZ hz8 upd_same hmem, _, g (p1', p2'), rfl, rfl, _, hput, ⟨_, _, rfl⟩, Same.wrN (Same.new k6 nu) ndl0, ?_, upd_same⟩
      rw [upd_ne npl]; exact hz8
    · rintro σ H6 ⟨⟨x5, x6, rfl⟩, k6, hz6, hd6⟩
      rw [length_mkT, List.take_of_length_le (Nat.le_refl _)] at hd6
      refine ⟨hz6, .ref dp, rfl, .ref dl, rfl, two_sz, fun pp npp => ?_⟩
      have k7 : Same H (upd H6 dp (dP qs g)) := Same.wrN k6 ndp0
      refine qQ hpl _ pp dp dl qs g ys (Same.new k7 npp) upd_same (new_get npp upd_same) (new_get npp (by rw [upd_ne (Ne.symm npl)]; exact hd6)) ndp0 ndl0 npl P0 (fun x hx => hsp x (pm.mem_iff.mpr hx)) pm
  · have ek := hk2 hpo
    subst ek
    refine ⟨p1, _, 0, _, rfl, rfl, SqT.of hp1, rfl, rfl, true, bl_t (by decide), ?_⟩
    exact qE hpo _ k1
end
end Ep

set_option Elab.async false
set_option linter.all false
set_option maxRecDepth 100000
set_option maxHeartbeats 4000000
/-! ## settled -/
namespace Ep
open PySem PySem.Spec PyProof.Rows L2
section
variable {P : Program} {w : World} {K : PySem.W.Frag} {mg : Str → Option Value} {base : Heap} {f : Addr} {fd : FuncData}
def p_settled : Sp := fun vs H Q _ => ∃ dp D ns l0 ps T' qs g0, vs = [.ref dp, .ref D] ∧ H dp = some (dP qs g0) ∧ H D = some (dI ns l0) ∧ LotOk ns ps T' ∧ ns.Nodup ∧ ns.length ≤ 24 ∧ Paid ps T' qs g0 ∧ su ns l0 = 0 ∧
  (∀ H' g', Kp [dp, D] H H' → H' dp = some (dP qs g') → Paid ps T' qs g' → (∀ x ∈ ns, spentQ qs g' x = spentQ qs g0 x - l0 x) → Q .non H') ∧
  (∀ H' l, ∀ R : List Str, Kp [dp, D] H H' → H' l = some (.lst (R.map V.str)) → Asc R → R ≠ [] → (∀ x ∈ R, x ∈ ns) → su R (fun x => spentQ qs g0 x - l0 x) < eT ps T' (inR R) → Q (.ref l) H')
abbrev s_settled : Stmt := top 47
abbrev N_settled : List Str := ["paid", "gaps", "links", "player", "path", "reached", "step", "one"]
theorem sc_settled : FnScope N_settled ["paid", "gaps"] (defScope s_settled) := ⟨rfl, rfl, rfl, by decide +kernel, rfl, by decide +kernel, by decide +kernel⟩
theorem ok_settled (F : FnP K "settled" "settled" s_settled f fd) (T : Txt K mg) (d_partners : Df P w K mg base CX0 1 "partners" ["paid"] p_partners) (d_path_from : Df P w K mg base CX0 1 "path_from" ["paid", "links", "sources", "is_goal"] p_path_from)
    (d_least_on : Df P w K mg base CX0 1 "least_on" ["paid", "path"] p_least_on) (d_hand_over : Df P w K mg base CX0 1 "hand_over" ["paid", "path", "many"] p_hand_over) : FnOk P w K mg base CX0 2 f fd ["paid", "gaps"] p_settled := by
  refine ok0 F sc_settled (fun _ _ _ _ h => by obtain ⟨a, l, x, y, z, u, v, v2, rfl, _⟩ := h; rfl) fun cdv A outer s H vs Q E hr h => ?_
  obtain ⟨dp, D, ns, l0, ps, T', qs, g0, rfl, hdp, hD, lok, nd, hns, P0, hsum, q1, q2⟩ := h
  have hu := hu_of hr
  refine ⟨_, (pss_cons (ps_set (i := 2) sc_settled.nd rfl (Or.inl rfl) (pe_df d_partners hr (pa_cons (pv 0) pa_nil)))
    (pss_cons (ps_for PassesOwn.never rfl (pi_list (pe_callB (call_sortedD rfl) (by rfl) T.sorted bt_sorted (pa_cons (pv 1) pa_nil))) (pg_name (i := 3) sc_settled.nd rfl (Or.inl rfl))
      (pss_one (ps_while PassesOwn.never (pt_cmpR op_gt (pe_dget hu (pv 1) (pv 3) (fun _ _ => rfl)) pe_int (nomark _))
        (pss_cons (ps_asg (pe_df d_path_from hr (pa_cons (pv 0) (pa_cons (pv 2) (pa_cons (pe_lst (pa_cons (pv 3) pa_nil)) (pa_cons (pe_lock (pe_dc (own := [("one", 7)]) (g := gName 7) (tt := tYes) rfl sc_settled.nd (pi_keys (pv 1)) (blkOk_by (own := [("one", 7)]) (N := N_settled) (sc := defScope s_settled) (by decide +kernel)) (fun _ _ _ _ _ => (pg_name (i := 7) sc_settled.nd rfl (Or.inl rfl))) (fun _ _ _ _ _ => pts_nil) (fun _ _ _ _ _ => (pv 7)) (fun _ _ _ _ _ => (pe_cmpR op_lt (pe_dget hu (pv 1) (pv 7) (fun _ _ => rfl)) pe_int (nomark _))))) pa_nil))))) (pg_tup rfl (pgs_cons (pg_name (i := 4) sc_settled.nd rfl (Or.inl rfl)) (pgs_cons (pg_name (i := 5) sc_settled.nd rfl (Or.inl rfl)) pgs_nil))))
        (pss_cons (ps_if (pt_cmpR op_isN (pv 4) pe_non (nomark _))
          (pss_one (ps_ret (pe_callB cr_sortedS (by rfl) T.sorted bt_sorted (pa_cons (pv 5) pa_nil))))
          pss_nil)
        (pss_cons (ps_set (i := 6) sc_settled.nd rfl (Or.inl rfl) (pe_callB (call_min3Nu rfl) (by rfl) T.min bt_min (pa_cons (pe_df d_least_on hr (pa_cons (pv 0) (pa_cons (pv 4) pa_nil))) (pa_cons (pe_dget hu (pv 1) (pv 3) (fun _ _ => rfl)) (pa_cons (pe_un un_neg (pe_dget hu (pv 1) (pe_ix ix_list (pv 4) (pe_un un_neg pe_int) (fun _ _ => rfl)) (fun _ _ => rfl))) pa_nil)))))
        (pss_cons (ps_expr (pe_df d_hand_over hr (pa_cons (pv 0) (pa_cons (pv 4) (pa_cons (pv 6) pa_nil)))))
        (pss_cons (ps_daug hu (pv 1) (pv 3) (pv 6) in_sub (fun _ _ _ => rfl))
        (pss_one (ps_daug hu (pv 1) (pe_ix ix_list (pv 4) (pe_un un_neg pe_int) (fun _ _ => rfl)) (pv 6) in_add (fun _ _ _ => rfl)))))))))))
    (pss_one (ps_ret pe_non)))), ?_⟩
  have hql : qs.length ≤ 1000 := P0.len lok
  refine ⟨.ref dp, rfl, dp, qs, g0, rfl, hdp, hql, fun H5 lk k5 nlk hlk => ?_⟩
  have hD5 := k5 _ _ hD
  have hdp5 := k5 _ _ hdp
  refine ⟨.ref D, rfl, D, _, ns, rfl, .inl hD5, keys_mk, mkT_nd hns, fun ys p pm so np => ?_⟩
  have ndy : ys.Nodup := pm.nodup_iff.mpr nd
  have nDdp : D ≠ dp := fun e => by rw [e, hdp] at hD; cases hD
  have nlkD : lk ≠ D := fun e => by rw [e, hD] at nlk; cases nlk
  have nlkp : lk ≠ dp := fun e => by rw [e, hdp] at nlk; cases nlk
  have npD : p ≠ D := fun e => by rw [e, hD5] at np; cases np
  have npdp : p ≠ dp := fun e => by rw [e, hdp5] at np; cases np
  have noL : ∀ b ∈ [dp, D], ∀ xs, H5 b ≠ some (.lst xs) := fun b hb xs e => by
    rcases List.mem_cons.mp hb with h | h
    · rw [h, hdp5] at e; cases e
    · rw [List.mem_singleton.mp h, hD5] at e; cases e
  have nS : lk ∉ [dp, D] := fun h => by
    rcases List.mem_cons.mp h with h | h
    · exact nlkp h
    · exact nlkD (List.mem_singleton.mp h)
  have sameOf : ∀ {H'}, Kp [dp, D] H5 H' → Kp [dp, D] H H' := fun k => Kp.trans (Same.kp k5) k
  refine ⟨p, rfl, ⟨_, SqL.of upd_same⟩, ?_⟩
  refine for_it (walk_list (xs := ys.map V.str)) (fun i σ H' => (∃ x3 x4 x5 x6 x7, σ = [some (.ref dp), some (.ref D), some (.ref lk), x3, x4, x5, x6, x7]) ∧ Kp [dp, D] H5 H' ∧ H' p = some (.lst (ys.map V.str)) ∧
    ∃ g l, H' dp = some (dP qs g) ∧ H' D = some (dI ns l) ∧ Paid ps T' qs g ∧ (∀ x ∈ ns, spentQ qs g x - l x = spentQ qs g0 x - l0 x) ∧ su ns l = 0 ∧ ∀ x ∈ ys.take i, l x ≤ 0) ?_ ?_ ?_ ?_
  · exact ⟨⟨_, _, _, _, _, rfl⟩, Kp.new Kp.refl np, upd_same, g0, l0, new_get np hdp5, new_get np hD5, P0, fun x _ => rfl, hsum, fun x h => absurd h List.not_mem_nil⟩
  · rintro i σ H6 _ ⟨_, _, h, _⟩
    exact SqL.of h
  · rintro i v σ H6 H7 hi ⟨⟨x3, x4, x5, x6, x7, rfl⟩, k6, hp6, g, l, hdp6, hD6, P6, hl6, hs6, hle6⟩ ⟨rfl, hv⟩
    obtain ⟨src, hsrc, rfl⟩ := map_str_get hv
    have hsn : src ∈ ns := pm.mem_iff.mp (List.mem_of_getElem? hsrc)
    have hnt := nd_take ndy hsrc
    refine ⟨fun m σ H' => (∃ x4 x5 x6 x7, σ = [some (.ref dp), some (.ref D), some (.ref lk), some (.str src), x4, x5, x6, x7]) ∧ Kp [dp, D] H5 H' ∧ H' p = some (.lst (ys.map V.str)) ∧
      ∃ g l, m = (l src).toNat ∧ H' dp = some (dP qs g) ∧ H' D = some (dI ns l) ∧ Paid ps T' qs g ∧ (∀ x ∈ ns, spentQ qs g x - l x = spentQ qs g0 x - l0 x) ∧ su ns l = 0 ∧ ∀ x ∈ ys.take i, l x ≤ 0, ⟨(l src).toNat, ?_⟩, ?_⟩
    · exact ⟨⟨_, _, _, _, rfl⟩, k6, hp6, g, l, rfl, hdp6, hD6, P6, hl6, hs6, hle6⟩
    clear hle6 hs6 hl6 P6 hD6 hdp6 hp6 k6
    rintro m σ H8 ⟨⟨x4', x5', x6', x7', rfl⟩, k8, hp8, g, l, rfl, hdp8, hD8, P8, hl8, hs8, hle8⟩
    by_cases hneg : 0 < l src
    · refine ⟨.ref D, rfl, .str src, rfl, D, _, rfl, dN_get hD8 hsn, l src, 0, rfl, rfl, true, bl_t hneg, ?_⟩
      refine ⟨fun σ H' => ∃ m', m' < (l src).toNat ∧ (∃ x4 x5 x6 x7, σ = [some (.ref dp), some (.ref D), some (.ref lk), some (.str src), x4, x5, x6, x7]) ∧ Kp [dp, D] H5 H' ∧ H' p = some (.lst (ys.map V.str)) ∧
        ∃ g l, m' = (l src).toNat ∧ H' dp = some (dP qs g) ∧ H' D = some (dI ns l) ∧ Paid ps T' qs g ∧ (∀ x ∈ ns, spentQ qs g x - l x = spentQ qs g0 x - l0 x) ∧ su ns l = 0 ∧ ∀ x ∈ ys.take i, l x ≤ 0, fun _ _ h => h, ?_⟩
      refine ⟨.ref dp, rfl, .ref lk, rfl, .str src, rfl, (show 1 ≤ sizeLine by decide), fun ds nds => ?_⟩
      have hD9 := new_get (u := .lst [.str src]) nds hD8
      have hdp9 := new_get (u := .lst [.str src]) nds hdp8
      have hp9 := new_get (u := .lst [.str src]) nds hp8
      have hds9 : upd H8 ds (.lst [.str src]) ds = some (.lst [.str src]) := upd_same
      have k9 : Kp [dp, D] H5 (upd H8 ds (.lst [.str src])) := Kp.new k8 nds
      generalize upd H8 ds (.lst [.str src]) = H9 at hD9 hdp9 hp9 hds9 k9
      refine ⟨D, _, hD9, trivial, fun oD => ⟨.ref D, rfl, D, oD, rfl, .inl ⟨_, upd_same, fun dg ndg => ?_⟩⟩⟩
      have hDz : upd H9 D (.frz oD (dI ns l)) D = some (.frz oD (dI ns l)) := upd_same
      have ndg9 : H9 dg = none := by rw [upd_ne (fun z => by rw [z, upd_same] at ndg; cases ndg)] at ndg; exact ndg
      refine dc_it walk_keys (fun i H' => Same (upd H9 D (.frz oD (dI ns l))) H' ∧ H' dg = some (dN (ns.take i) fun x => .bl (decide (l x < 0)))) ?_ ?_ ?_ ?_
      · exact ⟨Same.new Same.rfl ndg, upd_same⟩
      · rintro i HA _ ⟨k, _⟩
        exact k _ _ hDz
      · rintro j v HA HB hj ⟨k, hg⟩ ⟨rfl, key, v2, hkv, rfl⟩
        obtain ⟨x, hx, rfl, rfl⟩ := nm_at hkv
        have hmem := List.mem_of_getElem? hx
        refine ⟨rfl, .str x, rfl, .ref D, rfl, .str x, rfl, D, _, rfl, dN_getZ (k _ _ hDz) hmem, l x, 0, rfl, rfl, _, kS x, rfl, hg, ?_, Same.wrN k ndg, ?_⟩
        · rw [length_mkT, List.length_take]
          exact lt_sz (by omega)
        · rw [upd_same]
          exact congrArg some (dN_snoc (f := fun x => .bl (decide (l x < 0))) nd hx)
      rintro HA ⟨kA, hgA⟩
      rw [length_mkT, List.take_of_length_le (Nat.le_refl _)] at hgA
      refine ⟨kA _ _ hDz, ?_⟩
      have kB := lock_same hD9 kA
      have ngD : dg ≠ D := fun e => by rw [e, hD9] at ndg9; cases ndg9
      have hgB : upd HA D (dI ns l) dg = some (dN ns fun x => .bl (decide (l x < 0))) := by rw [upd_ne ngD]; exact hgA
      generalize upd HA D (dI ns l) = HB at kB hgB
      have kB5 : Kp [dp, D] H5 HB := Kp.trans k9 (Same.kp kB)
      have hlkB : LinksAt HB lk qs := LinksAt.kp kB5 nS noL hlk
      refine ⟨dp, lk, ds, dg, qs, g, src, ns, fun x => decide (l x < 0), rfl, kB _ _ hdp9, hql, fun q hq => ⟨P8.m2 lok hq, P8.sw hq⟩, hlkB, kB _ _ hds9, hsn, hgB, hns, ?_, ?_⟩
      · intro HC pt lp lr r row kC nr hrn hway hgoal hpt hlp hlr nlp
        have hz : l ((src :: r).getLast (List.cons_ne_nil _ _)) < 0 := of_decide_eq_true hgoal
        have hlen : (src :: r).length ≤ 24 := Nat.le_trans (List.Nodup.length_le_of_subset nr fun z hz => hrn z hz) hns
        generalize hzz : (src :: r).getLast (List.cons_ne_nil _ _) = z at hz
        have nzs : z ≠ src := fun e => by rw [e] at hz; omega
        have hzm : z ∈ src :: r := by rw [← hzz]; exact List.getLast_mem _
        have hzn := hrn z hzm
        have hr2 : 2 ≤ (src :: r).length := by
          cases r with
          | nil => exact absurd (show src = z from hzz) (Ne.symm nzs)
          | cons b r => simp
        have hlast : atI ((src :: r).map V.str) (-1) = some (.str z) := by
          have e : src :: r = (src :: r).dropLast ++ [z] := by rw [← hzz, List.dropLast_concat_getLast]
          rw [e, List.map_append]
          exact atI_last _ _
        have hdpC := kC _ _ (kB _ _ hdp9)
        have hDC := kC _ _ (kB _ _ hD9)
        have hpC := kC _ _ (kB _ _ hp9)
        have kC5 : Kp [dp, D] H5 HC := Kp.trans kB5 (Same.kp kC)
        refine ⟨pt, _, rfl, SqT.of hpt, rfl, _, _, rfl, _, _, rfl, rfl, ?_⟩
        refine ⟨.ref lp, rfl, rfl, false, rfl, ?_⟩
        refine ⟨.ref dp, rfl, .ref lp, rfl, dp, lp, qs, g, src :: r, rfl, hdpC, hlp, hr2, hlen, hway, fun HE m0 kE hm0 hway2 => ?_⟩
        have hDE := kE _ _ hDC
        have hlpE := kE _ _ hlp
        refine ⟨.ref D, rfl, .str src, rfl, D, _, rfl, dN_get hDE hsn, .ref D, rfl, .ref lp, rfl, 1, rfl, lp, _, _, .str z, rfl, rfl, SqL.of hlpE, hlast, D, _, rfl, dN_get hDE hzn, l z, rfl, _, _, _, _, rfl, min3_eq m0 (l src) (-l z), ?_⟩
        have hst1 : 1 ≤ min3 m0 (l src) (-l z) := min3_pos hm0 (by omega) (by omega)
        obtain ⟨hst2, hst3, hst4⟩ := min3_le m0 (l src) (-l z)
        generalize min3 m0 (l src) (-l z) = st at hst1 hst2 hst3 hst4
        refine ⟨.ref dp, rfl, .ref lp, rfl, .int st, rfl, dp, lp, st, qs, g, src :: r, rfl, kE _ _ hdpC, hql, hlpE, hlen, List.cons_ne_nil _ _, nr, Way.mono hst2 hway2, fun HF kF hdpF => ?_⟩
        have nDdp' : D ∉ [dp] := fun h => nDdp (List.mem_singleton.mp h)
        have nlpdp : lp ∉ [dp] := fun h => by rw [List.mem_singleton.mp h, hdpC] at hlp; cases hlp
        have hDF := kF _ _ hDE nDdp'
        have hlpF := kF _ _ hlpE nlpdp
        have hpF := kF _ _ (kE _ _ hpC) fun h => npdp (List.mem_singleton.mp h)
        have kF5 : Kp [dp, D] H5 HF := Kp.trans (Kp.trans kC5 (Same.kp kE)) (Kp.mono kF fun b hb => by rw [List.mem_singleton.mp hb]; exact List.mem_cons_self)
        refine ⟨.ref D, rfl, .str src, rfl, D, _, rfl, dN_get hDF hsn, .int st, rfl, l src, st, rfl, rfl, _, dI_put hDF hsn (lt_sz (by omega)), ?_⟩
        have nlpD : lp ≠ D := fun e => by rw [e, hDC] at hlp; cases hlp
        have hlpG : upd HF D (dI ns (up l src (l src - st))) lp = some (.lst ((src :: r).map V.str)) := by rw [upd_ne nlpD]; exact hlpF
        have hDG : upd HF D (dI ns (up l src (l src - st))) D = some (dI ns (up l src (l src - st))) := upd_same
        have ez : up l src (l src - st) z = l z := up_ne nzs
        refine ⟨.ref D, rfl, .ref lp, rfl, 1, rfl, lp, _, _, .str z, rfl, rfl, SqL.of hlpG, hlast, D, _, rfl, dN_get hDG hzn, .int st, rfl, up l src (l src - st) z, st, rfl, rfl, _, dI_put hDG hzn (lt_sz (by omega)), ?_⟩
        obtain ⟨w1, w2, w3⟩ := shP_way (m := st) (by omega) (P8.nd lok) nr (Way.mono hst2 hway2) P8.nn
        refine ⟨((up (up l src (l src - st)) z (up l src (l src - st) z + st)) src).toNat, ?_, ⟨_, _, _, _, rfl⟩, ?_, ?_, shP st g (src :: r), _, rfl, ?_, upd_same, P8.shP lok (by omega) nr (Way.mono hst2 hway2), fun x hx => ?_, ?_, fun x hx => ?_⟩
        · rw [up_ne (Ne.symm nzs), up_self]; omega
        · exact Kp.wr (Kp.wr kF5 (List.mem_cons_of_mem _ (List.mem_singleton.mpr rfl))) (List.mem_cons_of_mem _ (List.mem_singleton.mpr rfl))
        · rw [upd_ne npD, upd_ne npD]; exact hpF
        · rw [upd_ne (Ne.symm nDdp), upd_ne (Ne.symm nDdp)]; exact hdpF
        · rw [w3 x, hzz]
          have e := hl8 x hx
          by_cases a1 : x = z
          · rw [a1, up_self, ez, if_pos rfl, if_neg (Ne.symm nzs)]; rw [a1] at e; omega
          · rw [up_ne a1, if_neg (Ne.symm a1)]
            by_cases a2 : x = src
            · rw [a2, up_self, if_pos rfl]; rw [a2] at e; omega
            · rw [up_ne a2, if_neg (Ne.symm a2)]; omega
        · rw [su_up _ _ nd hzn, su_up _ _ nd hsn, hs8]; omega
        · have e := hle8 x hx
          have a2 : x ≠ src := fun h => hnt (h ▸ hx)
          by_cases a1 : x = z
          · rw [a1, up_self, ez]; omega
          · rw [up_ne a1, up_ne a2]; exact e
      · intro HC pt lr row kC nrow hsr hrow hcl hpt hlr nlr
        refine ⟨pt, _, rfl, SqT.of hpt, rfl, _, _, rfl, _, _, rfl, rfl, ?_⟩
        refine ⟨.non, rfl, rfl, true, rfl, ?_⟩
        have hrl : row.length ≤ 24 := Nat.le_trans (List.Nodup.length_le_of_subset nrow fun z hz => (hrow z hz).1) hns
        refine ⟨.ref lr, rfl, lr, row, rfl, SqL.of hlr, mkT_nd hrl, fun zs pz pmz soz npz => ?_⟩
        have asz := asc_of soz (pmz.nodup_iff.mpr nrow)
        have ezR : inR zs = inR row := funext fun x => decide_eq_decide.mpr pmz.mem_iff
        refine q2 _ pz zs (Kp.new (Kp.trans (sameOf kB5) (Same.kp kC)) npz) upd_same asz (fun e => ?_) (fun x hx => (hrow x (pmz.mem_iff.mp hx)).1) ?_
        · have := pmz.mem_iff.mpr hsr
          rw [e] at this
          exact absurd this List.not_mem_nil
        rw [ezR, su_perm _ pmz]
        have e1 := spent_R P8 nrow hcl
        have e2 : su row (fun x => spentQ qs g0 x - l0 x) = su row (spentQ qs g) - su row l := by
          rw [← su_sub]
          exact su_congr fun x hx => (hl8 x (hrow x hx).1).symm
        have e3 := su_mem_le (l := row) (g := l) (fun x hx => by
          have := of_decide_eq_false (hrow x hx).2
          omega) hsr
        omega
    · refine ⟨.ref D, rfl, .str src, rfl, D, _, rfl, dN_get hD8 hsn, l src, 0, rfl, rfl, false, bl_f hneg, ?_⟩
      refine ⟨⟨_, _, _, _, _, rfl⟩, k8, hp8, g, l, hdp8, hD8, P8, hl8, hs8, fun x hx => ?_⟩
      rw [take_snoc hsrc] at hx
      rcases List.mem_append.mp hx with hx | hx
      · exact hle8 x hx
      · rw [List.mem_singleton.mp hx]; omega
  · rintro σ H6 ⟨⟨x3, x4, x5, x6, x7, rfl⟩, k6, hp6, g, l, hdp6, hD6, P6, hl6, hs6, hle6⟩
    rw [List.take_of_length_le (by rw [List.length_map]; exact Nat.le_refl _)] at hle6
    refine q1 _ g (sameOf k6) hdp6 P6 fun x hx => ?_
    have e1 := hl6 x hx
    have e2 := hle6 x (pm.mem_iff.mpr hx)
    have e3 := su_mem_le (l := ns) (g := fun x => 0 - l x) (fun x hx => by
      have := hle6 x (pm.mem_iff.mpr hx)
      omega) hx
    have e4 : su ns (fun x => 0 - l x) = su ns (fun _ => 0) - su ns l := su_sub ns _ _
    have e5 : su ns (fun _ => 0) = 0 := su_zero fun _ _ => rfl
    have e6 : (fun x => 0 - l x) x = 0 - l x := rfl
    omega
end
end Ep

set_option Elab.async false
set_option linter.all false
set_option maxRecDepth 100000
set_option maxHeartbeats 4000000
/-! ## leave -/
namespace Ep
open PySem PySem.Spec PyProof.Rows L2
theorem paid_total {ns : List Str} {ps qs : List (Str × Str)} {T g : Str × Str → Int} (L : LotOk ns ps T) (P : Paid ps T qs g) (nd : ns.Nodup) : su ns (spentQ qs g) = su ps T := by
  rw [spent_list nd]
  have e : su qs (fun q => if decide (q.1 ∈ ns) = true then g q else 0) = su qs g := su_congr fun q hq => if_pos (decide_eq_true (P.m1 L hq))
  rw [e, su_perm _ P.perm, su_both]
  exact su_congr fun p hp => P.sum p hp
theorem strs_dat {K : PySem.W.Frag} {H : Hp} {l : Addr} {ys : List Str} (h : H l = some (.lst (ys.map V.str))) : Dat K H (.ref l) (.list (ys.map PyData.str)) := by
  refine list_dat (SqL.of h) ?_ (fun d hd => ?_) fun d hd => ?_
  · have all : ∀ zs : List Str, DpAll K H (zs.map V.str) (zs.map PyData.str) := fun zs => by
      induction zs with
      | nil => exact .nil
      | cons z zs ih => exact .cons (.str z) ih
    exact all _
  · obtain ⟨x, _, rfl⟩ := List.mem_map.mp hd; rfl
  · obtain ⟨x, _, rfl⟩ := List.mem_map.mp hd; exact Nat.zero_le _
section
variable {P : Program} {w : World} {K : PySem.W.Frag} {mg : Str → Option Value} {base : Heap} {f : Addr} {fd : FuncData}
def p_leave (K : PySem.W.Frag) : Sp := fun vs H Q E => ∃ a b c ns t ps T' ns2 h, vs = [.ref a, .ref b, .ref c] ∧ PurAt K H a ns t ∧ NamesOk ns ∧ LotAt K H b ps T' ∧ LotOk ns ps T' ∧ PurAt K H c ns2 h ∧ ns2.Perm ns ∧ (Playable ns t ps T' ∨ Poor t ps) ∧
  (Poor t ps → ∀ H', Same H H' → E (.ref (cU K)) none H') ∧
  (Playable ns t ps T' → su ns h ≠ su ns t - su ps T' → ∀ H' p, Same H H' → H' p = some (.tup [.str "total", .int (su ns t - su ps T')]) → Q (.ref p) H') ∧
  (Playable ns t ps T' → su ns h = su ns t - su ps T' → ∀ H' p l qs g, Same H H' → H' p = some (.tup [.str "payments", .ref l]) → RunsAt H' l (runsL qs g) → qs.Pairwise LtP → Paid ps T' qs g → (∀ x ∈ ns, spentQ qs g x = t x - h x) → Q (.ref p) H') ∧
  (Playable ns t ps T' → su ns h = su ns t - su ps T' → ∀ H' p l, ∀ R : List Str, Same H H' → H' p = some (.tup [.str "set", .ref l]) → H' l = some (.lst (R.map V.str)) → Asc R → R ≠ [] → (∀ x ∈ R, x ∈ ns) → su R t - su R h < eT ps T' (inR R) → Q (.ref p) H')
abbrev s_leave : Stmt := top 48
abbrev N_leave : List Str := ["purses", "lot", "left", "paid", "found", "number", "players", "player"]
theorem sc_leave : FnScope N_leave ["purses", "lot", "left"] (defScope s_leave) := ⟨rfl, rfl, rfl, by decide +kernel, rfl, by decide +kernel, by decide +kernel⟩
theorem ok_leave (F : FnP K "leave" "leave" s_leave f fd) (T : Txt K mg) (d_payments_of : Df P w K mg base (L2.CX P w) 10 "payments_of" ["purses", "lot"] (p_pay K)) (d_settled : Df P w K mg base CX0 2 "settled" ["paid", "gaps"] p_settled)
    (d_runs_of : Df P w K mg base CX0 1 "runs_of" ["paid"] p_runs_of) (d_Purses_players : Dm P w K mg base 1 (cP K) "players" ["self"] (p_players K)) (d_Purses_total : Dm P w K mg base 1 (cP K) "total" ["self", "players"] (p_total K))
    (d_Purses_tickets : Dm P w K mg base 1 (cP K) "tickets" ["self", "player"] (p_tickets K)) : FnOk P w K mg base (L2.CX P w) 11 f fd ["purses", "lot", "left"] (p_leave K) := by
  refine FunD.ok F sc_leave (fun _ _ _ _ h => by obtain ⟨a, l, x, y, z, u, v, v2, v3, rfl, _⟩ := h; rfl) fun cdv A outer s H vs Q E hr h => ?_
  obtain ⟨a, b, c, ns, t, ps, T', ns2, h, rfl, hpur, nok, hlot, lok, hpc, pm2, hpp, qE, qT, qP, qS⟩ := h
  have hu := hu_of hr
  refine ⟨_, (pss_cons (ps_if (pt_cmpR (op_neP hr.units) (pe_dm0 d_Purses_players hr (pv 2)) (pe_dm0 d_Purses_players hr (pv 0)) (nomark _))
      (pss_one ps_never)
      pss_nil)
    (pss_cons (ps_asg (pe_dfX d_payments_of hr (passes_call (takes_of rfl rfl rfl rfl) (fun _ _ _ _ h => h)) (pa_cons (pv 0) (pa_cons (pv 1) pa_nil))) (pg_tup rfl (pgs_cons (pg_name (i := 3) sc_leave.nd rfl (Or.inl rfl)) (pgs_cons (pg_name (i := 4) sc_leave.nd rfl (Or.inr rfl)) pgs_nil))))
    (PSs.nox (pss_cons (ps_set (i := 5) sc_leave.nd rfl (Or.inl rfl) (pe_callB (cr_sum rfl) (by rfl) T.sum bt_sum (pa_cons (pe_lock (pe_lc (own := [("player", 7)]) (g := gName 7) (tt := tYes) rfl sc_leave.nd (pi_keys (pv 4)) (blkOk_by (own := [("player", 7)]) (N := N_leave) (sc := defScope s_leave) (by decide +kernel)) (fun _ _ _ _ _ => (pg_name (i := 7) sc_leave.nd rfl (Or.inl rfl))) (fun _ _ _ _ _ => pts_nil) (fun _ _ _ _ _ => (pe_dget hu (pv 4) (pv 7) (fun _ _ => rfl))))) pa_nil)))
    (pss_cons (ps_if (pt_cmpR op_ne (pe_dm d_Purses_total hr (pv 2) (pa_cons (pe_dm0 d_Purses_players hr (pv 2)) pa_nil)) (pv 5) (nomark _))
      (pss_one (ps_ret (pe_tup (pa_cons pe_str (pa_cons (pv 5) pa_nil)))))
      pss_nil)
    (pss_cons (ps_set (i := 6) sc_leave.nd rfl (Or.inl rfl) (pe_df d_settled hr (pa_cons (pv 3) (pa_cons (pe_lock (pe_dc (own := [("player", 7)]) (g := gName 7) (tt := tYes) rfl sc_leave.nd (pi_keys (pv 4)) (blkOk_by (own := [("player", 7)]) (N := N_leave) (sc := defScope s_leave) (by decide +kernel)) (fun _ _ _ _ _ => (pg_name (i := 7) sc_leave.nd rfl (Or.inl rfl))) (fun _ _ _ _ _ => pts_nil) (fun _ _ _ _ _ => (pv 7)) (fun _ _ _ _ _ => (pe_op op_sub (pe_dm d_Purses_tickets hr (pv 2) (pa_cons (pv 7) pa_nil)) (pe_dget hu (pv 4) (pv 7) (fun _ _ => rfl)))))) pa_nil))))
    (pss_one (ps_ret (pe_ifExp (pt_cmpR op_isN (pv 6) pe_non (nomark _)) (pe_tup (pa_cons pe_str (pa_cons (pe_df d_runs_of hr (pa_cons (pv 3) pa_nil)) pa_nil))) (pe_tup (pa_cons pe_str (pa_cons (pv 6) pa_nil)))))))))))), ?_⟩
  have nok2 : NamesOk ns2 := nok.perm pm2
  have ⟨dx, d0, ha, hd0⟩ := hpur
  have ⟨dy, e0, hc, he0⟩ := hpc
  refine ⟨.ref c, rfl, c, dy, _, rfl, hc, rfl, c, ns2, h, rfl, hpc, nok2, fun H1 l1 ys1 k1 pm1 as1 nl1 hl1 => ?_⟩
  refine ⟨.ref a, rfl, a, dx, _, rfl, k1 _ _ ha, rfl, a, ns, t, rfl, PurAt.same k1 hpur, nok, fun H2 l2 ys2 k2 pm3 as2 nl2 hl2 => ?_⟩
  have ey : ys1 = ys2 := asc_perm as1 as2 (pm1.trans (pm2.trans pm3.symm))
  have hl1' := k2 _ _ hl1
  subst ey
  refine ⟨_, _, strs_dat hl1', strs_dat hl2, false, ?_, ?_⟩
  · rw [PySem.SeqAt.eqv_refl_plain _ (strs_dat (K := K) hl2).2.1]; rfl
  have k12 := Same.tr k1 k2
  have hpur2 := PurAt.same k12 hpur
  have hlot2 := LotAt.same k12 hlot
  refine ⟨.ref a, rfl, .ref b, rfl, a, b, ns, t, ps, T', rfl, hpur2, nok, hlot2, lok, hpp, fun po H' k => qE po _ (Same.tr k12 k), fun pl H3 p dp dl qs g ys k3 hp hdp hdl ndp ndl npl P0 hsp pm => ?_⟩
  have k13 := Same.tr k12 k3
  have ndp0 : H dp = none := none_of k12 ndp
  have ndl0 : H dl = none := none_of k12 ndl
  have ndy : ys.Nodup := pm.nodup_iff.mpr nok.nd
  have hyl : ys.length ≤ 24 := by rw [pm.length_eq]; exact nok.len
  refine ⟨p, _, rfl, SqT.of hp, rfl, _, _, rfl, _, _, rfl, rfl, ?_⟩
  -- the number
  refine ⟨dl, _, hdl, trivial, fun ol => ⟨.ref dl, rfl, dl, ol, rfl, .inl ⟨_, upd_same, fun D nD => ?_⟩⟩⟩
  have hdz : upd H3 dl (.frz ol (dI ys fun x => t x - spentQ qs g x)) dl = some (.frz ol (dI ys fun x => t x - spentQ qs g x)) := upd_same
  have nD3 : H3 D = none := by rw [upd_ne (fun z => by rw [z, upd_same] at nD; cases nD)] at nD; exact nD
  have ndlD : dl ≠ D := ne_of_none hdl nD3
  refine lc_it walk_keys (fun i H' => Same (upd H3 dl (.frz ol (dI ys fun x => t x - spentQ qs g x))) H' ∧ H' D = some (.lst (((ys.take i).map fun x => t x - spentQ qs g x).map V.int))) ?_ ?_ ?_ ?_
  · exact ⟨Same.new Same.rfl nD, upd_same⟩
  · rintro i H4 _ ⟨k, _⟩
    exact k _ _ hdz
  · rintro i v H4 H5 hi ⟨k, hD⟩ ⟨rfl, key, v2, hkv, rfl⟩
    obtain ⟨x, hx, rfl, rfl⟩ := nm_at hkv
    refine ⟨rfl, .ref dl, rfl, .str x, rfl, dl, _, rfl, dN_getZ (k _ _ hdz) (List.mem_of_getElem? hx), _, hD, ?_, Same.wrN k nD, ?_⟩
    · rw [List.length_map, List.length_map, List.length_take]
      exact lt_sz (by omega)
    · rw [upd_same, take_snoc hx, List.map_append, List.map_append]; rfl
  rintro H4 ⟨k4, hD4⟩
  rw [length_mkT, List.take_of_length_le (Nat.le_refl _)] at hD4
  refine ⟨k4 _ _ hdz, ?_⟩
  have k5 := lock_same hdl k4
  have hD5 : upd H4 dl (dI ys fun x => t x - spentQ qs g x) D = some (.lst ((ys.map fun x => t x - spentQ qs g x).map V.int)) := by rw [upd_ne (Ne.symm ndlD)]; exact hD4
  have eN : su ys (fun x => t x - spentQ qs g x) = su ns t - su ps T' := by
    rw [su_sub, su_perm t pm, su_perm _ pm, paid_total lok P0 nok.nd]
  refine ⟨D, ys.map fun x => t x - spentQ qs g x, rfl, SqL.of hD5, ?_⟩
  have eN2 : (ys.map fun x => t x - spentQ qs g x).sum = su ns t - su ps T' := eN
  rw [eN2]
  have eTd : (.dK (mkT kS ys fun x => V.int (t x - spentQ qs g x)) : HO) = dI ys fun x => t x - spentQ qs g x := rfl
  first | rw [eTd] | skip
  have k35 := Same.tr k13 k5
  have hdl5 : upd H4 dl (dI ys fun x => t x - spentQ qs g x) dl = some (dI ys fun x => t x - spentQ qs g x) := upd_same
  generalize upd H4 dl (dI ys fun x => t x - spentQ qs g x) = H5 at k5 k35 hdl5
  have hpc5 := PurAt.same k35 hpc
  refine ⟨.ref c, rfl, c, dy, _, rfl, k35 _ _ hc, rfl, .ref c, rfl, c, dy, _, rfl, k35 _ _ hc, rfl, c, ns2, h, rfl, hpc5, nok2, fun H6 l6 ys6 k6 pm6 as6 nl6 hl6 => ?_⟩
  have k36 := Same.tr k35 k6
  refine ⟨c, ns2, h, l6, ys6, rfl, PurAt.same k36 hpc, hl6, fun x hx => pm6.mem_iff.mp hx, by rw [pm6.length_eq]; exact nok2.len, fun H7 k7 => ?_⟩
  have k37 := Same.tr k36 k7
  have eh : su ys6 h = su ns h := su_perm h (pm6.trans pm2)
  rw [eh]
  have qT := qT pl
  by_cases hne : su ns h = su ns t - su ps T'
  · have qP := qP pl hne
    have qS := qS pl hne
    refine ⟨.int (su ns t - su ps T'), rfl, rfl, false, ?_, ?_⟩
    · rw [hne]
      exact congrArg V.bl (by rw [decide_eq_true rfl]; rfl)
    have hdl7 := k7 _ _ (k6 _ _ hdl5)
    have hdp7 := k7 _ _ (k6 _ _ (k5 _ _ hdp))
    refine ⟨.ref dp, rfl, dl, _, hdl7, trivial, fun ol2 => ⟨.ref dl, rfl, dl, ol2, rfl, .inl ⟨_, upd_same, fun G nG => ?_⟩⟩⟩
    have hdz7 : upd H7 dl (.frz ol2 (dI ys fun x => t x - spentQ qs g x)) dl = some (.frz ol2 (dI ys fun x => t x - spentQ qs g x)) := upd_same
    have nG7 : H7 G = none := by rw [upd_ne (fun z => by rw [z, upd_same] at nG; cases nG)] at nG; exact nG
    have ndlG : dl ≠ G := ne_of_none hdl7 nG7
    have kz : ∀ {o}, Same H (upd H7 dl o) := fun {o} => Same.wrN k37 ndl0
    refine dc_it walk_keys (fun i H' => Same (upd H7 dl (.frz ol2 (dI ys fun x => t x - spentQ qs g x))) H' ∧ H' G = some (dI (ys.take i) fun x => h x - (t x - spentQ qs g x))) ?_ ?_ ?_ ?_
    · exact ⟨Same.new Same.rfl nG, upd_same⟩
    · rintro i H8 _ ⟨k, _⟩
      exact k _ _ hdz7
    · rintro i v H8 H9 hi ⟨k, hG⟩ ⟨rfl, key, v2, hkv, rfl⟩
      obtain ⟨x, hx, rfl, rfl⟩ := nm_at hkv
      have hmem := List.mem_of_getElem? hx
      have kH : Same H H9 := Same.tr kz k
      refine ⟨rfl, .str x, rfl, .ref c, rfl, c, dy, _, rfl, kH _ _ hc, rfl, .str x, rfl, c, ns2, h, x, rfl, PurAt.same kH hpc, pm2.mem_iff.mpr (pm.mem_iff.mp hmem), ?_⟩
      refine ⟨.ref dl, rfl, .str x, rfl, dl, _, rfl, dN_getZ (k _ _ hdz7) hmem, h x, t x - spentQ qs g x, rfl, rfl, _, kS x, rfl, hG, ?_, Same.wrN k nG, ?_⟩
      · rw [length_mkT, List.length_take]
        exact lt_sz (by omega)
      · rw [upd_same]
        exact congrArg some (dN_snoc (f := fun x => .int (h x - (t x - spentQ qs g x))) ndy hx)
    rintro H8 ⟨k8, hG8⟩
    rw [length_mkT, List.take_of_length_le (Nat.le_refl _)] at hG8
    refine ⟨k8 _ _ hdz7, ?_⟩
    have k9 := lock_same hdl7 k8
    have hG9 : upd H8 dl (dI ys fun x => t x - spentQ qs g x) G = some (dI ys fun x => h x - (t x - spentQ qs g x)) := by rw [upd_ne (Ne.symm ndlG)]; exact hG8
    first | rw [eTd] | skip
    have hdp9 := k9 _ _ hdp7
    have k39 := Same.tr k37 k9
    have nG0 : H G = none := none_of k37 nG7
    generalize upd H8 dl (dI ys fun x => t x - spentQ qs g x) = H9 at k9 hG9 hdp9 k39
    have toS : ∀ {H'}, Kp [dp, G] H9 H' → Same H H' := fun k b o e => k b o (k39 _ _ e) fun hm => by
      rcases List.mem_cons.mp hm with h1 | h1
      · rw [h1, ndp0] at e; cases e
      · rw [List.mem_singleton.mp h1, nG0] at e; cases e
    have hsum0 : su ys (fun x => h x - (t x - spentQ qs g x)) = 0 := by
      rw [su_sub, eN, su_perm h pm, hne]; omega
    refine ⟨dp, G, ys, _, ps, T', qs, g, rfl, hdp9, hG9, lok.perm pm, ndy, hyl, P0, hsum0, fun HA g' kA hdpA PA hsA => ?_, fun HA l R kA hlA asR neR hRn hR => ?_⟩
    · refine ⟨.non, rfl, rfl, true, rfl, ?_⟩
      refine ⟨.ref dp, rfl, dp, qs, g', rfl, hdpA, PA.nd lok, PA.len lok, fun HB lB qs' kB pmB pwB nlB hrB => ⟨two_sz, fun pp npp => ?_⟩⟩
      refine qP _ pp lB qs' g' (Same.new (Same.tr (toS kA) kB) npp) upd_same (RunsAt.same (Same.new Same.rfl npp) hrB) pwB (PA.perm' pmB) fun x hx => ?_
      rw [spentQ_perm pmB, hsA x (pm.mem_iff.mpr hx)]
      omega
    · refine ⟨.ref l, rfl, rfl, false, rfl, ?_⟩
      refine ⟨.ref l, rfl, two_sz, fun pp npp => ?_⟩
      refine qS _ pp l R (Same.new (toS kA) npp) upd_same (new_get npp hlA) asR neR (fun x hx => pm.mem_iff.mp (hRn x hx)) ?_
      have e : su R (fun x => spentQ qs g x - (h x - (t x - spentQ qs g x))) = su R t - su R h := by
        rw [← su_sub]
        exact su_congr fun x _ => by omega
      rw [e] at hR
      exact hR
  · refine ⟨.int (su ns t - su ps T'), rfl, rfl, true, ?_, ?_⟩
    · exact congrArg V.bl (by rw [decide_eq_false (fun e => hne (V.int.inj e))]; rfl)
    refine ⟨.int (su ns t - su ps T'), rfl, two_sz, fun pp npp => ?_⟩
    exact qT hne _ pp (Same.new k37 npp) upd_same
end
end Ep

set_option Elab.async false
set_option linter.all false
set_option maxRecDepth 100000
set_option maxHeartbeats 4000000
/-! ## the law's hand -/
namespace Ep
open PySem PySem.Spec PyProof.Rows L2
def handL (c : Addr) (n : Nat) (h2 h3 h4 h5 : Int) : List V := [.ref c, .int (n : Nat), .int h2, .int h3, .int h4, .int h5]
def HandAt (H : Hp) (a c : Addr) : Prop := ∃ (n : Nat) (h2 h3 h4 h5 : Int) (zs : List Int), H a = some (.lst (handL c n h2 h3 h4 h5)) ∧ H c = some (.lst (zs.map V.int)) ∧ 0 ≤ h2 ∧ 0 ≤ h4 ∧ h4 < 2 ^ 40 ∧ 0 ≤ h5 ∧ h5 < 2 ^ 40
section
variable {H H' : Hp} {a c : Addr} {S : List Addr} {D : Addr} {o : HO}
theorem HandAt.ne (h : HandAt H a c) : c ≠ a := fun e => by
  obtain ⟨n, h2, h3, h4, h5, zs, e1, e2, _⟩ := h
  rw [e, e1] at e2
  cases zs with
  | nil => cases e2
  | cons z zs => cases e2
theorem HandAt.same (k : Same H H') (h : HandAt H a c) : HandAt H' a c := by
  obtain ⟨n, h2, h3, h4, h5, zs, e1, e2, r⟩ := h
  exact ⟨n, h2, h3, h4, h5, zs, k _ _ e1, k _ _ e2, r⟩
theorem HandAt.new (h : HandAt H a c) (n : H D = none) : HandAt (upd H D o) a c := h.same (Same.new Same.rfl n)
theorem HandAt.wr (h : HandAt H a c) (n1 : D ≠ a) (n2 : D ≠ c) : HandAt (upd H D o) a c := by
  obtain ⟨n, h2, h3, h4, h5, zs, e1, e2, r⟩ := h
  exact ⟨n, h2, h3, h4, h5, zs, by rw [upd_ne (Ne.symm n1)]; exact e1, by rw [upd_ne (Ne.symm n2)]; exact e2, r⟩
theorem HandAt.some1 (h : HandAt H a c) : ∃ xs, H a = some (.lst xs) := by
  obtain ⟨n, h2, h3, h4, h5, zs, e1, _⟩ := h; exact ⟨_, e1⟩
theorem HandAt.some2 (h : HandAt H a c) : ∃ xs, H c = some (.lst xs) := by
  obtain ⟨n, h2, h3, h4, h5, zs, _, e2, _⟩ := h; exact ⟨_, e2⟩
theorem HandAt.away (h : HandAt H a c) (n : H D = none) : D ≠ a ∧ D ≠ c := by
  obtain ⟨x1, e1⟩ := h.some1
  obtain ⟨x2, e2⟩ := h.some2
  exact ⟨fun e => (by rw [e, e1] at n; cases n), fun e => (by rw [e, e2] at n; cases n)⟩
/-- D is younger than H -/
theorem HandAt.wrN (h' : HandAt H' a c) (h : HandAt H a c) (n : H D = none) : HandAt (upd H' D o) a c := h'.wr (h.away n).1 (h.away n).2
theorem HandAt.lists (h : HandAt H a c) : Lists [a] H := fun b hb => by rw [List.mem_singleton.mp hb]; exact h.some1
theorem HandAt.free (h' : HandAt H' a c) (k : Kp [a] H H') (n : H' D = none) : H D = none := Kp.free k n fun m => (h'.away n).1 (List.mem_singleton.mp m)
theorem fm (x : Int) {m : Int} (h : 0 < m) : 0 ≤ x.fmod m ∧ x.fmod m < m := by
  rw [Int.fmod_eq_emod_of_nonneg x (Int.le_of_lt h)]
  exact ⟨Int.emod_nonneg _ (by omega), Int.emod_lt_of_pos _ h⟩
end
section
variable {P : Program} {w : World} {K : PySem.W.Frag} {mg : Str → Option Value} {base : Heap} {f : Addr} {fd : FuncData}
def p_hand (K : PySem.W.Frag) : Sp := fun vs H Q _ => ∃ l, ∃ ns : List Int, vs = [.ref l] ∧ SqL K H l (ns.map V.int) ∧ ∀ H' a c, Same H H' → HandAt H' a c → Q (.ref a) H'
def p_step : Sp := fun vs H Q _ => ∃ a c, vs = [.ref a] ∧ HandAt H a c ∧ ∀ H' r, Kp [a] H H' → HandAt H' a c → (0 : Int) ≤ r → Q (.int r) H'
def p_take : Sp := fun vs H Q _ => ∃ a c, vs = [.ref a] ∧ HandAt H a c ∧ ∀ H', Kp [a] H H' → HandAt H' a c → Q .non H'
def p_draw : Sp := fun vs H Q _ => ∃ a c, ∃ t : Int, vs = [.ref a, .int t] ∧ HandAt H a c ∧ 1 ≤ t ∧ t ≤ 10 ^ 30 ∧ ∀ H' r, Kp [a] H H' → HandAt H' a c → (0 : Int) ≤ r → r < t → Q (.int r) H'
abbrev s_l_hand : Stmt := top 50
abbrev N_l_hand : List Str := ["_law_script"]
theorem sc_l_hand : FnScope N_l_hand ["_law_script"] (defScope s_l_hand) := ⟨rfl, rfl, rfl, by decide +kernel, rfl, by decide +kernel, by decide +kernel⟩
theorem ok_l_hand (F : FnP K "_law_hand" "_law_hand" s_l_hand f fd) (T : Txt K mg) : FnOk P w K mg base CX0 1 f fd ["_law_script"] (p_hand K) := by
  refine ok0 F sc_l_hand (fun _ _ _ _ h => by obtain ⟨a, l, rfl, _⟩ := h; rfl) fun cdv A outer s H vs Q E hr h => ?_
  obtain ⟨l, ns, rfl, hl, q⟩ := h
  refine ⟨_, (pss_one (ps_ret (pe_lst (pa_cons (pe_callTy call_list_of (by rfl) T.list bt_list (pa_cons (pe_slice sl_list (pv 0) po_none (po_some pe_int)) pa_nil)) (pa_cons pe_int (pa_cons pe_int (pa_cons pe_int (pa_cons pe_int (pa_cons pe_int pa_nil))))))))), ?_⟩
  refine ⟨.ref l, rfl, 63, rfl, l, _, rfl, hl, fun p np => ?_⟩
  obtain ⟨zs, e⟩ : ∃ zs : List Int, cutV (ns.map V.int) none (some 63) = zs.map V.int := ⟨_, by unfold cutV; rw [← List.map_drop, ← List.map_take]⟩
  refine ⟨p, _, rfl, .inl (SqL.of upd_same), fun c nc => ⟨by show 6 ≤ sizeLine; decide, fun a na => ?_⟩⟩
  rw [e] at na ⊢
  exact q _ a c (Same.new (Same.new (Same.new Same.rfl np) (by rw [e] at nc; exact nc)) na) ⟨0, 0, 0, 20011, 40009, zs, upd_same, new_get na upd_same, by decide, by decide, by decide, by decide, by decide⟩
abbrev s_l_step : Stmt := top 51
abbrev N_l_step : List Str := ["_law_hand_here"]
theorem sc_l_step : FnScope N_l_step ["_law_hand_here"] (defScope s_l_step) := ⟨rfl, rfl, rfl, by decide +kernel, rfl, by decide +kernel, by decide +kernel⟩
theorem ok_l_step (F : FnP K "_law_step" "_law_step" s_l_step f fd) (T : Txt K mg) : FnOk P w K mg base CX0 1 f fd ["_law_hand_here"] p_step := by
  refine ok0 F sc_l_step (fun _ _ _ _ h => by obtain ⟨a, l, rfl, _⟩ := h; rfl) fun cdv A outer s H vs Q E hr h => ?_
  obtain ⟨a, c, rfl, hh, q⟩ := h
  have nca := hh.ne
  obtain ⟨n, h2, h3, h4, h5, zs, ha, hc, b2, b4, b4', b5, b5'⟩ := hh
  refine ⟨_, (pss_cons (ps_asg (pe_op op_modN (pe_op op_mul (pe_ix ix_list (pv 0) pe_int (fun _ _ => rfl)) pe_int) pe_int) (pg_sub (pv 0) pe_int set_list))
    (pss_cons (ps_asg (pe_op op_modN (pe_op op_mul (pe_ix ix_list (pv 0) pe_int (fun _ _ => rfl)) pe_int) pe_int) (pg_sub (pv 0) pe_int set_list))
    (pss_one (ps_ret (pe_op op_add (pe_ix ix_list (pv 0) pe_int (fun _ _ => rfl)) (pe_ix ix_list (pv 0) pe_int (fun _ _ => rfl))))))), ?_⟩
  refine ⟨.ref a, rfl, a, _, 4, .int h4, rfl, rfl, SqL.of ha, rfl, h4, 48271, rfl, rfl, .inr (by decide), _, 2147483647, rfl, rfl, (show (2147483647 : Int) ≠ 0 by decide), .ref a, rfl, a, _, 4, 4, rfl, rfl, ha, rfl, ?_⟩
  obtain ⟨f1, f2⟩ := fm (h4 * 48271) (m := 2147483647) (by decide)
  dsimp only
  generalize (h4 * 48271).fmod 2147483647 = k4 at f1 f2 ⊢
  have h1a : upd H a (.lst ((handL c n h2 h3 h4 h5).set 4 (.int k4))) a = some (.lst (handL c n h2 h3 k4 h5)) := upd_same
  have h1c : upd H a (.lst ((handL c n h2 h3 h4 h5).set 4 (.int k4))) c = some (.lst (zs.map V.int)) := by rw [upd_ne nca]; exact hc
  have h1k : Kp [a] H (upd H a (.lst ((handL c n h2 h3 h4 h5).set 4 (.int k4)))) := Kp.wr Kp.refl (List.mem_singleton.mpr rfl)
  generalize upd H a (.lst ((handL c n h2 h3 h4 h5).set 4 (.int k4))) = H1 at h1a h1c h1k
  refine ⟨.ref a, rfl, a, _, 5, .int h5, rfl, rfl, SqL.of h1a, rfl, h5, 40692, rfl, rfl, .inr (by decide), _, 2147483399, rfl, rfl, (show (2147483399 : Int) ≠ 0 by decide), .ref a, rfl, a, _, 5, 5, rfl, rfl, h1a, rfl, ?_⟩
  obtain ⟨f3, f4⟩ := fm (h5 * 40692) (m := 2147483399) (by decide)
  dsimp only
  generalize (h5 * 40692).fmod 2147483399 = k5 at f3 f4 ⊢
  have h2a : upd H1 a (.lst ((handL c n h2 h3 k4 h5).set 5 (.int k5))) a = some (.lst (handL c n h2 h3 k4 k5)) := upd_same
  have h2c : upd H1 a (.lst ((handL c n h2 h3 k4 h5).set 5 (.int k5))) c = some (.lst (zs.map V.int)) := by rw [upd_ne nca]; exact h1c
  have h2k : Kp [a] H (upd H1 a (.lst ((handL c n h2 h3 k4 h5).set 5 (.int k5)))) := Kp.wr h1k (List.mem_singleton.mpr rfl)
  generalize upd H1 a (.lst ((handL c n h2 h3 k4 h5).set 5 (.int k5))) = H2 at h2a h2c h2k
  refine ⟨.ref a, rfl, a, _, 4, .int k4, rfl, rfl, SqL.of h2a, rfl, .ref a, rfl, a, _, 5, .int k5, rfl, rfl, SqL.of h2a, rfl, k4, k5, rfl, rfl, ?_⟩
  exact q _ _ h2k ⟨n, h2, h3, k4, k5, zs, h2a, h2c, b2, f1, by omega, f3, by omega⟩ (by omega)
abbrev s_l_take : Stmt := top 52
abbrev N_l_take : List Str := ["_law_hand_here", "_law_cell"]
theorem sc_l_take : FnScope N_l_take ["_law_hand_here"] (defScope s_l_take) := ⟨rfl, rfl, rfl, by decide +kernel, rfl, by decide +kernel, by decide +kernel⟩
theorem ok_l_take (F : FnP K "_law_take" "_law_take" s_l_take f fd) (T : Txt K mg) (d_l_step : Df P w K mg base CX0 1 "_law_step" ["_law_hand_here"] p_step) : FnOk P w K mg base CX0 2 f fd ["_law_hand_here"] p_take := by
  refine ok0 F sc_l_take (fun _ _ _ _ h => by obtain ⟨a, l, rfl, _⟩ := h; rfl) fun cdv A outer s H vs Q E hr h => ?_
  obtain ⟨a, c, rfl, hh, q⟩ := h
  have nca := hh.ne
  obtain ⟨n, h2, h3, h4, h5, zs, ha, hc, b2, b4, b4', b5, b5'⟩ := hh
  refine ⟨_, (pss_cons (ps_set (i := 1) sc_l_take.nd rfl (Or.inl rfl) pe_int)
    (C8.pss_cut (ps_if (pt_cmpR op_lt (pe_ix ix_list (pv 0) pe_int (fun _ _ => rfl)) (pe_callB call_len_seq (by rfl) T.len bt_len (pa_cons (pe_ix ix_list (pv 0) pe_int (fun _ _ => rfl)) pa_nil)) (nomark _))
      (pss_one (ps_set (i := 1) sc_l_take.nd rfl (Or.inl rfl) (pe_callB call_abs (by rfl) T.abs bt_abs (pa_cons (pe_ix ix_list (pe_ix ix_list (pv 0) pe_int (fun _ _ => rfl)) (pe_ix ix_list (pv 0) pe_int (fun _ _ => rfl)) (fun _ _ => rfl)) pa_nil))))
      pss_nil)
    (pss_cons (ps_augS (pv 0) pe_int get_list pe_int ip_add set_list)
    (C8.pss_cut (ps_if (pt_cmpR op_ge (pv 1) (pe_op op_pow pe_int pe_int) (nomark _))
      (pss_one (ps_asg (pv 1) (pg_sub (pv 0) pe_int set_list)))
      (pss_one (ps_asg pe_int (pg_sub (pv 0) pe_int set_list))))
    (pss_cons (ps_asg (pe_op op_add (pe_op op_modN (pe_op op_add (pe_ix ix_list (pv 0) pe_int (fun _ _ => rfl)) (pe_op op_modN (pv 1) pe_int)) pe_int) pe_int) (pg_sub (pv 0) pe_int set_list))
    (pss_cons (ps_asg (pe_op op_add (pe_op op_modN (pe_op op_add (pe_op op_mul (pe_ix ix_list (pv 0) pe_int (fun _ _ => rfl)) pe_int) (pe_op op_modN (pv 1) pe_int)) pe_int) pe_int) (pg_sub (pv 0) pe_int set_list))
    (pss_cons (ps_expr (pe_df d_l_step hr (pa_cons (pv 0) pa_nil)))
    (pss_one (ps_expr (pe_df d_l_step hr (pa_cons (pv 0) pa_nil))))))))))), ?_⟩
  refine ⟨fun σ H' => Kp [a] H H' ∧ H' a = some (.lst (handL c n h2 h3 h4 h5)) ∧ H' c = some (.lst (zs.map V.int)) ∧ ∃ cell : Int, 0 ≤ cell ∧ σ = [some (.ref a), some (.int cell)], ?_, ?_⟩
  · by_cases hlt : (n : Int) < zs.length
    · refine ⟨.ref a, rfl, a, _, 1, .int (n : Nat), rfl, rfl, SqL.of ha, rfl, .ref a, rfl, a, _, 0, .ref c, rfl, rfl, SqL.of ha, rfl, c, _, rfl, .inl (SqL.of hc), _, _, rfl, rfl, true, bl_t (by rw [List.length_map]; exact hlt), ?_⟩
      obtain ⟨z, hz⟩ : ∃ z, zs[n]? = some z := ⟨_, List.getElem?_eq_getElem (by omega)⟩
      refine ⟨.ref a, rfl, a, _, 0, .ref c, rfl, rfl, SqL.of ha, rfl, .ref a, rfl, a, _, 1, .int (n : Nat), rfl, rfl, SqL.of ha, rfl, c, _, _, .int z, rfl, rfl, SqL.of hc, atI_nat (by rw [List.getElem?_map, hz]; rfl), z, rfl, Kp.refl, ha, hc, _, ?_, rfl⟩
      split <;> omega
    · refine ⟨.ref a, rfl, a, _, 1, .int (n : Nat), rfl, rfl, SqL.of ha, rfl, .ref a, rfl, a, _, 0, .ref c, rfl, rfl, SqL.of ha, rfl, c, _, rfl, .inl (SqL.of hc), _, _, rfl, rfl, false, bl_f (by rw [List.length_map]; exact hlt), ?_⟩
      exact ⟨Kp.refl, ha, hc, 0, by decide, rfl⟩
  clear ha hc
  rintro σ H0 ⟨k0, ha, hc, cell, hcell, rfl⟩
  refine ⟨.ref a, rfl, a, _, 1, .int (n : Nat), rfl, rfl, SqL.of ha, rfl, n, 1, rfl, rfl, a, _, 1, 1, rfl, rfl, ha, rfl, ?_⟩
  dsimp only
  have h1a : upd H0 a (.lst ((handL c n h2 h3 h4 h5).set 1 (.int ((n : Int) + 1)))) a = some (.lst (handL c (n + 1) h2 h3 h4 h5)) := upd_same
  have h1c : upd H0 a (.lst ((handL c n h2 h3 h4 h5).set 1 (.int ((n : Int) + 1)))) c = some (.lst (zs.map V.int)) := by rw [upd_ne nca]; exact hc
  have h1k : Kp [a] H (upd H0 a (.lst ((handL c n h2 h3 h4 h5).set 1 (.int ((n : Int) + 1))))) := Kp.wr k0 (List.mem_singleton.mpr rfl)
  generalize upd H0 a (.lst ((handL c n h2 h3 h4 h5).set 1 (.int ((n : Int) + 1)))) = H1 at h1a h1c h1k
  refine ⟨fun σ H' => Kp [a] H H' ∧ H' c = some (.lst (zs.map V.int)) ∧ σ = [some (.ref a), some (.int cell)] ∧ ∃ k2 k3 : Int, 0 ≤ k2 ∧ H' a = some (.lst (handL c (n + 1) k2 k3 h4 h5)), ?_, ?_⟩
  · by_cases hge : (10 : Int) ^ 18 ≤ cell
    · refine ⟨.int cell, rfl, 10, 18, rfl, rfl, ⟨by decide, by decide, by decide⟩, cell, _, rfl, rfl, true, bl_t hge, ?_⟩
      exact ⟨.int cell, rfl, .ref a, rfl, a, _, 2, 2, rfl, rfl, h1a, rfl, Kp.wr h1k (List.mem_singleton.mpr rfl), by rw [upd_ne nca]; exact h1c, rfl, cell, h3, hcell, upd_same⟩
    · refine ⟨.int cell, rfl, 10, 18, rfl, rfl, ⟨by decide, by decide, by decide⟩, cell, _, rfl, rfl, false, bl_f hge, ?_⟩
      exact ⟨.ref a, rfl, a, _, 3, 3, rfl, rfl, h1a, rfl, Kp.wr h1k (List.mem_singleton.mpr rfl), by rw [upd_ne nca]; exact h1c, rfl, h2, 7, b2, upd_same⟩
  clear h1k h1c h1a
  rintro σ H2 ⟨k2, h2c, rfl, g2, g3, b2', h2a⟩
  refine ⟨.ref a, rfl, a, _, 4, .int h4, rfl, rfl, SqL.of h2a, rfl, .int cell, rfl, cell, 2147483587, rfl, rfl, (show (2147483587 : Int) ≠ 0 by decide), h4, _, rfl, rfl, _, 2147483646, rfl, rfl, (show (2147483646 : Int) ≠ 0 by decide), _, 1, rfl, rfl, .ref a, rfl, a, _, 4, 4, rfl, rfl, h2a, rfl, ?_⟩
  obtain ⟨f1, f2⟩ := fm (h4 + cell.fmod 2147483587) (m := 2147483646) (by decide)
  dsimp only
  generalize (h4 + cell.fmod 2147483587).fmod 2147483646 = m4 at f1 f2 ⊢
  have h3a : upd H2 a (.lst ((handL c (n + 1) g2 g3 h4 h5).set 4 (.int (m4 + 1)))) a = some (.lst (handL c (n + 1) g2 g3 (m4 + 1) h5)) := upd_same
  have h3c : upd H2 a (.lst ((handL c (n + 1) g2 g3 h4 h5).set 4 (.int (m4 + 1)))) c = some (.lst (zs.map V.int)) := by rw [upd_ne nca]; exact h2c
  have h3k : Kp [a] H (upd H2 a (.lst ((handL c (n + 1) g2 g3 h4 h5).set 4 (.int (m4 + 1))))) := Kp.wr k2 (List.mem_singleton.mpr rfl)
  generalize upd H2 a (.lst ((handL c (n + 1) g2 g3 h4 h5).set 4 (.int (m4 + 1)))) = H3 at h3a h3c h3k
  refine ⟨.ref a, rfl, a, _, 5, .int h5, rfl, rfl, SqL.of h3a, rfl, h5, 3, rfl, rfl, .inr (by decide), .int cell, rfl, cell, 1000003, rfl, rfl, (show (1000003 : Int) ≠ 0 by decide), _, _, rfl, rfl, _, 2147483398, rfl, rfl, (show (2147483398 : Int) ≠ 0 by decide), _, 1, rfl, rfl, .ref a, rfl, a, _, 5, 5, rfl, rfl, h3a, rfl, ?_⟩
  obtain ⟨f3, f4⟩ := fm (h5 * 3 + cell.fmod 1000003) (m := 2147483398) (by decide)
  dsimp only
  generalize (h5 * 3 + cell.fmod 1000003).fmod 2147483398 = m5 at f3 f4 ⊢
  have h4a : upd H3 a (.lst ((handL c (n + 1) g2 g3 (m4 + 1) h5).set 5 (.int (m5 + 1)))) a = some (.lst (handL c (n + 1) g2 g3 (m4 + 1) (m5 + 1))) := upd_same
  have h4c : upd H3 a (.lst ((handL c (n + 1) g2 g3 (m4 + 1) h5).set 5 (.int (m5 + 1)))) c = some (.lst (zs.map V.int)) := by rw [upd_ne nca]; exact h3c
  have h4k : Kp [a] H (upd H3 a (.lst ((handL c (n + 1) g2 g3 (m4 + 1) h5).set 5 (.int (m5 + 1))))) := Kp.wr h3k (List.mem_singleton.mpr rfl)
  generalize upd H3 a (.lst ((handL c (n + 1) g2 g3 (m4 + 1) h5).set 5 (.int (m5 + 1)))) = H4 at h4a h4c h4k
  have hh4 : HandAt H4 a c := ⟨n + 1, g2, g3, m4 + 1, m5 + 1, zs, h4a, h4c, b2', by omega, by omega, by omega, by omega⟩
  refine ⟨.ref a, rfl, a, c, rfl, hh4, fun H5 r k5 hh5 _ => ?_⟩
  refine ⟨.ref a, rfl, a, c, rfl, hh5, fun H6 r k6 hh6 _ => ?_⟩
  exact q _ (Kp.trans (Kp.trans h4k k5) k6) hh6
abbrev s_l_draw : Stmt := top 53
abbrev N_l_draw : List Str := ["_law_hand_here", "_law_tally", "_law_got", "_law_value", "_law_size"]
theorem sc_l_draw : FnScope N_l_draw ["_law_hand_here", "_law_tally"] (defScope s_l_draw) := ⟨rfl, rfl, rfl, by decide +kernel, rfl, by decide +kernel, by decide +kernel⟩
theorem ok_l_draw (F : FnP K "_law_draw" "_law_draw" s_l_draw f fd) (T : Txt K mg) (d_l_step : Df P w K mg base CX0 1 "_law_step" ["_law_hand_here"] p_step) (d_l_take : Df P w K mg base CX0 2 "_law_take" ["_law_hand_here"] p_take) : FnOk P w K mg base CX0 3 f fd ["_law_hand_here", "_law_tally"] p_draw := by
  refine ok0 F sc_l_draw (fun _ _ _ _ h => by obtain ⟨a, l, t, rfl, _⟩ := h; rfl) fun cdv A outer s H vs Q E hr h => ?_
  obtain ⟨a, c, t, rfl, hh, t1, t2, q⟩ := h
  have nca := hh.ne
  refine ⟨_, (C8.pss_cut (ps_if (PW.pt (pw_and (pt_cmpR op_eq (pe_ix ix_list (pv 0) pe_int (fun _ _ => rfl)) pe_int (nomark _)) (pw_and1 (pt_cmpR op_eq (pe_ix ix_list (pv 0) pe_int (fun _ _ => rfl)) pe_int (nomark _)))))
      (pss_one (ps_expr (pe_df d_l_take hr (pa_cons (pv 0) pa_nil))))
      pss_nil)
    (pss_cons (ps_if (pt_cmpR op_gt (pe_ix ix_list (pv 0) pe_int (fun _ _ => rfl)) pe_int (nomark _))
      (pss_cons (ps_set (i := 2) sc_l_draw.nd rfl (Or.inl rfl) (pe_op op_modN (pe_ix ix_list (pv 0) pe_int (fun _ _ => rfl)) (pv 1)))
      (pss_cons (ps_asg (pe_op op_fdivW (pe_ix ix_list (pv 0) pe_int (fun _ _ => rfl)) (pv 1)) (pg_sub (pv 0) pe_int set_list))
      (pss_one (ps_ret (pv 2)))))
      pss_nil)
    (pss_cons (ps_augS (pv 0) pe_int get_list pe_int ip_sub set_list)
    (pss_cons (ps_set (i := 3) sc_l_draw.nd rfl (Or.inl rfl) (pe_df d_l_step hr (pa_cons (pv 0) pa_nil)))
    (pss_cons (ps_set (i := 4) sc_l_draw.nd rfl (Or.inl rfl) pe_int)
    (pss_cons (ps_while PassesOwn.never (pt_cmpR op_lt (pv 4) (pv 1) (nomark _))
      (pss_cons (ps_set (i := 3) sc_l_draw.nd rfl (Or.inl rfl) (pe_op op_add (pe_op op_mul (pv 3) pe_int) (pe_df d_l_step hr (pa_cons (pv 0) pa_nil))))
      (pss_one (ps_set (i := 4) sc_l_draw.nd rfl (Or.inl rfl) (pe_op op_mul (pv 4) pe_int)))))
    (pss_one (ps_ret (pe_op op_modN (pv 3) (pv 1)))))))))), ?_⟩
  refine ⟨fun σ H' => Kp [a] H H' ∧ HandAt H' a c ∧ σ = [some (.ref a), some (.int t), none, none, none], ?_, ?_⟩
  · obtain ⟨n, h2, h3, h4, h5, zs, ha, hc, r⟩ := id hh
    by_cases e2 : h2 = 0
    · refine ⟨.ref a, rfl, a, _, 2, .int h2, rfl, rfl, SqL.of ha, rfl, rfl, true, by rw [e2]; rfl, ?_⟩
      by_cases e3 : h3 = 0
      · refine ⟨.ref a, rfl, a, _, 3, .int h3, rfl, rfl, SqL.of ha, rfl, rfl, true, by rw [e3]; rfl, ?_⟩
        exact ⟨.ref a, rfl, a, c, rfl, hh, fun H1 k1 hh1 => ⟨k1, hh1, rfl⟩⟩
      · refine ⟨.ref a, rfl, a, _, 3, .int h3, rfl, rfl, SqL.of ha, rfl, rfl, false, bl_f (fun e => e3 (V.int.inj e)), ?_⟩
        exact ⟨Kp.refl, hh, rfl⟩
    · refine ⟨.ref a, rfl, a, _, 2, .int h2, rfl, rfl, SqL.of ha, rfl, rfl, false, bl_f (fun e => e2 (V.int.inj e)), ?_⟩
      exact ⟨Kp.refl, hh, rfl⟩
  rintro σ H1 ⟨k1, hh1, rfl⟩
  obtain ⟨n, h2, h3, h4, h5, zs, ha, hc, b2, b4, b4', b5, b5'⟩ := hh1
  by_cases hp : 0 < h2
  · refine ⟨.ref a, rfl, a, _, 2, .int h2, rfl, rfl, SqL.of ha, rfl, h2, 0, rfl, rfl, true, bl_t hp, ?_⟩
    refine ⟨.ref a, rfl, a, _, 2, .int h2, rfl, rfl, SqL.of ha, rfl, .int t, rfl, h2, t, rfl, rfl, by omega, ?_⟩
    refine ⟨.ref a, rfl, a, _, 2, .int h2, rfl, rfl, SqL.of ha, rfl, .int t, rfl, h2, t, rfl, rfl, wide_div (b := 100) (by omega) (by
      have : t.natAbs ≤ 10 ^ 30 := by omega
      exact Nat.lt_of_le_of_lt this (by decide)) (by decide) (by decide), .ref a, rfl, a, _, 2, 2, rfl, rfl, ha, rfl, ?_⟩
    obtain ⟨f1, f2⟩ := fm h2 (m := t) (by omega)
    refine ⟨_, rfl, q _ _ (Kp.wr k1 (List.mem_singleton.mpr rfl)) ⟨n, h2 / t, h3, h4, h5, zs, upd_same, by rw [upd_ne nca]; exact hc, Int.ediv_nonneg b2 (by omega), b4, b4', b5, b5'⟩ f1 f2⟩
  · refine ⟨.ref a, rfl, a, _, 2, .int h2, rfl, rfl, SqL.of ha, rfl, h2, 0, rfl, rfl, false, bl_f hp, ?_⟩
    refine ⟨.ref a, rfl, a, _, 3, .int h3, rfl, rfl, SqL.of ha, rfl, h3, 1, rfl, rfl, a, _, 3, 3, rfl, rfl, ha, rfl, ?_⟩
    dsimp only
    have hh2 : HandAt (upd H1 a (.lst ((handL c n h2 h3 h4 h5).set 3 (.int (h3 - 1))))) a c := ⟨n, h2, h3 - 1, h4, h5, zs, upd_same, by rw [upd_ne nca]; exact hc, b2, b4, b4', b5, b5'⟩
    have k2 : Kp [a] H (upd H1 a (.lst ((handL c n h2 h3 h4 h5).set 3 (.int (h3 - 1))))) := Kp.wr k1 (List.mem_singleton.mpr rfl)
    generalize upd H1 a (.lst ((handL c n h2 h3 h4 h5).set 3 (.int (h3 - 1)))) = H2 at hh2 k2
    refine ⟨.ref a, rfl, a, c, rfl, hh2, fun H3 v0 k3 hh3 hv0 => ?_⟩
    refine ⟨fun m σ H' => ∃ v sz : Int, Kp [a] H H' ∧ HandAt H' a c ∧ 0 ≤ v ∧ 1 ≤ sz ∧ m = (t - sz).toNat ∧ σ = [some (.ref a), some (.int t), none, some (.int v), some (.int sz)], ⟨(t - 4294967296).toNat, ?_⟩, ?_⟩
    · exact ⟨v0, 4294967296, Kp.trans k2 k3, hh3, hv0, by decide, rfl, rfl⟩
    rintro m σ H4 ⟨v, sz, k4, hh4, hv, hsz, rfl, rfl⟩
    by_cases hlt : sz < t
    · refine ⟨.int sz, rfl, .int t, rfl, sz, t, rfl, rfl, true, bl_t hlt, ?_⟩
      refine ⟨fun σ H' => ∃ m', m' < (t - sz).toNat ∧ ∃ v sz : Int, Kp [a] H H' ∧ HandAt H' a c ∧ 0 ≤ v ∧ 1 ≤ sz ∧ m' = (t - sz).toNat ∧ σ = [some (.ref a), some (.int t), none, some (.int v), some (.int sz)], fun _ _ h => h, ?_⟩
      refine ⟨.int v, rfl, v, 4294967296, rfl, rfl, .inr (by decide), .ref a, rfl, a, c, rfl, hh4, fun H5 v1 k5 hh5 hv1 => ⟨_, v1, rfl, rfl, ?_⟩⟩
      refine ⟨.int sz, rfl, sz, 4294967296, rfl, rfl, .inr (by decide), (t - sz * 4294967296).toNat, by omega, v * 4294967296 + v1, sz * 4294967296, Kp.trans k4 k5, hh5, by omega, by omega, rfl, rfl⟩
    · refine ⟨.int sz, rfl, .int t, rfl, sz, t, rfl, rfl, false, bl_f hlt, ?_⟩
      obtain ⟨f1, f2⟩ := fm v (m := t) (by omega)
      exact ⟨.int v, rfl, .int t, rfl, v, t, rfl, rfl, by omega, q _ _ k4 hh4 f1 f2⟩
end
end Ep

set_option Elab.async false
set_option linter.all false
set_option maxRecDepth 100000
set_option maxHeartbeats 4000000
/-! ## the law: shuffled, count -/
namespace Ep
open PySem PySem.Spec PyProof.Rows L2
/-- a tuple of texts and whole numbers -/
def FlatT (H : Hp) (t : Addr) : Prop := ∃ ys : List V, H t = some (.tup ys) ∧ ∀ y ∈ ys, (∃ x, y = .str x) ∨ ∃ i, y = .int i
theorem FlatT.kp {H H' : Hp} {a c t : Addr} (hh : HandAt H a c) (k : Kp [a] H H') (h : FlatT H t) : FlatT H' t := by
  obtain ⟨ys, e, r⟩ := h
  refine ⟨ys, k _ _ e fun m => ?_, r⟩
  obtain ⟨xs, e2⟩ := hh.lists t m
  rw [e] at e2
  cases e2
theorem FlatT.dat {K : PySem.W.Frag} {H : Hp} {t : Addr} (h : FlatT H t) : ∃ d, Dat K H (.ref t) d := by
  obtain ⟨ys, e, r⟩ := h
  have : ∃ ds, DpAll K H ys ds ∧ (∀ d ∈ ds, d.plain = true) ∧ ∀ d ∈ ds, d.depth ≤ 7 := by
    clear e
    induction ys with
    | nil => exact ⟨[], .nil, fun d h => absurd h List.not_mem_nil, fun d h => absurd h List.not_mem_nil⟩
    | cons y ys ih =>
      obtain ⟨ds, g1, g2, g3⟩ := ih fun z hz => r z (List.mem_cons_of_mem _ hz)
      rcases r y List.mem_cons_self with ⟨x, rfl⟩ | ⟨x, rfl⟩
      · exact ⟨_, .cons (.str x) g1, fun d h => by
          rcases List.mem_cons.mp h with q | q
          · rw [q]; rfl
          · exact g2 d q, fun d h => by
          rcases List.mem_cons.mp h with q | q
          · rw [q]; exact Nat.zero_le _
          · exact g3 d q⟩
      · exact ⟨_, .cons (.int x) g1, fun d h => by
          rcases List.mem_cons.mp h with q | q
          · rw [q]; rfl
          · exact g2 d q, fun d h => by
          rcases List.mem_cons.mp h with q | q
          · rw [q]; exact Nat.zero_le _
          · exact g3 d q⟩
  obtain ⟨ds, g1, g2, g3⟩ := this
  exact ⟨.tuple ds, .tup (SqT.of e) g1, plainAll_of g2, by show PyData.depthAll ds + 1 ≤ 8; have := depthAll_le g3; omega⟩
theorem sz_lt {n : Nat} (h : n ≤ 1000) : n < sizeLine := Nat.lt_of_le_of_lt h (by decide)
theorem seq_ix {n : Nat} {r : Int} (h0 : 0 ≤ r) (h1 : r < n) : seqIndex? r n = some r.toNat := by
  unfold seqIndex?
  simp only [if_neg (by omega : ¬ r < 0)]
  rw [if_pos (by simp; omega)]
theorem get_ex {α : Type} {l : List α} {r : Int} (h0 : 0 ≤ r) (h1 : r < l.length) : ∃ y, l[r.toNat]? = some y := ⟨l[r.toNat]'(by omega), List.getElem?_eq_getElem (by omega)⟩
theorem map_erase {α β : Type} (f : α → β) : ∀ (l : List α) (i : Nat), (l.map f).eraseIdx i = (l.eraseIdx i).map f
  | [], _ => rfl
  | a :: l, 0 => rfl
  | a :: l, i + 1 => by
    rw [List.map_cons, List.eraseIdx_cons_succ, List.eraseIdx_cons_succ, List.map_cons, map_erase f l i]
theorem HandAt.nmem {H : Hp} {a c p : Addr} {o : HO} (h : HandAt H a c) (e : H p = some o) (n : ∀ xs, o ≠ .lst xs) : p ∉ [a] := h.lists.dict e n
section
variable {P : Program} {w : World} {K : PySem.W.Frag} {mg : Str → Option Value} {base : Heap} {f : Addr} {fd : FuncData}
def p_shuffled : Sp := fun vs H Q _ => ∃ a c l, ∃ ts : List Addr, vs = [.ref a, .ref l] ∧ HandAt H a c ∧ H l = some (.lst (ts.map V.ref)) ∧ l ≠ a ∧ (∀ t ∈ ts, FlatT H t) ∧ ts.length ≤ 1000 ∧
  ∀ H' b (us : List Addr), Kp [a] H H' → HandAt H' a c → us.Perm ts → H b = none → H' b = some (.lst (us.map V.ref)) → Q (.ref b) H'
abbrev s_l_shuffled : Stmt := top 54
abbrev N_l_shuffled : List Str := ["_law_hand_here", "_law_some", "_law_left", "_law_found"]
theorem sc_l_shuffled : FnScope N_l_shuffled ["_law_hand_here", "_law_some"] (defScope s_l_shuffled) := ⟨rfl, rfl, rfl, by decide +kernel, rfl, by decide +kernel, by decide +kernel⟩
theorem ok_l_shuffled (F : FnP K "_law_shuffled" "_law_shuffled" s_l_shuffled f fd) (T : Txt K mg) (d_l_draw : Df P w K mg base CX0 3 "_law_draw" ["_law_hand_here", "_law_tally"] p_draw) : FnOk P w K mg base CX0 4 f fd ["_law_hand_here", "_law_some"] p_shuffled := by
  refine ok0 F sc_l_shuffled (fun _ _ _ _ h => by obtain ⟨a, l, t, ts, rfl, _⟩ := h; rfl) fun cdv A outer s H vs Q E hr h => ?_
  obtain ⟨a, c, l, ts, rfl, hh, hl, nla, hfl, hlen, q⟩ := h
  refine ⟨_, (pss_cons (ps_set (i := 2) sc_l_shuffled.nd rfl (Or.inl rfl) (pe_callTy call_list_of (by rfl) T.list bt_list (pa_cons (pv 1) pa_nil)))
    (pss_cons (ps_set (i := 3) sc_l_shuffled.nd rfl (Or.inl rfl) (pe_lst pa_nil))
    (pss_cons (ps_while PassesOwn.never (pt_cmpR (op_ne_nil hr.units) (pv 2) (pe_lst pa_nil) (nomark _))
      (pss_one (ps_expr (pe_bm PySem.F.plainAttrs_list PySem.F.slot_list_append PySem.F.type_list_append mt_append (pv 3) (pa_cons (pe_bm PySem.F.plainAttrs_list PySem.F.slot_list_pop PySem.F.type_list_pop mt_popAt (pv 2) (pa_cons (pe_df d_l_draw hr (pa_cons (pv 0) (pa_cons (pe_callB call_len_seq (by rfl) T.len bt_len (pa_cons (pv 2) pa_nil)) pa_nil))) pa_nil)) pa_nil)))))
    (pss_one (ps_ret (pv 3)))))), ?_⟩
  refine ⟨.ref l, rfl, l, _, rfl, .inl (SqL.of hl), fun x nx => ⟨Nat.zero_le _, fun y ny => ?_⟩⟩
  have ny0 : H y = none := by rw [upd_ne (fun z => by rw [z, upd_same] at ny; cases ny)] at ny; exact ny
  have nxy : x ≠ y := fun z => by rw [z, upd_same] at ny; cases ny
  refine ⟨fun m σ H' => ∃ ls us : List Addr, σ = [some (.ref a), some (.ref l), some (.ref x), some (.ref y)] ∧ m = ls.length ∧ Kp [a] H H' ∧ HandAt H' a c ∧ H' x = some (.lst (ls.map V.ref)) ∧ H' y = some (.lst (us.map V.ref)) ∧ (us ++ ls).Perm ts, ⟨ts.length, ?_⟩, ?_⟩
  · exact ⟨ts, [], rfl, rfl, Kp.new (Kp.new Kp.refl nx) ny, (hh.new nx).new ny, by rw [upd_ne nxy, upd_same], upd_same, .refl _⟩
  rintro m σ H1 ⟨ls, us, rfl, rfl, k1, hh1, hx, hy, pm⟩
  refine ⟨.ref x, rfl, ⟨Nat.zero_le _, fun z nz => ?_⟩⟩
  have hxz := new_get (u := .lst []) nz hx
  have hyz := new_get (u := .lst []) nz hy
  have hhz := hh1.new (o := .lst []) nz
  have hkz : Kp [a] H (upd H1 z (.lst [])) := Kp.new k1 nz
  have hzz : upd H1 z (.lst []) z = some (.lst []) := upd_same
  generalize upd H1 z (.lst []) = H2 at hxz hyz hhz hkz hzz ⊢
  refine ⟨x, z, _, rfl, rfl, SqL.of hxz, SqL.of hzz, fun v hv => ?_, ?_⟩
  · obtain ⟨t, ht, rfl⟩ := List.mem_map.mp hv
    exact ((hfl t (pm.mem_iff.mp (List.mem_append_right _ ht))).kp hh hkz).dat
  cases ls with
  | nil =>
    refine ⟨false, rfl, ?_⟩
    rw [List.append_nil] at pm
    exact ⟨_, rfl, q _ y us hkz hhz pm ny0 hyz⟩
  | cons l0 ls0 =>
    refine ⟨true, rfl, ?_⟩
    have hll : ((l0 :: ls0).map V.ref).length ≤ 1000 := by
      rw [List.length_map]
      have := pm.length_eq
      rw [List.length_append] at this
      omega
    refine ⟨fun σ H' => ∃ m', m' < (l0 :: ls0).length ∧ ∃ ls us : List Addr, σ = [some (.ref a), some (.ref l), some (.ref x), some (.ref y)] ∧ m' = ls.length ∧ Kp [a] H H' ∧ HandAt H' a c ∧ H' x = some (.lst (ls.map V.ref)) ∧ H' y = some (.lst (us.map V.ref)) ∧ (us ++ ls).Perm ts, fun _ _ h => h, ?_⟩
    refine ⟨.ref y, rfl, .inl ⟨rfl, _, SqL.of hyz⟩, .ref x, rfl, .inl ⟨rfl, _, SqL.of hxz⟩, .ref a, rfl, .ref x, rfl, x, _, rfl, .inl (SqL.of hxz), a, c, _, rfl, hhz, ?_, ?_, fun H3 r k3 hh3 r0 r1 => ?_⟩
    · rw [List.length_map, List.length_cons]; omega
    · exact Int.le_trans (Int.ofNat_le.mpr hll) (by decide)
    obtain ⟨v, hv⟩ := get_ex (l := (l0 :: ls0).map V.ref) r0 r1
    obtain ⟨t, ht, rfl⟩ := map_ref_get hv
    have nxa : x ≠ a := (hh.away (by
      cases e : H x with
      | none => rfl
      | some o => rw [e] at nx; cases nx)).1
    have nya : y ≠ a := (hh.away ny0).1
    have hx3 := k3 _ _ hxz (fun m => nxa (List.mem_singleton.mp m))
    have hy3 := k3 _ _ hyz (fun m => nya (List.mem_singleton.mp m))
    refine ⟨x, _, r, r.toNat, _, rfl, rfl, hx3, by omega, ?_, seq_ix r0 r1, hv, ?_⟩
    · have : ((((l0 :: ls0).map V.ref).length : Nat) : Int) ≤ 1000 := Int.ofNat_le.mpr hll
      omega
    have e1 : upd H3 x (.lst (((l0 :: ls0).map V.ref).eraseIdx r.toNat)) y = some (.lst (us.map V.ref)) := by rw [upd_ne (Ne.symm nxy)]; exact hy3
    refine ⟨y, _, _, rfl, rfl, e1, ?_, (l0 :: ls0).length - 1, by rw [List.length_cons]; omega, (l0 :: ls0).eraseIdx r.toNat, us ++ [t], rfl, ?_, ?_, ?_, ?_, ?_, ?_⟩
    · rw [List.length_map]
      have := pm.length_eq
      rw [List.length_append] at this
      exact sz_lt (by omega)
    · have := (erase_perm _ _ _ ht).length_eq
      rw [List.length_cons] at this
      omega
    · exact Kp.wrN (Kp.wrN (Kp.trans hkz k3) nx) ny0
    · exact (hh3.wrN hh nx).wrN hh ny0
    · rw [upd_ne nxy, upd_same, map_erase]
    · rw [upd_same, List.map_append]; rfl
    · refine List.Perm.trans ?_ pm
      rw [List.append_assoc]
      exact List.Perm.append_left us (erase_perm _ _ _ ht)
def p_count : Sp := fun vs H Q _ => ∃ a c, vs = [.ref a] ∧ HandAt H a c ∧ ∀ H' r, Kp [a] H H' → HandAt H' a c → (1 : Int) ≤ r → r ≤ 10 ^ 21 → Q (.int r) H'
abbrev s_l_count : Stmt := top 56
abbrev N_l_count : List Str := ["_law_hand_here", "_law_way"]
theorem sc_l_count : FnScope N_l_count ["_law_hand_here"] (defScope s_l_count) := ⟨rfl, rfl, rfl, by decide +kernel, rfl, by decide +kernel, by decide +kernel⟩
theorem ok_l_count (F : FnP K "_law_count" "_law_count" s_l_count f fd) (T : Txt K mg) (d_l_draw : Df P w K mg base CX0 3 "_law_draw" ["_law_hand_here", "_law_tally"] p_draw) : FnOk P w K mg base CX0 4 f fd ["_law_hand_here"] p_count := by
  refine ok0 F sc_l_count (fun _ _ _ _ h => by obtain ⟨a, l, rfl, _⟩ := h; rfl) fun cdv A outer s H vs Q E hr h => ?_
  obtain ⟨a, c, rfl, hh, q⟩ := h
  refine ⟨_, (pss_cons (ps_set (i := 1) sc_l_count.nd rfl (Or.inl rfl) (pe_df d_l_draw hr (pa_cons (pv 0) (pa_cons pe_int pa_nil))))
    (pss_cons (ps_if (pt_cmpR op_lt (pv 1) pe_int (nomark _))
      (pss_one (ps_ret (pe_op op_add pe_int (pe_df d_l_draw hr (pa_cons (pv 0) (pa_cons (pe_ix ix_list (pe_lst (pa_cons pe_int (pa_cons pe_int (pa_cons pe_int (pa_cons pe_int pa_nil))))) (pv 1) (fun _ _ => rfl)) pa_nil))))))
      pss_nil)
    (pss_cons (ps_if (pt_cmpR op_eq (pv 1) pe_int (nomark _))
      (pss_one (ps_ret (pe_op op_add pe_int (pe_df d_l_draw hr (pa_cons (pv 0) (pa_cons pe_int pa_nil))))))
      pss_nil)
    (pss_one (ps_ret (pe_ix ix_list (pe_lst (pa_cons (pe_op op_pow pe_int pe_int) (pa_cons (pe_op op_add pe_int (pe_df d_l_draw hr (pa_cons (pv 0) (pa_cons (pe_op op_pow pe_int pe_int) pa_nil)))) pa_nil))) (pe_df d_l_draw hr (pa_cons (pv 0) (pa_cons pe_int pa_nil))) (fun _ _ => rfl))))))), ?_⟩
  refine ⟨.ref a, rfl, a, c, 6, rfl, hh, by decide, by decide, fun H1 r k1 hh1 r0 r1 => ?_⟩
  have r5 : r = 0 ∨ r = 1 ∨ r = 2 ∨ r = 3 ∨ r = 4 ∨ r = 5 := by omega
  by_cases h4 : r < 4
  · refine ⟨.int r, rfl, r, 4, rfl, rfl, true, bl_t h4, ?_⟩
    refine ⟨.ref a, rfl, by show 4 ≤ sizeLine; decide, fun l nl => ?_⟩
    obtain ⟨z, hz, hz1, hz2⟩ : ∃ z : Int, ([V.int 1, V.int 1, V.int 3, V.int 3] : List V)[r.toNat]? = some (.int z) ∧ 1 ≤ z ∧ z ≤ 3 := by
      rcases r5 with rfl | rfl | rfl | rfl | rfl | rfl
      · exact ⟨1, rfl, by decide, by decide⟩
      · exact ⟨1, rfl, by decide, by decide⟩
      · exact ⟨3, rfl, by decide, by decide⟩
      · exact ⟨3, rfl, by decide, by decide⟩
      · omega
      · omega
    obtain ⟨n, rfl⟩ : ∃ n : Nat, r = n := ⟨r.toNat, by omega⟩
    refine ⟨.int n, rfl, l, _, n, .int z, rfl, rfl, SqL.of upd_same, atI_nat hz, a, c, z, rfl, hh1.new nl, hz1, by omega, fun H2 r2 k2 hh2 r20 r21 => ⟨1, r2, rfl, rfl, ?_⟩⟩
    exact q _ _ (Kp.trans (Kp.new k1 nl) k2) hh2 (by omega) (by
      have : (3 : Int) ≤ 10 ^ 21 := by decide
      omega)
  refine ⟨.int r, rfl, r, 4, rfl, rfl, false, bl_f h4, ?_⟩
  by_cases e4 : r = 4
  · refine ⟨.int r, rfl, rfl, true, by rw [e4]; rfl, ?_⟩
    refine ⟨.ref a, rfl, a, c, 60, rfl, hh1, by decide, by decide, fun H2 r2 k2 hh2 r20 r21 => ⟨1, r2, rfl, rfl, ?_⟩⟩
    exact q _ _ (Kp.trans k1 k2) hh2 (by omega) (by
      have : (60 : Int) ≤ 10 ^ 21 := by decide
      omega)
  · refine ⟨.int r, rfl, rfl, false, bl_f (fun e => e4 (V.int.inj e)), ?_⟩
    refine ⟨10, 21, rfl, rfl, ⟨by decide, by decide, by decide⟩, ?_⟩
    refine ⟨.ref a, rfl, 10, 21, rfl, rfl, ⟨by decide, by decide, by decide⟩, a, c, _, rfl, hh1, by decide, by decide, fun H2 r2 k2 hh2 r20 r21 => ⟨1, r2, rfl, rfl, two_sz, fun l nl => ?_⟩⟩
    refine ⟨.ref a, rfl, a, c, 2, rfl, hh2.new nl, by decide, by decide, fun H3 r3 k3 hh3 r30 r31 => ?_⟩
    have nla : l ≠ a := (hh2.away nl).1
    have hl3 := k3 _ _ upd_same (fun m => nla (List.mem_singleton.mp m))
    have kk := Kp.trans (Kp.new (Kp.trans k1 k2) nl) k3
    have e21 : ((10 : Int) ^ (21 : Int).toNat) = 10 ^ 21 := rfl
    have h21 : (1 : Int) ≤ 10 ^ 21 := by decide
    have r3c : r3 = 0 ∨ r3 = 1 := by omega
    rcases r3c with rfl | rfl
    · exact ⟨l, _, 0, _, rfl, rfl, SqL.of hl3, rfl, q _ _ kk hh3 h21 (Int.le_refl _)⟩
    · exact ⟨l, _, 1, _, rfl, rfl, SqL.of hl3, rfl, q _ _ kk hh3 (by omega) (by rw [e21] at r21; omega)⟩
end
end Ep

set_option Elab.async false
set_option linter.all false
set_option maxRecDepth 100000
set_option maxHeartbeats 4000000
/-! ## the law: table, spent, between -/
namespace Ep
open PySem PySem.Spec PyProof.Rows L2
theorem inV_strs {x : Str} {R : List Str} : inV (.str x) (R.map V.str) = inR R x := by
  unfold inV inR
  rw [List.any_map]
  have : ∀ R : List Str, (R.any ((fun y => eqV y (V.str x)) ∘ V.str)) = decide (x ∈ R) := fun R => by
    induction R with
    | nil => simp
    | cons y R ih =>
      rw [List.any_cons, ih]
      show ((y == x) || decide (x ∈ R)) = _
      by_cases h : y = x
      · subst h; simp
      · have h2 : ¬ x = y := fun e => h e.symm
        simp [h, h2]
  exact this R
theorem flat_strs (R : List Str) : (R.map V.str).all flatV = true := by
  rw [List.all_map]
  exact List.all_eq_true.mpr fun _ _ => rfl
section
variable {P : Program} {w : World} {K : PySem.W.Frag} {mg : Str → Option Value} {base : Heap} {f : Addr} {fd : FuncData}
def p_table : Sp := fun vs H Q _ => ∃ l rs, vs = [.ref l] ∧ RunsAt H l rs ∧ rs.length ≤ 1000 ∧ ∀ H' d, Same H H' → H d = none → H' d = some (dP (tabL rs) (totL rs)) → Q (.ref d) H'
abbrev s_l_table : Stmt := top 58
abbrev N_l_table : List Str := ["_law_items", "_law_found", "_law_one", "_law_other", "_law_many", "_law_pair"]
theorem sc_l_table : FnScope N_l_table ["_law_items"] (defScope s_l_table) := ⟨rfl, rfl, rfl, by decide +kernel, rfl, by decide +kernel, by decide +kernel⟩
theorem ok_l_table (F : FnP K "_law_table" "_law_table" s_l_table f fd) (T : Txt K mg) : FnOk P w K mg base CX0 1 f fd ["_law_items"] p_table := by
  refine ok0 F sc_l_table (fun _ _ _ _ h => by obtain ⟨a, l, rfl, _⟩ := h; rfl) fun cdv A outer s H vs Q E hr h => ?_
  obtain ⟨l, rs, rfl, ⟨ts, hl, hts⟩, hlen, q⟩ := h
  have hu := hu_of hr
  refine ⟨_, (pss_cons (ps_set (i := 1) sc_l_table.nd rfl (Or.inl rfl) pe_dnewT)
    (pss_cons (ps_for PassesOwn.never rfl (pi_list (pv 0)) (pg_tup rfl (pgs_cons (pg_name (i := 2) sc_l_table.nd rfl (Or.inl rfl)) (pgs_cons (pg_name (i := 3) sc_l_table.nd rfl (Or.inl rfl)) (pgs_cons (pg_name (i := 4) sc_l_table.nd rfl (Or.inl rfl)) pgs_nil))))
      (pss_cons (ps_set (i := 5) sc_l_table.nd rfl (Or.inl rfl) (pe_tup (pa_cons (pe_callB (call_min2S rfl) (by rfl) T.min bt_min (pa_cons (pv 2) (pa_cons (pv 3) pa_nil))) (pa_cons (pe_callB (call_max2S rfl) (by rfl) T.max bt_max (pa_cons (pv 2) (pa_cons (pv 3) pa_nil))) pa_nil))))
      (pss_one (ps_dput hu (pv 1) (pv 5) (pe_op op_add (pe_dget2 hu (pv 1) (pv 5) pe_int ⟨rfl, rfl, rfl, rfl⟩) (pv 4)) rfl))))
    (pss_one (ps_ret (pv 1))))), ?_⟩
  intro d nd
  have hlt : ts.length = rs.length := Paired.length hts
  refine ⟨.ref l, rfl, l, rfl, ⟨_, SqL.of (new_get nd hl)⟩, ?_⟩
  refine for_it (walk_list (xs := ts.map V.ref)) (fun i σ H' => (∃ x2 x3 x4 x5, σ = [some (.ref l), some (.ref d), x2, x3, x4, x5]) ∧ Same H H' ∧ H' d = some (dP (tabL (rs.take i)) (totL (rs.take i)))) ?_ ?_ ?_ ?_
  · exact ⟨⟨_, _, _, _, rfl⟩, Same.new Same.rfl nd, upd_same⟩
  · rintro i σ H1 _ ⟨_, k, _⟩
    exact SqL.of (k _ _ hl)
  · rintro i v σ H1 H2 hi ⟨⟨x2, x3, x4, x5, rfl⟩, k, hd⟩ ⟨rfl, hv⟩
    obtain ⟨ti, hti, rfl⟩ := map_ref_get hv
    obtain ⟨⟨y1, y2, m⟩, hri, hrun⟩ := L2.paired_get hts hti
    refine ⟨ti, [.str y1, .str y2, .int m], rfl, SqT.of (k _ _ hrun), rfl, _, _, rfl, _, _, rfl, _, _, rfl, rfl, ?_⟩
    refine ⟨.str y1, rfl, .str y2, rfl, y1, y2, rfl, .str y1, rfl, .str y2, rfl, y1, y2, rfl, two_sz, fun p np => ?_⟩
    have k6 : Same H (upd H2 p (.tup [.str (mn y1 y2), .str (mx y1 y2)])) := Same.new k np
    have hd6 := new_get (u := .tup [.str (mn y1 y2), .str (mx y1 y2)]) np hd
    have tw : TwoAt (upd H2 p (.tup [.str (mn y1 y2), .str (mx y1 y2)])) p (kPr (y1, y2, m)) := upd_same
    obtain ⟨o, hg, ho⟩ := dP_getD hd6 tw
    have hp2 := dP_add (r := (y1, y2, m)) hd6 tw (lt_sz (by rw [List.length_take]; omega))
    rw [← take_snoc hri] at hp2
    exact ⟨.ref d, rfl, d, rfl, isD_P hd6, .ref p, rfl, o, hg, .int m, rfl, totL (rs.take i) (kPr (y1, y2, m)), m, ho, rfl, .ref d, rfl, .ref p, rfl, d, _, rfl, hp2, ⟨_, _, _, _, rfl⟩, Same.wrN k6 nd, upd_same⟩
  · rintro σ H1 ⟨⟨x2, x3, x4, x5, rfl⟩, k, hd⟩
    rw [List.take_of_length_le (by rw [List.length_map]; omega)] at hd
    exact ⟨_, rfl, q _ d k nd hd⟩
def p_lspent : Sp := fun vs H Q _ => ∃ l0 l ns rs, vs = [.ref l0, .ref l] ∧ H l0 = some (.lst (ns.map V.str)) ∧ ns.Nodup ∧ ns.length ≤ 24 ∧ RunsAt H l rs ∧ rs.length ≤ 1000 ∧ (∀ r ∈ rs, r.1 ∈ ns) ∧ ∀ H' d, Same H H' → H d = none → H' d = some (dI ns (spentR rs)) → Q (.ref d) H'
abbrev s_l_spent : Stmt := top 59
abbrev N_l_spent : List Str := ["_law_names_here", "_law_payments", "_law_found", "_law_payer", "_law_other", "_law_times", "_law_name"]
theorem sc_l_spent : FnScope N_l_spent ["_law_names_here", "_law_payments"] (defScope s_l_spent) := ⟨rfl, rfl, rfl, by decide +kernel, rfl, by decide +kernel, by decide +kernel⟩
theorem ok_l_spent (F : FnP K "_law_spent" "_law_spent" s_l_spent f fd) (T : Txt K mg) : FnOk P w K mg base CX0 1 f fd ["_law_names_here", "_law_payments"] p_lspent := by
  refine ok0 F sc_l_spent (fun _ _ _ _ h => by obtain ⟨a, l, x, y, rfl, _⟩ := h; rfl) fun cdv A outer s H vs Q E hr h => ?_
  obtain ⟨l0, l, ns, rs, rfl, hl0, nd, hns, ⟨ts, hl, hts⟩, hlen, hin, q⟩ := h
  have hu := hu_of hr
  refine ⟨_, (pss_cons (ps_set (i := 2) sc_l_spent.nd rfl (Or.inl rfl) (pe_callTy (call_dictP rfl) (by rfl) T.dict bt_dict (pa_cons (pe_lc (own := [("_law_name", 6)]) (g := gName 6) (tt := tYes) rfl sc_l_spent.nd (pi_list (pv 0)) (blkOk_by (own := [("_law_name", 6)]) (N := N_l_spent) (sc := defScope s_l_spent) (by decide +kernel)) (fun _ _ _ _ _ => (pg_name (i := 6) sc_l_spent.nd rfl (Or.inl rfl))) (fun _ _ _ _ _ => pts_nil) (fun _ _ _ _ _ => (pe_tup (pa_cons (pv 6) (pa_cons pe_int pa_nil))))) pa_nil)))
    (pss_cons (ps_for PassesOwn.never rfl (pi_list (pv 1)) (pg_tup rfl (pgs_cons (pg_name (i := 3) sc_l_spent.nd rfl (Or.inl rfl)) (pgs_cons (pg_name (i := 4) sc_l_spent.nd rfl (Or.inl rfl)) (pgs_cons (pg_name (i := 5) sc_l_spent.nd rfl (Or.inl rfl)) pgs_nil))))
      (pss_one (ps_daug hu (pv 2) (pv 3) (pv 5) in_add (fun _ _ _ => rfl))))
    (pss_one (ps_ret (pv 2))))), ?_⟩
  have hlt : ts.length = rs.length := Paired.length hts
  refine ⟨.ref l0, rfl, l0, rfl, ⟨_, SqL.of hl0⟩, fun D nD => ?_⟩
  refine lc_it (walk_list (xs := ns.map V.str)) (fun i H' => Same H H' ∧ ∃ us : List Addr, H' D = some (.lst (us.map V.ref)) ∧ Paired (fun u x => H' u = some (.tup (cE (fun _ => 0) x))) us (ns.take i)) ?_ ?_ ?_ ?_
  · exact ⟨Same.new Same.rfl nD, [], upd_same, .nil⟩
  · rintro i H1 _ ⟨k, _⟩
    exact SqL.of (k _ _ hl0)
  · rintro i v H1 H2 hi ⟨k, us, hD, hus⟩ ⟨rfl, hv⟩
    obtain ⟨x, hx, rfl⟩ := map_str_get hv
    refine ⟨rfl, .str x, rfl, two_sz, fun u nu => ?_⟩
    obtain ⟨g1, g2, g3⟩ := grow (c := cE fun _ => 0) x hD hus nu
    refine ⟨_, g1, ?_, Same.wrN (Same.new k nu) nD, us ++ [u], g2, by rw [take_snoc hx]; exact g3⟩
    rw [List.length_map]
    have := Paired.length hus
    rw [List.length_take] at this
    exact lt_sz (by omega)
  rintro H1 ⟨k, us, hD, hus⟩
  rw [List.take_of_length_le (by rw [List.length_map]; exact Nat.le_refl _)] at hus
  refine ⟨D, us, mkT kS ns fun x => .int 0, rfl, SqL.of hD, ents_pairs hus, fun d nd1 => ?_⟩
  rw [merge_nil nd]
  have nd0 : H d = none := none_of k nd1
  have k2 : Same H (upd H1 d (dI ns fun _ => 0)) := Same.new k nd1
  refine ⟨.ref l, rfl, l, rfl, ⟨_, SqL.of (k2 _ _ hl)⟩, ?_⟩
  refine for_it (walk_list (xs := ts.map V.ref)) (fun i σ H' => (∃ x3 x4 x5 x6, σ = [some (.ref l0), some (.ref l), some (.ref d), x3, x4, x5, x6]) ∧ Same H H' ∧ H' d = some (dI ns (spentR (rs.take i)))) ?_ ?_ ?_ ?_
  · exact ⟨⟨_, _, _, _, rfl⟩, k2, upd_same⟩
  · rintro i σ H2 _ ⟨_, k, _⟩
    exact SqL.of (k _ _ hl)
  · rintro i v σ H2 H3 hi ⟨⟨x3, x4, x5, x6, rfl⟩, k, hd⟩ ⟨rfl, hv⟩
    obtain ⟨z, hzi, rfl⟩ := map_ref_get hv
    obtain ⟨⟨y1, y2, m⟩, hri, hrun⟩ := L2.paired_get hts hzi
    have hy1 : y1 ∈ ns := hin _ (List.mem_of_getElem? hri)
    refine ⟨z, [.str y1, .str y2, .int m], rfl, SqT.of (k _ _ hrun), rfl, _, _, rfl, _, _, rfl, _, _, rfl, rfl, ?_⟩
    have hp := dI_put (n := spentR (rs.take i) y1 + m) hd hy1 (lt_sz (by omega))
    rw [← spentR_snoc (r := (y1, y2, m)), ← take_snoc hri] at hp
    exact ⟨.ref d, rfl, .str y1, rfl, d, _, rfl, dN_get hd hy1, .int m, rfl, _, m, rfl, rfl, _, hp, ⟨_, _, _, _, rfl⟩, Same.wrN k nd0, upd_same⟩
  · rintro σ H2 ⟨⟨x3, x4, x5, x6, rfl⟩, k, hd⟩
    rw [List.take_of_length_le (by rw [List.length_map]; omega)] at hd
    exact ⟨_, rfl, q _ d k nd0 hd⟩
def p_between : Sp := fun vs H Q _ => ∃ d l ps T' R, vs = [.ref d, .ref l] ∧ H d = some (dP ps T') ∧ ps.length ≤ 1000 ∧ H l = some (.lst (R.map V.str)) ∧ ∀ H', Same H H' → Q (.int (eT ps T' (inR R))) H'
abbrev s_l_between : Stmt := top 60
abbrev N_l_between : List Str := ["_law_table_here", "_law_some", "_law_many", "_law_one", "_law_other"]
theorem sc_l_between : FnScope N_l_between ["_law_table_here", "_law_some"] (defScope s_l_between) := ⟨rfl, rfl, rfl, by decide +kernel, rfl, by decide +kernel, by decide +kernel⟩
theorem ok_l_between (F : FnP K "_law_between" "_law_between" s_l_between f fd) (T : Txt K mg) : FnOk P w K mg base CX0 1 f fd ["_law_table_here", "_law_some"] p_between := by
  refine ok0 F sc_l_between (fun _ _ _ _ h => by obtain ⟨a, l, x, y, z, rfl, _⟩ := h; rfl) fun cdv A outer s H vs Q E hr h => ?_
  obtain ⟨d, l, ps, T', R, rfl, hd, hlen, hl, q⟩ := h
  have hu := hu_of hr
  refine ⟨_, (pss_one (ps_ret (pe_callB (cr_sum rfl) (by rfl) T.sum bt_sum (pa_cons (pe_lock (pe_lc (own := [("_law_many", 2), ("_law_one", 3), ("_law_other", 4)]) (g := gTup K 2 (gCons (gTup K 2 (gCons (gName 3) (gCons (gName 4) gNil))) (gCons (gName 2) gNil))) rfl sc_l_between.nd (pi_itemsT (pv 0)) (blkOk_by (own := [("_law_many", 2), ("_law_one", 3), ("_law_other", 4)]) (N := N_l_between) (sc := defScope s_l_between) (by decide +kernel)) (fun _ _ _ _ _ => (pg_tup rfl (pgs_cons (pg_tup rfl (pgs_cons (pg_name (i := 3) sc_l_between.nd rfl (Or.inl rfl)) (pgs_cons (pg_name (i := 4) sc_l_between.nd rfl (Or.inl rfl)) pgs_nil))) (pgs_cons (pg_name (i := 2) sc_l_between.nd rfl (Or.inl rfl)) pgs_nil)))) (fun _ _ _ _ _ => pts_one (PW.pt (pw_and (pt_cmpR (r := rIn K false) op_in_seq (pv 3) (pv 1) (by rfl)) (pw_and1 (pt_cmpR (r := rIn K false) op_in_seq (pv 4) (pv 1) (by rfl)))))) (fun _ _ _ _ _ => (pv 2)))) pa_nil)))), ?_⟩
  refine ⟨d, _, hd, trivial, fun od => ?_⟩
  refine ⟨.ref d, rfl, d, od, _, rfl, upd_same, fun D nD => ?_⟩
  have nD0 : H D = none := by rw [upd_ne (fun z => by rw [z, upd_same] at nD; cases nD)] at nD; exact nD
  have hdz : upd H d (.frz od (dP ps T')) d = some (.frz od (dP ps T')) := upd_same
  have ndl : l ≠ d := fun z => by rw [z, hd] at hl; cases hl
  have hlz : upd H d (.frz od (dP ps T')) l = some (.lst (R.map V.str)) := by rw [upd_ne ndl]; exact hl
  refine lc_it walk_itemsT (fun i H' => Same (upd H d (.frz od (dP ps T'))) H' ∧ H' D = some (.lst ((((ps.take i).filter fun p => inR R p.1 && inR R p.2).map T').map V.int))) ?_ ?_ ?_ ?_
  · exact ⟨Same.new Same.rfl nD, upd_same⟩
  · rintro i H1 _ ⟨k, _⟩
    exact k _ _ hdz
  · rintro i v H1 H2 hi ⟨k, hD⟩ ⟨t, key, v2, b, hkv, rfl, nt, hb, rfl⟩
    unfold mkT at hkv
    rw [List.getElem?_map] at hkv
    cases e : ps[i]? with
    | none => rw [e] at hkv; cases hkv
    | some p =>
      rw [e] at hkv
      have h2 := Option.some.inj hkv
      have e1 : kP p = key := congrArg Prod.fst h2
      have e2 : V.int (T' p) = v2 := congrArg Prod.snd h2
      subst e1 e2
      have kt : Same (upd H d (.frz od (dP ps T'))) (upd H1 t (.tup [.ref b, .int (T' p)])) := Same.new k nt
      have hbt := new_get (u := .tup [.ref b, .int (T' p)]) nt hb
      have hDt := new_get (u := .tup [.ref b, .int (T' p)]) nt hD
      refine ⟨t, [.ref b, .int (T' p)], rfl, SqT.of upd_same, rfl, .ref b, [.int (T' p)], rfl, ⟨b, [.str p.1, .str p.2], rfl, SqT.of hbt, rfl, _, _, rfl, _, _, rfl, rfl, _, _, rfl, rfl, ?_⟩⟩
      have fin : ∀ r : Bool, (inR R p.1 && inR R p.2) = r → (if r = true then (∃ acc, upd H1 t (.tup [.ref b, .int (T' p)]) D = some (.lst acc) ∧ acc.length < sizeLine ∧ (Same (upd H d (.frz od (dP ps T'))) (upd (upd H1 t (.tup [.ref b, .int (T' p)])) D (.lst (acc ++ [V.int (T' p)]))) ∧ upd (upd H1 t (.tup [.ref b, .int (T' p)])) D (.lst (acc ++ [V.int (T' p)])) D = some (.lst ((((ps.take (i + 1)).filter fun p => inR R p.1 && inR R p.2).map T').map V.int))))
          else (Same (upd H d (.frz od (dP ps T'))) (upd H1 t (.tup [.ref b, .int (T' p)])) ∧ upd H1 t (.tup [.ref b, .int (T' p)]) D = some (.lst ((((ps.take (i + 1)).filter fun p => inR R p.1 && inR R p.2).map T').map V.int)))) := fun r hr => by
        cases r with
        | true =>
          rw [if_pos rfl]
          refine ⟨_, hDt, ?_, Same.wrN kt nD, ?_⟩
          · rw [List.length_map, List.length_map]
            have := List.length_filter_le (fun p : Str × Str => inR R p.1 && inR R p.2) (ps.take i)
            rw [List.length_take] at this
            exact lt_sz (by omega)
          · rw [upd_same, take_snoc e, List.filter_append, List.filter_cons_of_pos (p := fun p : Str × Str => inR R p.1 && inR R p.2) hr, List.map_append, List.map_append]; rfl
        | false =>
          rw [if_neg (by decide)]
          refine ⟨kt, ?_⟩
          rw [take_snoc e, List.filter_append, List.filter_cons_of_neg (p := fun p : Str × Str => inR R p.1 && inR R p.2) (by rw [hr]; decide)]
          simpa using hDt
      refine ⟨rfl, .str p.1, rfl, .ref l, rfl, l, _, rfl, .inl (SqL.of (kt _ _ hlz)), rfl, flat_strs R, inV (.str p.1) (R.map V.str), rfl, ?_⟩
      rw [inV_strs]
      cases h1 : inR R p.1 with
      | false => exact fin false (by rw [h1]; rfl)
      | true =>
        refine ⟨.str p.2, rfl, .ref l, rfl, l, _, rfl, .inl (SqL.of (kt _ _ hlz)), rfl, flat_strs R, inV (.str p.2) (R.map V.str), rfl, ?_⟩
        rw [inV_strs]
        cases h3 : inR R p.2 with
        | false => exact fin false (by rw [h1, h3]; rfl)
        | true => exact ⟨_, rfl, fin true (by rw [h1, h3]; rfl)⟩
  · rintro H1 ⟨k, hD⟩
    rw [List.take_of_length_le (by rw [length_mkT]; exact Nat.le_refl _)] at hD
    have nDd : D ≠ d := fun z => by rw [z, upd_same] at nD; cases nD
    refine ⟨k _ _ hdz, D, _, rfl, SqL.of (by rw [upd_ne nDd]; exact hD), ?_⟩
    have e : (((ps.filter fun p => inR R p.1 && inR R p.2).map T')).sum = eT ps T' (inR R) := by
      show su _ _ = _
      rw [su_filter]
      rfl
    rw [e]
    exact q _ (lock_same hd k)
end
end Ep

set_option Elab.async false
set_option linter.all false
set_option maxRecDepth 100000
set_option maxHeartbeats 4000000
/-! ## the law: purses, lot, is_names, is_run -/
namespace Ep
open PySem PySem.Spec PyProof.Rows L2
theorem paired_perm {α β : Type} {G : α → β → Prop} {us us' : List α} (p : us'.Perm us) : ∀ {ns : List β}, Paired G us ns → ∃ ys : List β, ys.Perm ns ∧ Paired G us' ys := by
  induction p with
  | nil => exact fun h => ⟨_, .refl _, h⟩
  | cons x _ ih =>
    intro ns h
    cases h with
    | cons h1 h2 =>
      obtain ⟨ys, q, g⟩ := ih h2
      exact ⟨_, q.cons _, .cons h1 g⟩
  | swap x y l =>
    intro ns h
    cases h with
    | cons h1 h2 =>
      cases h2 with
      | cons h3 h4 => exact ⟨_, .swap _ _ _, .cons h3 (.cons h1 h4)⟩
  | trans _ _ ih1 ih2 =>
    intro ns h
    obtain ⟨ys, q, g⟩ := ih2 h
    obtain ⟨zs, q2, g2⟩ := ih1 g
    exact ⟨zs, q2.trans q, g2⟩
theorem AmOk.perm {ns ys : List Str} {t : Str → Int} (h : AmOk ns t) (p : ys.Perm ns) : AmOk ys t := fun x hx => h x (p.mem_iff.mp hx)
theorem Kp.kfree {a c y : Addr} {H H' : Hp} (hh : HandAt H' a c) (k : Kp [a] H H') (n : H' y = none) : H y = none := hh.free k n
theorem HandAt.l1 {H : Hp} {a c l : Addr} {o : HO} (hh : HandAt H a c) (n : H l = none) : l ∉ [a] := fun m => (hh.away n).1 (List.mem_singleton.mp m)
section
variable {P : Program} {w : World} {K : PySem.W.Frag} {mg : Str → Option Value} {base : Heap} {f : Addr} {fd : FuncData}
def p_lpurses (K : PySem.W.Frag) : Sp := fun vs H Q _ => ∃ a c d ns t, vs = [.ref a, .ref d] ∧ HandAt H a c ∧ H d = some (dI ns t) ∧ NamesOk ns ∧ AmOk ns t ∧
  ∀ H' b (ys : List Str), Kp [a] H H' → HandAt H' a c → ys.Perm ns → H b = none → PurAt K H' b ys t → Q (.ref b) H'
abbrev s_l_purses : Stmt := top 61
abbrev N_l_purses : List Str := ["_law_hand_here", "_law_tickets", "_law_name", "_law_many"]
theorem sc_l_purses : FnScope N_l_purses ["_law_hand_here", "_law_tickets"] (defScope s_l_purses) := ⟨rfl, rfl, rfl, by decide +kernel, rfl, by decide +kernel, by decide +kernel⟩
theorem ok_l_purses (F : FnP K "_law_purses" "_law_purses" s_l_purses f fd) (T : Txt K mg) (d_l_shuffled : Df P w K mg base CX0 4 "_law_shuffled" ["_law_hand_here", "_law_some"] p_shuffled) (d_Purses : Dk P w K mg base 3 "Purses" (cP K) ["self", "items"] (p_Purses_init K)) : FnOk P w K mg base CX0 5 f fd ["_law_hand_here", "_law_tickets"] (p_lpurses K) := by
  refine ok0 F sc_l_purses (fun _ _ _ _ h => by obtain ⟨a, l, x, y, z, rfl, _⟩ := h; rfl) fun cdv A outer s H vs Q E hr h => ?_
  obtain ⟨a, c, d, ns, t, rfl, hh, hd, nok, am, q⟩ := h
  refine ⟨_, (pss_one (ps_ret (pe_dk d_Purses hr (pa_cons (pe_df d_l_shuffled hr (pa_cons (pv 0) (pa_cons (pe_lock (pe_lc (own := [("_law_name", 2), ("_law_many", 3)]) (g := gTup K 2 (gCons (gName 2) (gCons (gName 3) gNil))) (tt := tYes) rfl sc_l_purses.nd (pi_items (pv 1)) (blkOk_by (own := [("_law_name", 2), ("_law_many", 3)]) (N := N_l_purses) (sc := defScope s_l_purses) (by decide +kernel)) (fun _ _ _ _ _ => (pg_tup rfl (pgs_cons (pg_name (i := 2) sc_l_purses.nd rfl (Or.inl rfl)) (pgs_cons (pg_name (i := 3) sc_l_purses.nd rfl (Or.inl rfl)) pgs_nil)))) (fun _ _ _ _ _ => pts_nil) (fun _ _ _ _ _ => (pe_tup (pa_cons (pv 2) (pa_cons (pv 3) pa_nil)))))) pa_nil))) pa_nil)))), ?_⟩
  refine ⟨.ref a, rfl, d, _, hd, trivial, fun od => ?_⟩
  refine ⟨.ref d, rfl, d, od, _, rfl, upd_same, fun D nD => ?_⟩
  have nDd : D ≠ d := fun z => by rw [z, upd_same] at nD; cases nD
  have nD0 : H D = none := by rw [upd_ne nDd] at nD; exact nD
  have hdz : upd H d (.frz od (dI ns t)) d = some (.frz od (dI ns t)) := upd_same
  refine lc_it walk_items (fun i H' => Same (upd H d (.frz od (dI ns t))) H' ∧ ∃ us : List Addr, H' D = some (.lst (us.map V.ref)) ∧ Paired (fun u x => H' u = some (.tup (cE t x))) us (ns.take i)) ?_ ?_ ?_ ?_
  · exact ⟨Same.new Same.rfl nD, [], upd_same, .nil⟩
  · rintro i H1 _ ⟨k, _⟩
    exact k _ _ hdz
  · rintro i v H1 H2 hi ⟨k, us, hD, hus⟩ ⟨u0, x0, y0, rfl, nu0, rfl, hx0, hy0⟩
    obtain ⟨⟨key, v2⟩, hkv⟩ : ∃ kv, (mkT kS ns fun x => V.int (t x))[i]? = some kv := ⟨_, List.getElem?_eq_getElem hi⟩
    dsimp only at hx0 hy0
    rw [hkv] at hx0 hy0
    obtain ⟨x, hx, rfl, rfl⟩ := nm_at hkv
    cases hx0
    cases hy0
    have k0 : Same (upd H d (.frz od (dI ns t))) (upd H1 u0 (.tup [kV (kS x), .int (t x)])) := Same.new k nu0
    refine ⟨u0, [kV (kS x), .int (t x)], rfl, SqT.of upd_same, rfl, _, _, rfl, _, _, rfl, rfl, rfl, _, rfl, _, rfl, two_sz, fun u nu => ?_⟩
    have hus0 : Paired (fun u x => upd H1 u0 (.tup [kV (kS x), .int (t x)]) u = some (.tup (cE t x))) us (ns.take i) ∨ True := .inr trivial
    obtain ⟨g1, g2, g3⟩ := grow (c := cE t) x (new_get (u := .tup [kV (kS x), .int (t x)]) nu0 hD) (Paired.mapP hus fun u y z => new_get (u := .tup [kV (kS x), .int (t x)]) nu0 z) nu
    refine ⟨_, g1, ?_, Same.wrN (Same.new k0 nu) nD, us ++ [u], g2, by rw [take_snoc hx]; exact g3⟩
    rw [List.length_map]
    have := Paired.length hus
    rw [List.length_take] at this
    have := nok.len
    exact lt_sz (by omega)
  · rintro H1 ⟨k, us, hD, hus⟩
    rw [List.take_of_length_le (by rw [length_mkT]; exact Nat.le_refl _)] at hus
    have kk := lock_same hd k
    have hh1 : HandAt (upd H1 d (dI ns t)) a c := hh.same kk
    have hlu : us.length = ns.length := Paired.length hus
    refine ⟨k _ _ hdz, a, c, D, us, rfl, hh1, by rw [upd_ne nDd]; exact hD, (hh.away nD0).1, fun u hu => ?_, by have := nok.len; omega, fun H2 b us' k2 hh2 pm nb hb => ?_⟩
    · obtain ⟨i, hi⟩ := List.mem_iff_getElem?.mp hu
      obtain ⟨x, _, hux⟩ := L2.paired_get hus hi
      refine ⟨cE t x, ?_, fun y hy => ?_⟩
      · rw [upd_ne (fun z => by rw [z, k _ _ hdz] at hux; cases hux)]; exact hux
      · rcases List.mem_cons.mp hy with e | e
        · exact .inl ⟨_, e⟩
        · exact .inr ⟨_, List.mem_singleton.mp e⟩
    obtain ⟨ys, pmy, hys⟩ := paired_perm pm hus
    intro x dx nx ndx nex
    have nb0 : H b = none := none_of kk nb
    have kk2 : Kp [a] H H2 := Kp.trans (Same.kp kk) k2
    have e2 : ∀ {u : Addr} {xs : List V}, H1 u = some (.tup xs) → H2 u = some (.tup xs) := fun {u xs} z => by
      have z1 : upd H1 d (dI ns t) u = some (.tup xs) := by rw [upd_ne (fun e => by rw [e, k _ _ hdz] at z; cases z)]; exact z
      exact k2 _ _ z1 (hh1.nmem z1 fun _ e => by cases e)
    have up2 : ∀ {u : Addr} {o : HO}, H2 u = some o → upd (upd H2 dx (.own x)) x (.ins (cP K) dx []) u = some o := fun {u o} z => by rw [upd_ne (ne_of_none z nx), upd_ne (ne_of_none z ndx)]; exact z
    refine ⟨x, b, dx, ys, t, rfl, upd_same, ⟨us', up2 hb, Paired.mapP hys fun u y z => up2 (e2 z)⟩, nok.perm pmy, am.perm pmy, fun H3 d2 k3 h1 h2 n2 => ⟨rfl, ?_⟩⟩
    have k4 : Same H2 H3 := mk_same nx ndx k3
    exact q _ x ys (Kp.trans kk2 (Same.kp k4)) (hh2.same k4) pmy (hh2.free kk2 nx) ⟨dx, d2, h1, h2⟩
def turn (r : Run) : Run := (r.2.1, r.1, r.2.2)
def Tw (r r' : Run) : Prop := r' = r ∨ r' = turn r
def p_llot (K : PySem.W.Frag) : Sp := fun vs H Q _ => ∃ a c l rs, vs = [.ref a, .ref l] ∧ HandAt H a c ∧ RunsAt H l rs ∧ l ≠ a ∧ rs.length ≤ 500 ∧ (∀ r ∈ rs, RunOk r) ∧ (∀ p, totL rs p ≤ 10 ^ 24) ∧
  ∀ H' b (rs' : List Run), Kp [a] H H' → HandAt H' a c → totL rs' = totL rs → (∀ p, p ∈ tabL rs' ↔ p ∈ tabL rs) → rs'.length = rs.length → H b = none → LotAt K H' b (tabL rs') (totL rs') → Q (.ref b) H'
abbrev s_l_lot : Stmt := top 62
abbrev N_l_lot : List Str := ["_law_hand_here", "_law_items", "_law_turned", "_law_one", "_law_other", "_law_many"]
theorem sc_l_lot : FnScope N_l_lot ["_law_hand_here", "_law_items"] (defScope s_l_lot) := ⟨rfl, rfl, rfl, by decide +kernel, rfl, by decide +kernel, by decide +kernel⟩
theorem turn_ok {r r' : Run} (h : Tw r r') (o : RunOk r) : RunOk r' ∧ kPr r' = kPr r ∧ r'.2.2 = r.2.2 := by
  rcases h with rfl | rfl
  · exact ⟨o, rfl, rfl⟩
  · exact ⟨⟨o.n2, o.n1, fun e => o.ne e.symm, o.lo, o.hi⟩, (pr_comm o.ne).symm, rfl⟩
theorem turned_facts {rs rs2 : List Run} (h : Paired Tw rs rs2) (ok : ∀ r ∈ rs, RunOk r) : (∀ r ∈ rs2, RunOk r) ∧ (∀ p, (∃ r ∈ rs2, kPr r = p) ↔ ∃ r ∈ rs, kPr r = p) ∧ ∀ p, totL rs2 p = totL rs p := by
  induction h with
  | nil => exact ⟨fun r h => absurd h List.not_mem_nil, fun p => Iff.rfl, fun p => rfl⟩
  | @cons r r' rs rs2 h1 h2 ih =>
    obtain ⟨g1, g2, g3⟩ := ih fun z hz => ok z (List.mem_cons_of_mem _ hz)
    obtain ⟨o, e1, e2⟩ := turn_ok h1 (ok _ List.mem_cons_self)
    refine ⟨fun z hz => ?_, fun p => ?_, fun p => ?_⟩
    · rcases List.mem_cons.mp hz with e | e
      · rw [e]; exact o
      · exact g1 z e
    · simp only [List.mem_cons, exists_eq_or_imp, e1, g2 p]
    · show su _ _ = su _ _
      rw [su_cons, su_cons, e1, e2]
      have := g3 p
      unfold totL totK at this
      rw [this]
theorem perm_facts {rs rs2 : List Run} (h : rs2.Perm rs) : totL rs2 = totL rs ∧ (∀ p, p ∈ tabL rs2 ↔ p ∈ tabL rs) := by
  refine ⟨?_, fun p => ?_⟩
  · funext p
    exact su_perm _ h
  · rw [mem_tabK, mem_tabK]
    exact ⟨fun ⟨r, h1, h2⟩ => ⟨r, h.mem_iff.mp h1, h2⟩, fun ⟨r, h1, h2⟩ => ⟨r, h.mem_iff.mpr h1, h2⟩⟩
theorem ok_l_lot (F : FnP K "_law_lot" "_law_lot" s_l_lot f fd) (T : Txt K mg) (d_l_shuffled : Df P w K mg base CX0 4 "_law_shuffled" ["_law_hand_here", "_law_some"] p_shuffled) (d_l_draw : Df P w K mg base CX0 3 "_law_draw" ["_law_hand_here", "_law_tally"] p_draw) (d_Lot : Dk P w K mg base 4 "Lot" (cL K) ["self", "items"] (p_Lot_init K)) : FnOk P w K mg base CX0 6 f fd ["_law_hand_here", "_law_items"] (p_llot K) := by
  refine ok0 F sc_l_lot (fun _ _ _ _ h => by obtain ⟨a, l, x, y, rfl, _⟩ := h; rfl) fun cdv A outer s H vs Q E hr h => ?_
  obtain ⟨a, c, l, rs, rfl, hh, ⟨ts, hl, hts⟩, nla, hlen, ok, hle, q⟩ := h
  refine ⟨_, (pss_cons (ps_setLc (i := 2) (own := [("_law_one", 3), ("_law_other", 4), ("_law_many", 5)]) (g := gTup K 3 (gCons (gName 3) (gCons (gName 4) (gCons (gName 5) gNil)))) (tt := tYes) rfl sc_l_lot.nd rfl rfl (sw_true rfl rfl rfl (by decide +kernel)) (pi_list (pv 1)) (blkOk_by (own := [("_law_one", 3), ("_law_other", 4), ("_law_many", 5)]) (N := N_l_lot) (sc := defScope s_l_lot) (by decide +kernel)) (fun _ _ _ _ _ => (pg_tup rfl (pgs_cons (pg_name (i := 3) sc_l_lot.nd rfl (Or.inl rfl)) (pgs_cons (pg_name (i := 4) sc_l_lot.nd rfl (Or.inl rfl)) (pgs_cons (pg_name (i := 5) sc_l_lot.nd rfl (Or.inl rfl)) pgs_nil))))) (fun _ _ _ _ _ => pts_nil) (fun _ _ _ _ _ => (pe_ix (r := rIxL K) ix_list (pe_lst (pa_cons (pe_tup (pa_cons (pv 3) (pa_cons (pv 4) (pa_cons (pv 5) pa_nil)))) (pa_cons (pe_tup (pa_cons (pv 4) (pa_cons (pv 3) (pa_cons (pv 5) pa_nil)))) pa_nil))) (pe_df d_l_draw hr (pa_cons (pv 0) (pa_cons pe_int pa_nil))) (fun _ _ => rfl))))
    (pss_one (ps_ret (pe_dk d_Lot hr (pa_cons (pe_df d_l_shuffled hr (pa_cons (pv 0) (pa_cons (pv 2) pa_nil))) pa_nil))))), ?_⟩
  have hlt : ts.length = rs.length := Paired.length hts
  refine ⟨.ref l, rfl, l, rfl, ⟨_, SqL.of hl⟩, fun D nD => ?_⟩
  have nDa : D ≠ a := (hh.away nD).1
  refine lc_it (walk_list (xs := ts.map V.ref)) (fun i H' => Kp [a] H H' ∧ HandAt H' a c ∧ ∃ (us : List Addr) (rs2 : List Run), H' D = some (.lst (us.map V.ref)) ∧ Paired (fun u r => RunAt H' u r) us rs2 ∧ Paired Tw (rs.take i) rs2) ?_ ?_ ?_ ?_
  · exact ⟨Kp.new Kp.refl nD, hh.new nD, [], [], upd_same, .nil, .nil⟩
  · rintro i H1 _ ⟨k, _⟩
    exact SqL.of (k _ _ hl fun m => nla (List.mem_singleton.mp m))
  · rintro i v H1 H2 hi ⟨k, hh1, us, rs2, hD, hus, htw⟩ ⟨rfl, hv⟩
    obtain ⟨ti, hti, rfl⟩ := map_ref_get hv
    obtain ⟨⟨y1, y2, m⟩, hri, hrun⟩ := L2.paired_get hts hti
    have hrun2 := k _ _ hrun (hh.nmem hrun fun _ e => by cases e)
    refine ⟨ti, [.str y1, .str y2, .int m], rfl, SqT.of hrun2, rfl, _, _, rfl, _, _, rfl, _, _, rfl, rfl, rfl, ?_⟩
    refine ⟨.str y1, rfl, .str y2, rfl, .int m, rfl, by show 3 ≤ sizeLine; decide, fun p1 n1 => ?_⟩
    have k1 : Kp [a] H (upd H2 p1 (.tup [.str y1, .str y2, .int m])) := Kp.new k n1
    have hh2 := hh1.new (o := .tup [.str y1, .str y2, .int m]) n1
    have hD1 := new_get (u := .tup [.str y1, .str y2, .int m]) n1 hD
    have hus1 : Paired (fun u r => RunAt (upd H2 p1 (.tup [.str y1, .str y2, .int m])) u r) us rs2 := Paired.mapP hus fun u r z => new_get n1 z
    have hp1 : RunAt (upd H2 p1 (.tup [.str y1, .str y2, .int m])) p1 (y1, y2, m) := upd_same
    generalize upd H2 p1 (.tup [.str y1, .str y2, .int m]) = H3 at k1 hh2 hD1 hus1 hp1 ⊢
    refine ⟨.str y2, rfl, .str y1, rfl, .int m, rfl, by show 3 ≤ sizeLine; decide, fun p2 n2 => ?_⟩
    have k2 : Kp [a] H (upd H3 p2 (.tup [.str y2, .str y1, .int m])) := Kp.new k1 n2
    have hh3 := hh2.new (o := .tup [.str y2, .str y1, .int m]) n2
    have hD2 := new_get (u := .tup [.str y2, .str y1, .int m]) n2 hD1
    have hus2 : Paired (fun u r => RunAt (upd H3 p2 (.tup [.str y2, .str y1, .int m])) u r) us rs2 := Paired.mapP hus1 fun u r z => new_get n2 z
    have hp2 : RunAt (upd H3 p2 (.tup [.str y2, .str y1, .int m])) p2 (turn (y1, y2, m)) := upd_same
    have hp12 : RunAt (upd H3 p2 (.tup [.str y2, .str y1, .int m])) p1 (y1, y2, m) := new_get n2 hp1
    generalize upd H3 p2 (.tup [.str y2, .str y1, .int m]) = H4 at k2 hh3 hD2 hus2 hp2 hp12 ⊢
    refine ⟨two_sz, fun z nz => ?_⟩
    have hz : upd H4 z (.lst [.ref p1, .ref p2]) z = some (.lst [.ref p1, .ref p2]) := upd_same
    have k3 : Kp [a] H (upd H4 z (.lst [.ref p1, .ref p2])) := Kp.new k2 nz
    have hh4 := hh3.new (o := .lst [.ref p1, .ref p2]) nz
    have hD3 := new_get (u := .lst [.ref p1, .ref p2]) nz hD2
    have hus3 : Paired (fun u r => RunAt (upd H4 z (.lst [.ref p1, .ref p2])) u r) us rs2 := Paired.mapP hus2 fun u r e => new_get nz e
    have hp23 : RunAt (upd H4 z (.lst [.ref p1, .ref p2])) p2 (turn (y1, y2, m)) := new_get nz hp2
    have hp13 : RunAt (upd H4 z (.lst [.ref p1, .ref p2])) p1 (y1, y2, m) := new_get nz hp12
    generalize upd H4 z (.lst [.ref p1, .ref p2]) = H5 at hz k3 hh4 hD3 hus3 hp23 hp13 ⊢
    have nza : z ∉ [a] := fun m => by
      obtain ⟨n, h2, h3, h4, h5, zs, e, _⟩ := hh4
      rw [List.mem_singleton.mp m, e] at hz
      cases hz
    refine ⟨.ref a, rfl, a, c, 2, rfl, hh4, by decide, by decide, fun H6 r k6 hh6 r0 r1 => ?_⟩
    have hz6 := k6 _ _ hz nza
    have hD6 := k6 _ _ hD3 fun e => nDa (List.mem_singleton.mp e)
    have hus6 : Paired (fun u r => RunAt H6 u r) us rs2 := Paired.mapP hus3 fun u r e => k6 _ _ e (hh4.nmem e fun _ e => by cases e)
    have hp16 : RunAt H6 p1 (y1, y2, m) := k6 _ _ hp13 (hh4.nmem hp13 fun _ e => by cases e)
    have hp26 : RunAt H6 p2 (turn (y1, y2, m)) := k6 _ _ hp23 (hh4.nmem hp23 fun _ e => by cases e)
    have fin : ∀ p r', Tw (y1, y2, m) r' → RunAt H6 p r' → ∃ acc, H6 D = some (.lst acc) ∧ acc.length < sizeLine ∧ (Kp [a] H (upd H6 D (.lst (acc ++ [.ref p]))) ∧ HandAt (upd H6 D (.lst (acc ++ [.ref p]))) a c ∧ ∃ (us : List Addr) (rs2 : List Run), upd H6 D (.lst (acc ++ [.ref p])) D = some (.lst (us.map V.ref)) ∧ Paired (fun u r => RunAt (upd H6 D (.lst (acc ++ [.ref p]))) u r) us rs2 ∧ Paired Tw (rs.take (i + 1)) rs2) := fun p r' h1 h2 => by
      have noD : ∀ {u r}, RunAt H6 u r → u ≠ D := fun {u r} e z => by rw [z] at e; rw [e] at hD6; cases hD6
      refine ⟨_, hD6, ?_, Kp.wrN (Kp.trans k3 k6) nD, hh6.wrN hh nD, us ++ [p], rs2 ++ [r'], by rw [upd_same, List.map_append]; rfl, Paired.snoc (Paired.mapP hus6 fun u r e => ?_) ?_, by rw [take_snoc hri]; exact Paired.snoc htw h1⟩
      · rw [List.length_map]
        have := Paired.length hus
        have := Paired.length htw
        rw [List.length_take] at this
        exact lt_sz (by omega)
      · show upd _ _ _ _ = _
        rw [upd_ne (noD e)]; exact e
      · show upd _ _ _ _ = _
        rw [upd_ne (noD h2)]; exact h2
    have rc : r = 0 ∨ r = 1 := by omega
    rcases rc with rfl | rfl
    · exact ⟨z, _, 0, _, rfl, rfl, SqL.of hz6, rfl, fin p1 _ (.inl rfl) hp16⟩
    · exact ⟨z, _, 1, _, rfl, rfl, SqL.of hz6, rfl, fin p2 _ (.inr rfl) hp26⟩
  · rintro H1 ⟨k, hh1, us, rs2, hD, hus, htw⟩
    rw [List.take_of_length_le (by rw [List.length_map]; omega)] at htw
    obtain ⟨g1, g2, g3⟩ := turned_facts htw ok
    have hlu : us.length = rs2.length := Paired.length hus
    have hlr : rs.length = rs2.length := Paired.length htw
    refine ⟨.ref a, rfl, .ref D, rfl, a, c, D, us, rfl, hh1, hD, nDa, fun u hu => ?_, by omega, fun H2 b us' k2 hh2 pm nb hb => ?_⟩
    · obtain ⟨i, hi⟩ := List.mem_iff_getElem?.mp hu
      obtain ⟨r, _, hur⟩ := L2.paired_get hus hi
      refine ⟨_, hur, fun y hy => ?_⟩
      rcases List.mem_cons.mp hy with e | e
      · exact .inl ⟨_, e⟩
      rcases List.mem_cons.mp e with e | e
      · exact .inl ⟨_, e⟩
      · exact .inr ⟨_, List.mem_singleton.mp e⟩
    obtain ⟨rs', pmr, hrs'⟩ := paired_perm pm hus
    obtain ⟨f1, f2⟩ := perm_facts pmr
    have eT : totL rs' = totL rs := by rw [f1]; funext p; exact g3 p
    intro x dx nx ndx nex
    have kk2 : Kp [a] H H2 := Kp.trans k k2
    have up2 : ∀ {u : Addr} {o : HO}, H2 u = some o → upd (upd H2 dx (.own x)) x (.ins (cL K) dx []) u = some o := fun {u o} z => by rw [upd_ne (ne_of_none z nx), upd_ne (ne_of_none z ndx)]; exact z
    refine ⟨x, b, dx, rs', rfl, upd_same, ⟨us', up2 hb, Paired.mapP hrs' fun u y z => up2 (k2 _ _ z (hh1.nmem z fun _ e => by cases e))⟩, by have := pmr.length_eq; omega, fun r hr => g1 r (pmr.mem_iff.mp hr), fun p => by rw [eT]; exact hle p, fun H3 d2 k3 h1 h2 n2 => ⟨rfl, ?_⟩⟩
    have k4 : Same H2 H3 := mk_same nx ndx k3
    exact q _ x rs' (Kp.trans kk2 (Same.kp k4)) (hh2.same k4) eT (fun p => by rw [f2, mem_tabK, mem_tabK]; exact g2 p) (by have := pmr.length_eq; omega) (hh2.free kk2 nx) ⟨dx, d2, h1, h2⟩
end
end Ep

set_option Elab.async false
set_option linter.all false
set_option maxRecDepth 100000
set_option maxHeartbeats 4000000
/-! ## the law: is_names, is_run, as_payments, pays -/
namespace Ep
open PySem PySem.Spec PyProof.Rows L2
def rdA : V → Addr
  | .ref a => a
  | _ => 0
theorem perm_refs {ys : List V} {us : List Addr} (p : ys.Perm (us.map V.ref)) : ∃ zs : List Addr, ys = zs.map V.ref ∧ zs.Perm us := by
  refine ⟨ys.map rdA, ?_, ?_⟩
  · have h : ∀ y ∈ ys, y = .ref (rdA y) := fun y hy => by
      obtain ⟨u, _, rfl⟩ := List.mem_map.mp (p.mem_iff.mp hy)
      rfl
    clear p
    induction ys with
    | nil => rfl
    | cons y ys ih =>
      rw [List.map_cons, List.map_cons, ← h y List.mem_cons_self, ← ih fun z hz => h z (List.mem_cons_of_mem _ hz)]
  · have q := p.map rdA
    rw [List.map_map] at q
    have e : us.map (rdA ∘ V.ref) = us := by
      have : (rdA ∘ V.ref) = id := rfl
      rw [this, List.map_id]
    rw [e] at q
    exact q
def readRn (H : Hp) (v : V) : Run := match v with
  | .ref b => (match H b with
    | some (.tup [.str x, .str y, .int m]) => (x, y, m)
    | _ => ("", "", 0))
  | _ => ("", "", 0)
theorem readRn_at {H : Hp} {b : Addr} {r : Run} (h : RunAt H b r) : readRn H (.ref b) = r := by
  unfold RunAt at h
  show (match H b with | some (.tup [.str x, .str y, .int m]) => (x, y, m) | _ => (("" : Str), ("" : Str), (0 : Int))) = r
  rw [h]
def eRn (r : Run) : PyData := .tuple [.str r.1, .str r.2.1, .int r.2.2]
theorem run_dat {K : PySem.W.Frag} {H : Hp} {b : Addr} {r : Run} (h : RunAt H b r) : Dat K H (.ref b) (eRn r) :=
  ⟨.tup (SqT.of h) (.cons (.str _) (.cons (.str _) (.cons (.int _) .nil))), rfl, by show 1 ≤ 8; decide⟩
theorem tups_runs {K : PySem.W.Frag} {H : Hp} {bs : List Addr} {rs : List Run} (h : Paired (RunAt H) bs rs) : Tups K H (bs.map V.ref) (fun v => eRn (readRn H v)) :=
  ⟨fun x hx => by
    obtain ⟨b, hb, rfl⟩ := List.mem_map.mp hx
    obtain ⟨p, _, hp⟩ := paired_mem h b hb
    show Dat K H (.ref b) (eRn (readRn H (.ref b)))
    rw [readRn_at hp]
    exact run_dat hp, fun x => ⟨_, _, rfl⟩, fun x y => rfl⟩
theorem runs_map {H : Hp} {T' : Str × Str → Int} : ∀ {us : List Addr} {ps : List (Str × Str)}, Paired (fun u x => RunAt H u (x.1, x.2, T' x)) us ps → Paired (RunAt H) us (ps.map fun q => (q.1, q.2, T' q))
  | _, _, .nil => .nil
  | _, _, .cons h r => .cons h (runs_map r)
def asR (rs : List Run) : List Run := (tabK kRn rs).map fun q => (q.1, q.2, totK kRn rs q)
theorem spent_asR (rs : List Run) (x : Str) : spentR (asR rs) x = spentR rs x := by
  unfold spentR asR
  rw [su_map]
  show su (tabK kRn rs) (fun q => if q.1 = x then totK kRn rs q else 0) = _
  have e : su (tabK kRn rs) (fun q => if q.1 = x then totK kRn rs q else 0) = su (tabK kRn rs) fun q => su rs fun r => if kRn r = q then (if r.1 = x then r.2.2 else 0) else 0 := su_congr fun q _ => by
    by_cases h : q.1 = x
    · rw [if_pos h]
      refine su_congr fun r _ => ?_
      by_cases z : kRn r = q
      · rw [if_pos z, if_pos z, if_pos (by rw [← h, ← z]; rfl)]
      · rw [if_neg z, if_neg z]
    · rw [if_neg h]
      refine (su_zero fun r _ => ?_).symm
      by_cases z : kRn r = q
      · rw [if_pos z, if_neg (fun e => h (by rw [← z]; exact e))]
      · rw [if_neg z]
  rw [e, su_swap (nodup_tabK rs) rs kRn fun r => if r.1 = x then r.2.2 else 0]
  exact su_congr fun r hr => if_pos ((mem_tabK rs).mpr ⟨r, hr, rfl⟩)
theorem mem_asR {rs : List Run} (h : ∀ r ∈ rs, 0 ≤ r.2.2) {r : Run} (hr : r ∈ asR rs) : (∃ r0 ∈ rs, kRn r0 = kRn r) ∧ 0 ≤ r.2.2 := by
  obtain ⟨q, hq, rfl⟩ := List.mem_map.mp hr
  exact ⟨(mem_tabK rs).mp hq, totK_nonneg h⟩
theorem valV_mkP {f : Str × Str → V} {ps : List (Str × Str)} {p : Str × Str} (h : p ∈ ps) : valV (mkT kP ps f) (kP p) = some (f p) := valV_mk kP_inj h
section
variable {P : Program} {w : World} {K : PySem.W.Frag} {mg : Str → Option Value} {base : Heap} {f : Addr} {fd : FuncData}
def p_is_names : Sp := fun vs H Q _ => ∃ l l2, ∃ R ns : List Str, vs = [.ref l, .ref l2] ∧ H l = some (.lst (R.map V.str)) ∧ H l2 = some (.lst (ns.map V.str)) ∧ Asc R ∧ (∀ x ∈ R, x ∈ ns) ∧ R.length ≤ 1000 ∧ ∀ H', Same H H' → Q (.bl true) H'
abbrev s_l_is_names : Stmt := top 63
abbrev N_l_is_names : List Str := ["_law_thing", "_law_names_here", "_law_name", "_law_at"]
theorem sc_l_is_names : FnScope N_l_is_names ["_law_thing", "_law_names_here"] (defScope s_l_is_names) := ⟨rfl, rfl, rfl, by decide +kernel, rfl, by decide +kernel, by decide +kernel⟩
theorem ok_l_is_names (F : FnP K "_law_is_names" "_law_is_names" s_l_is_names f fd) (T : Txt K mg) : FnOk P w K mg base CX0 1 f fd ["_law_thing", "_law_names_here"] p_is_names := by
  refine ok0 F sc_l_is_names (fun _ _ _ _ h => by obtain ⟨a, l, x, y, rfl, _⟩ := h; rfl) fun cdv A outer s H vs Q E hr h => ?_
  obtain ⟨l, l2, R, ns, rfl, hl, hl2, as, sub, hlen, q⟩ := h
  refine ⟨_, (pss_cons (ps_if (pt_not (pt_val (pe_callB call_isi (by rfl) T.isinstance bt_isinstance (pa_cons (pv 0) (pa_cons (pe_bltn (v := .ty "list") (by rfl) T.list bt_list rfl) pa_nil)))))
      (pss_one (ps_ret pe_bl))
      pss_nil)
    (pss_cons (ps_if (pt_cmpR (op_ne_nil hr.units) (pe_lc (own := [("_law_name", 2)]) (g := gName 2) rfl sc_l_is_names.nd (pi_list (pv 0)) (blkOk_by (own := [("_law_name", 2)]) (N := N_l_is_names) (sc := defScope s_l_is_names) (by decide +kernel)) (fun _ _ _ _ _ => (pg_name (i := 2) sc_l_is_names.nd rfl (Or.inl rfl))) (fun _ _ _ _ _ => pts_one (PW.pt (pw_or (pt_not (pt_val (pe_callB (r := rIsi K) call_isi (by rfl) T.isinstance bt_isinstance (pa_cons (pv 2) (pa_cons (pe_bltn (v := .ty "str") (by rfl) T.str bt_str rfl) pa_nil))))) (pw_or1 (pt_cmpR (r := rIn K true) op_notIn_seq (pv 2) (pv 1) (by rfl)))))) (fun _ _ _ _ _ => (pv 2))) (pe_lst pa_nil) (nomark _))
      (pss_one (ps_ret pe_bl))
      pss_nil)
    (pss_one (ps_ret (pe_cmpR (op_eq_nil hr.units) (pe_lc (own := [("_law_at", 3)]) (g := gName 3) rfl sc_l_is_names.nd (pi_range1 (by rfl) T.range (pa_cons (pe_op op_sub (pe_callB call_len_seq (by rfl) T.len bt_len (pa_cons (pv 0) pa_nil)) pe_int) pa_nil)) (blkOk_by (own := [("_law_at", 3)]) (N := N_l_is_names) (sc := defScope s_l_is_names) (by decide +kernel)) (fun _ _ _ _ _ => (pg_name (i := 3) sc_l_is_names.nd rfl (Or.inl rfl))) (fun _ _ _ _ _ => pts_one (pt_cmpR op_ge_str (pe_ix (r := rIxL K) ix_list (pv 0) (pv 3) (fun _ _ => rfl)) (pe_ix (r := rIxL K) ix_list (pv 0) (pe_op op_add (pv 3) pe_int) (fun _ _ => rfl)) (nomark _))) (fun _ _ _ _ _ => (pv 3))) (pe_lst pa_nil) (nomark _)))))), ?_⟩
  refine ⟨.ref l, rfl, .ref l, .ty "list", .type "list", .type "list", true, rfl, .ty _, .base (.lst hl), kit_ty (by decide +kernel), true, rfl, ?_⟩
  refine ⟨.ref l, rfl, l, rfl, ⟨_, SqL.of hl⟩, fun D nD => ?_⟩
  refine lc_it (walk_list (xs := R.map V.str)) (fun i H' => Same H H' ∧ H' D = some (.lst [])) ?_ ?_ ?_ ?_
  · exact ⟨Same.new Same.rfl nD, upd_same⟩
  · rintro i H1 _ ⟨k, _⟩
    exact SqL.of (k _ _ hl)
  · rintro i v H1 H2 hi ⟨k, hD⟩ ⟨rfl, hv⟩
    obtain ⟨x, hx, rfl⟩ := map_str_get hv
    refine ⟨rfl, .str x, rfl, .str x, .ty "str", .type "str", .type "str", true, rfl, .ty _, .base (.str _), kit_ty (by decide +kernel), true, rfl, ?_⟩
    refine ⟨.str x, rfl, .ref l2, rfl, l2, _, rfl, .inl (SqL.of (k _ _ hl2)), rfl, flat_strs ns, false, ?_, k, hD⟩
    rw [inV_strs]
    have : inR ns x = true := decide_eq_true (sub x (List.mem_of_getElem? hx))
    rw [this]; rfl
  rintro H1 ⟨k1, hD1⟩
  refine ⟨Nat.zero_le _, fun z nz => ⟨D, z, [], rfl, rfl, SqL.of (new_get nz hD1), SqL.of upd_same, fun v hv => absurd hv List.not_mem_nil, false, rfl, ?_⟩⟩
  have k2 : Same H (upd H1 z (.lst [])) := Same.new k1 nz
  refine ⟨.ref l, rfl, l, _, rfl, .inl (SqL.of (k2 _ _ hl)), _, 1, rfl, rfl, _, rfl, ?_, ?_, fun D2 nD2 => ?_⟩
  · omega
  · rw [List.length_map]; omega
  have e0 : (((R.map V.str).length : Int) - 1).toNat = R.length - 1 := by rw [List.length_map]; omega
  rw [e0]
  have nD20 : H D2 = none := none_of k2 nD2
  refine lc_it walk_range (fun i H' => Same H H' ∧ H' D2 = some (.lst [])) ?_ ?_ ?_ ?_
  · exact ⟨Same.new k2 nD2, upd_same⟩
  · rintro i H3 _ _
    trivial
  · rintro i v H3 H4 hi ⟨k, hD⟩ ⟨rfl, rfl⟩
    obtain ⟨x, hx⟩ : ∃ x, R[i]? = some x := ⟨_, List.getElem?_eq_getElem (by omega)⟩
    obtain ⟨y, hy⟩ : ∃ y, R[i + 1]? = some y := ⟨_, List.getElem?_eq_getElem (by omega)⟩
    have hlt : LtS x y := by
      obtain ⟨h1, e1⟩ := List.getElem?_eq_some_iff.mp hx
      obtain ⟨h2, e2⟩ := List.getElem?_eq_some_iff.mp hy
      have := List.pairwise_iff_getElem.mp as i (i + 1) h1 h2 (by omega)
      rw [e1, e2] at this
      exact this
    have ei : (0 : Int) + (i : Int) = (i : Int) := Int.zero_add _
    refine ⟨rfl, .ref l, rfl, .int (0 + (i : Int)), rfl, l, _, _, .str x, rfl, rfl, SqL.of (k _ _ hl), by rw [ei]; exact atI_nat (str_get hx), .ref l, rfl, .int (0 + (i : Int)), rfl, _, 1, rfl, rfl, l, _, _, .str y, rfl, rfl, SqL.of (k _ _ hl), by rw [ei]; exact atI_1 (str_get hy), x, y, rfl, rfl, false, ?_, k, hD⟩
    rw [decide_eq_true (show x.cps.toList < y.cps.toList from hlt)]; rfl
  rintro H3 ⟨k3, hD3⟩
  exact ⟨Nat.zero_le _, fun z2 nz2 => ⟨D2, z2, [], rfl, rfl, SqL.of (new_get nz2 hD3), SqL.of upd_same, fun v hv => absurd hv List.not_mem_nil, q _ (Same.new k3 nz2)⟩⟩
def p_l_is_run : Sp := fun vs H Q _ => ∃ t r, vs = [.ref t] ∧ RunAt H t r ∧ r.1 ≠ r.2.1 ∧ 0 < r.2.2 ∧ Q (.bl true) H
abbrev s_l_is_run : Stmt := top 65
abbrev N_l_is_run : List Str := ["_law_thing"]
theorem sc_l_is_run : FnScope N_l_is_run ["_law_thing"] (defScope s_l_is_run) := ⟨rfl, rfl, rfl, by decide +kernel, rfl, by decide +kernel, by decide +kernel⟩
theorem ok_l_is_run (F : FnP K "_law_is_run" "_law_is_run" s_l_is_run f fd) (T : Txt K mg) : FnOk P w K mg base CX0 1 f fd ["_law_thing"] p_l_is_run := by
  refine ok0 F sc_l_is_run (fun _ _ _ _ h => by obtain ⟨a, l, rfl, _⟩ := h; rfl) fun cdv A outer s H vs Q E hr h => ?_
  obtain ⟨t, ⟨x, y, m⟩, rfl, ht, ne, pos, q⟩ := h
  refine ⟨_, (pss_cons (ps_if (PW.pt (pw_or (pt_not (pt_val (pe_callB call_isi (by rfl) T.isinstance bt_isinstance (pa_cons (pv 0) (pa_cons (pe_bltn (v := .ty "tuple") (by rfl) T.tuple bt_tuple rfl) pa_nil))))) (pw_or (pt_cmpR op_ne (pe_callB call_len_seq (by rfl) T.len bt_len (pa_cons (pv 0) pa_nil)) pe_int (nomark _)) (pw_or1 (pt_cmpR op_eq (pe_ix ix_tup (pv 0) pe_int (fun _ _ => rfl)) (pe_ix ix_tup (pv 0) pe_int (fun _ _ => rfl)) (nomark _))))))
      (pss_one (ps_ret pe_bl))
      pss_nil)
    (pss_cons (ps_if (PW.pt (pw_or (pt_not (pt_val (pe_callB call_isi (by rfl) T.isinstance bt_isinstance (pa_cons (pe_ix ix_tup (pv 0) pe_int (fun _ _ => rfl)) (pa_cons (pe_bltn (v := .ty "str") (by rfl) T.str bt_str rfl) pa_nil))))) (pw_or1 (pt_not (pt_val (pe_callB call_isi (by rfl) T.isinstance bt_isinstance (pa_cons (pe_ix ix_tup (pv 0) pe_int (fun _ _ => rfl)) (pa_cons (pe_bltn (v := .ty "str") (by rfl) T.str bt_str rfl) pa_nil))))))))
      (pss_one (ps_ret pe_bl))
      pss_nil)
    (pss_one (ps_ret (pe_and (pe_callB call_isi (by rfl) T.isinstance bt_isinstance (pa_cons (pe_ix ix_tup (pv 0) pe_int (fun _ _ => rfl)) (pa_cons (pe_bltn (v := .ty "int") (by rfl) T.int bt_int rfl) pa_nil))) (pe_and (pe_not (pe_callB call_isi (by rfl) T.isinstance bt_isinstance (pa_cons (pe_ix ix_tup (pv 0) pe_int (fun _ _ => rfl)) (pa_cons (pe_bltn (v := .ty "bool") (by rfl) T.bool bt_bool rfl) pa_nil)))) (pe_one (pe_cmpR op_gt (pe_ix ix_tup (pv 0) pe_int (fun _ _ => rfl)) pe_int (nomark _))))))))), ?_⟩
  have sq : SqT K H t [.str x, .str y, .int m] := SqT.of ht
  refine ⟨.ref t, rfl, .ref t, .ty "tuple", .type "tuple", .type "tuple", true, rfl, .ty _, .base (.tup ht), kit_ty (by decide +kernel), true, rfl, ?_⟩
  refine ⟨.ref t, rfl, t, _, rfl, .inr sq, rfl, false, rfl, ?_⟩
  refine ⟨.ref t, rfl, t, _, 0, _, rfl, rfl, sq, rfl, .ref t, rfl, t, _, 1, _, rfl, rfl, sq, rfl, rfl, false, bl_f (fun z => ne (V.str.inj z)), ?_⟩
  refine ⟨.ref t, rfl, t, _, 0, _, rfl, rfl, sq, rfl, .str x, .ty "str", .type "str", .type "str", true, rfl, .ty _, .base (.str _), kit_ty (by decide +kernel), true, rfl, ?_⟩
  refine ⟨.ref t, rfl, t, _, 1, _, rfl, rfl, sq, rfl, .str y, .ty "str", .type "str", .type "str", true, rfl, .ty _, .base (.str _), kit_ty (by decide +kernel), true, rfl, ?_⟩
  refine ⟨.ref t, rfl, t, _, 2, _, rfl, rfl, sq, rfl, .int m, .ty "int", .type "int", .type "int", true, rfl, .ty _, .base (.int _), kit_ty (by decide +kernel), true, rfl, ?_⟩
  refine ⟨.ref t, rfl, t, _, 2, _, rfl, rfl, sq, rfl, .int m, .ty "bool", .type "int", .type "bool", false, rfl, .ty _, .base (.int _), kit_ty (by decide +kernel), false, rfl, true, rfl, ?_⟩
  refine ⟨.ref t, rfl, t, _, 2, _, rfl, rfl, sq, rfl, m, 0, rfl, rfl, ?_⟩
  show Q (.bl (decide (0 < m))) H
  rw [show V.bl (decide (0 < m)) = V.bl true from bl_t pos]
  exact q
def p_as_payments : Sp := fun vs H Q _ => ∃ l rs, vs = [.ref l] ∧ RunsAt H l rs ∧ rs.length ≤ 1000 ∧ ∀ H' b rs', Same H H' → H b = none → RunsAt H' b rs' → rs'.Perm (asR rs) → Q (.ref b) H'
abbrev s_l_as_payments : Stmt := top 64
abbrev N_l_as_payments : List Str := ["_law_runs", "_law_found", "_law_payer", "_law_other", "_law_many"]
theorem sc_l_as_payments : FnScope N_l_as_payments ["_law_runs"] (defScope s_l_as_payments) := ⟨rfl, rfl, rfl, by decide +kernel, rfl, by decide +kernel, by decide +kernel⟩
theorem ok_l_as_payments (F : FnP K "_law_as_payments" "_law_as_payments" s_l_as_payments f fd) (T : Txt K mg) : FnOk P w K mg base CX0 1 f fd ["_law_runs"] p_as_payments := by
  refine ok0 F sc_l_as_payments (fun _ _ _ _ h => by obtain ⟨a, l, rfl, _⟩ := h; rfl) fun cdv A outer s H vs Q E hr h => ?_
  obtain ⟨l, rs, rfl, ⟨ts, hl, hts⟩, hlen, q⟩ := h
  have hu := hu_of hr
  refine ⟨_, (pss_cons (ps_set (i := 1) sc_l_as_payments.nd rfl (Or.inl rfl) pe_dnewT)
    (pss_cons (ps_for PassesOwn.never rfl (pi_list (pv 0)) (pg_tup rfl (pgs_cons (pg_name (i := 2) sc_l_as_payments.nd rfl (Or.inl rfl)) (pgs_cons (pg_name (i := 3) sc_l_as_payments.nd rfl (Or.inl rfl)) (pgs_cons (pg_name (i := 4) sc_l_as_payments.nd rfl (Or.inl rfl)) pgs_nil))))
      (pss_one (ps_dput hu (pv 1) (pe_tup (pa_cons (pv 2) (pa_cons (pv 3) pa_nil))) (pe_op op_add (pe_dget2 hu (pv 1) (pe_tup (pa_cons (pv 2) (pa_cons (pv 3) pa_nil))) pe_int ⟨rfl, rfl, rfl, rfl⟩) (pv 4)) rfl)))
    (pss_one (ps_ret (pe_callB (cr_sortedTup hr.units) (by rfl) T.sorted bt_sorted (pa_cons (pe_lock (pe_lc (own := [("_law_many", 4), ("_law_payer", 2), ("_law_other", 3)]) (g := gTup K 2 (gCons (gTup K 2 (gCons (gName 2) (gCons (gName 3) gNil))) (gCons (gName 4) gNil))) (tt := tYes) rfl sc_l_as_payments.nd (pi_itemsT (pv 1)) (blkOk_by (own := [("_law_many", 4), ("_law_payer", 2), ("_law_other", 3)]) (N := N_l_as_payments) (sc := defScope s_l_as_payments) (by decide +kernel)) (fun _ _ _ _ _ => (pg_tup rfl (pgs_cons (pg_tup rfl (pgs_cons (pg_name (i := 2) sc_l_as_payments.nd rfl (Or.inl rfl)) (pgs_cons (pg_name (i := 3) sc_l_as_payments.nd rfl (Or.inl rfl)) pgs_nil))) (pgs_cons (pg_name (i := 4) sc_l_as_payments.nd rfl (Or.inl rfl)) pgs_nil)))) (fun _ _ _ _ _ => pts_nil) (fun _ _ _ _ _ => (pe_tup (pa_cons (pv 2) (pa_cons (pv 3) (pa_cons (pv 4) pa_nil))))))) pa_nil)))))), ?_⟩
  intro d nd
  have hlt : ts.length = rs.length := Paired.length hts
  refine ⟨.ref l, rfl, l, rfl, ⟨_, SqL.of (new_get nd hl)⟩, ?_⟩
  refine for_it (walk_list (xs := ts.map V.ref)) (fun i σ H' => (∃ x2 x3 x4, σ = [some (.ref l), some (.ref d), x2, x3, x4]) ∧ Same H H' ∧ H' d = some (dP (tabK kRn (rs.take i)) (totK kRn (rs.take i)))) ?_ ?_ ?_ ?_
  · exact ⟨⟨_, _, _, rfl⟩, Same.new Same.rfl nd, upd_same⟩
  · rintro i σ H1 _ ⟨_, k, _⟩
    exact SqL.of (k _ _ hl)
  · rintro i v σ H1 H2 hi ⟨⟨x2, x3, x4, rfl⟩, k, hd⟩ ⟨rfl, hv⟩
    obtain ⟨ti, hti, rfl⟩ := map_ref_get hv
    obtain ⟨⟨y1, y2, m⟩, hri, hrun⟩ := L2.paired_get hts hti
    refine ⟨ti, [.str y1, .str y2, .int m], rfl, SqT.of (k _ _ hrun), rfl, _, _, rfl, _, _, rfl, _, _, rfl, rfl, ?_⟩
    refine ⟨.ref d, rfl, d, rfl, isD_P hd, .str y1, rfl, .str y2, rfl, two_sz, fun p np => ?_⟩
    have k6 : Same H (upd H2 p (.tup [.str y1, .str y2])) := Same.new k np
    have hd6 := new_get (u := .tup [.str y1, .str y2]) np hd
    have tw : TwoAt (upd H2 p (.tup [.str y1, .str y2])) p (kRn (y1, y2, m)) := upd_same
    generalize upd H2 p (.tup [.str y1, .str y2]) = H3 at k6 hd6 tw ⊢
    obtain ⟨o, hg, ho⟩ := dP_getD hd6 tw
    refine ⟨o, hg, .int m, rfl, totK kRn (rs.take i) (kRn (y1, y2, m)), m, ho, rfl, .ref d, rfl, .str y1, rfl, .str y2, rfl, two_sz, fun p2 np2 => ?_⟩
    have k7 : Same H (upd H3 p2 (.tup [.str y1, .str y2])) := Same.new k6 np2
    have hd7 := new_get (u := .tup [.str y1, .str y2]) np2 hd6
    have tw2 : TwoAt (upd H3 p2 (.tup [.str y1, .str y2])) p2 (kRn (y1, y2, m)) := upd_same
    have hp2 := dP_add (r := (y1, y2, m)) hd7 tw2 (lt_sz (by rw [List.length_take]; omega))
    rw [← take_snoc hri] at hp2
    exact ⟨d, _, rfl, hp2, ⟨_, _, _, rfl⟩, Same.wrN k7 nd, upd_same⟩
  · rintro σ H1 ⟨⟨x2, x3, x4, rfl⟩, k, hd⟩
    rw [List.take_of_length_le (by rw [List.length_map]; omega)] at hd
    generalize eps : tabK kRn rs = ps at hd
    generalize eT : totK kRn rs = T' at hd
    have hpl : ps.length ≤ 1000 := by rw [← eps]; exact Nat.le_trans (length_tabK rs) hlen
    refine ⟨d, _, hd, trivial, fun od => ?_⟩
    refine ⟨.ref d, rfl, d, od, _, rfl, upd_same, fun D nD => ?_⟩
    have nDd : D ≠ d := fun z => by rw [z, upd_same] at nD; cases nD
    have nD1 : H1 D = none := by rw [upd_ne nDd] at nD; exact nD
    have nD0 : H D = none := none_of k nD1
    have hdz : upd H1 d (.frz od (dP ps T')) d = some (.frz od (dP ps T')) := upd_same
    refine lc_it walk_itemsT (fun i H' => Same (upd H1 d (.frz od (dP ps T'))) H' ∧ ∃ us : List Addr, H' D = some (.lst (us.map V.ref)) ∧ Paired (fun u x => H' u = some (.tup [.str x.1, .str x.2, .int (T' x)])) us (ps.take i)) ?_ ?_ ?_ ?_
    · exact ⟨Same.new Same.rfl nD, [], upd_same, .nil⟩
    · rintro i H2 _ ⟨k2, _⟩
      exact k2 _ _ hdz
    · rintro i v H2 H3 hi ⟨k2, us, hD, hus⟩ ⟨t, key, v2, b, hkv, rfl, nt, hb, rfl⟩
      unfold mkT at hkv
      rw [List.getElem?_map] at hkv
      cases e : ps[i]? with
      | none => rw [e] at hkv; cases hkv
      | some p =>
        rw [e] at hkv
        have h2 := Option.some.inj hkv
        have e1 : kP p = key := congrArg Prod.fst h2
        have e2 : V.int (T' p) = v2 := congrArg Prod.snd h2
        subst e1 e2
        have kt : Same (upd H1 d (.frz od (dP ps T'))) (upd H2 t (.tup [.ref b, .int (T' p)])) := Same.new k2 nt
        have hbt := new_get (u := .tup [.ref b, .int (T' p)]) nt hb
        have hDt := new_get (u := .tup [.ref b, .int (T' p)]) nt hD
        have hust := Paired.mapP hus fun u y z => new_get (u := .tup [.ref b, .int (T' p)]) nt z
        refine ⟨t, [.ref b, .int (T' p)], rfl, SqT.of upd_same, rfl, .ref b, [.int (T' p)], rfl, ⟨b, [.str p.1, .str p.2], rfl, SqT.of hbt, rfl, _, _, rfl, _, _, rfl, rfl, _, _, rfl, rfl, rfl, .str p.1, rfl, .str p.2, rfl, .int (T' p), rfl, by show 3 ≤ sizeLine; decide, fun u nu => ?_⟩⟩
        obtain ⟨g1, g2, g3⟩ := grow (c := fun x : Str × Str => [.str x.1, .str x.2, .int (T' x)]) p hDt hust nu
        refine ⟨_, g1, ?_, Same.wrN (Same.new kt nu) nD, us ++ [u], g2, by rw [take_snoc e]; exact g3⟩
        rw [List.length_map]
        have := Paired.length hus
        rw [List.length_take] at this
        exact lt_sz (by omega)
    · rintro H2 ⟨k2, us, hD, hus⟩
      rw [List.take_of_length_le (by rw [length_mkT]; exact Nat.le_refl _)] at hus
      have kk := lock_same hd k2
      refine ⟨k2 _ _ hdz, ?_⟩
      have hD2 : upd H2 d (dP ps T') D = some (.lst (us.map V.ref)) := by rw [upd_ne nDd]; exact hD
      have hruns : Paired (RunAt (upd H2 d (dP ps T'))) us (asR rs) := by
        unfold asR
        rw [eps, eT]
        have e2 : Paired (fun u x => RunAt (upd H2 d (dP ps T')) u (x.1, x.2, T' x)) us ps := Paired.mapP hus fun u y z => by
          show upd _ _ _ _ = _
          rw [upd_ne (fun e => by rw [e, k2 _ _ hdz] at z; cases z)]; exact z
        exact runs_map e2
      refine ⟨D, _, _, rfl, SqL.of hD2, tups_runs hruns, fun ys p pm _ np => ?_⟩
      obtain ⟨zs, rfl, pz⟩ := perm_refs pm
      obtain ⟨rs', pr', hrs'⟩ := paired_perm pz hruns
      have k3 : Same H (upd H2 d (dP ps T')) := Same.tr k kk
      exact q _ p rs' (Same.new k3 np) (none_of k3 np) ⟨zs, upd_same, Paired.mapP hrs' fun u y z => new_get np z⟩ pr'
def p_l_pays : Sp := fun vs H Q _ => ∃ l l2 rs rt, vs = [.ref l, .ref l2] ∧ RunsAt H l rs ∧ RunsAt H l2 rt ∧ rs.length ≤ 1000 ∧ rt.length ≤ 1000 ∧ (∀ r ∈ rt, r.1 ≠ r.2.1 ∧ 0 < r.2.2) ∧ (rt.map kRn).Pairwise LtP ∧ (∀ p, p ∈ tabL rt ↔ p ∈ tabL rs) ∧ (∀ p ∈ tabL rt, totL rt p = totL rs p) ∧
  ∀ H', Same H H' → Q (.bl true) H'
abbrev s_l_pays : Stmt := top 66
abbrev N_l_pays : List Str := ["_law_items", "_law_thing", "_law_keys", "_law_run", "_law_at"]
theorem sc_l_pays : FnScope N_l_pays ["_law_items", "_law_thing"] (defScope s_l_pays) := ⟨rfl, rfl, rfl, by decide +kernel, rfl, by decide +kernel, by decide +kernel⟩
theorem ok_l_pays (F : FnP K "_law_pays" "_law_pays" s_l_pays f fd) (T : Txt K mg) (d_l_is_run : Df P w K mg base CX0 1 "_law_is_run" ["_law_thing"] p_l_is_run) (d_l_table : Df P w K mg base CX0 1 "_law_table" ["_law_items"] p_table) : FnOk P w K mg base CX0 2 f fd ["_law_items", "_law_thing"] p_l_pays := by
  refine ok0 F sc_l_pays (fun _ _ _ _ h => by obtain ⟨a, l, x, y, rfl, _⟩ := h; rfl) fun cdv A outer s H vs Q E hr h => ?_
  obtain ⟨l, l2, rs, rt, rfl, hrs, hrt, hrl, htl, hok, hasc, hmem, htot, q⟩ := h
  have hu := hu_of hr
  refine ⟨_, (pss_cons (ps_if (PW.pt (pw_or (pt_not (pt_val (pe_callB call_isi (by rfl) T.isinstance bt_isinstance (pa_cons (pv 1) (pa_cons (pe_bltn (v := .ty "list") (by rfl) T.list bt_list rfl) pa_nil))))) (pw_or1 (pt_cmpR (op_ne_nil hr.units) (pe_lc (own := [("_law_run", 3)]) (g := gName 3) rfl sc_l_pays.nd (pi_list (pv 1)) (blkOk_by (own := [("_law_run", 3)]) (N := N_l_pays) (sc := defScope s_l_pays) (by decide +kernel)) (fun _ _ _ _ _ => (pg_name (i := 3) sc_l_pays.nd rfl (Or.inl rfl))) (fun _ _ _ _ _ => pts_one (pt_not (pt_val (pe_df d_l_is_run hr (pa_cons (pv 3) pa_nil))))) (fun _ _ _ _ _ => (pv 3))) (pe_lst pa_nil) (nomark _)))))
      (pss_one (ps_ret pe_bl))
      pss_nil)
    (pss_cons (ps_set (i := 2) sc_l_pays.nd rfl (Or.inr rfl) (pe_lc (own := [("_law_run", 3)]) (g := gName 3) (tt := tYes) rfl sc_l_pays.nd (pi_list (pv 1)) (blkOk_by (own := [("_law_run", 3)]) (N := N_l_pays) (sc := defScope s_l_pays) (by decide +kernel)) (fun _ _ _ _ _ => (pg_name (i := 3) sc_l_pays.nd rfl (Or.inl rfl))) (fun _ _ _ _ _ => pts_nil) (fun _ _ _ _ _ => (pe_slice (r := rSlT K) sl_tup (pv 3) po_none (po_some pe_int)))))
    (pss_cons (ps_if (pt_cmpR (op_ne_nil hr.units) (pe_lc (own := [("_law_at", 4)]) (g := gName 4) rfl sc_l_pays.nd (pi_range1 (by rfl) T.range (pa_cons (pe_op op_sub (pe_callB call_len_seq (by rfl) T.len bt_len (pa_cons (pv 2) pa_nil)) pe_int) pa_nil)) (blkOk_by (own := [("_law_at", 4)]) (N := N_l_pays) (sc := defScope s_l_pays) (by decide +kernel)) (fun _ _ _ _ _ => (pg_name (i := 4) sc_l_pays.nd rfl (Or.inl rfl))) (fun _ _ _ _ _ => pts_one (pt_cmpR (r := rGeT K) (op_ge_tup hr.units) (pe_ix (r := rIxL K) ix_list (pv 2) (pv 4) (fun _ _ => rfl)) (pe_ix (r := rIxL K) ix_list (pv 2) (pe_op op_add (pv 4) pe_int) (fun _ _ => rfl)) (nomark _))) (fun _ _ _ _ _ => (pv 4))) (pe_lst pa_nil) (nomark _))
      (pss_one (ps_ret pe_bl))
      pss_nil)
    (pss_one (ps_ret (pe_cmpR (op_eq_dictT hu) (pe_df d_l_table hr (pa_cons (pv 1) pa_nil)) (pe_df d_l_table hr (pa_cons (pv 0) pa_nil)) (nomark _))))))), ?_⟩
  obtain ⟨ts, hl, hts⟩ := id hrt
  have hlt : ts.length = rt.length := Paired.length hts
  refine ⟨.ref l2, rfl, .ref l2, .ty "list", .type "list", .type "list", true, rfl, .ty _, .base (.lst hl), kit_ty (by decide +kernel), true, rfl, ?_⟩
  refine ⟨.ref l2, rfl, l2, rfl, ⟨_, SqL.of hl⟩, fun D nD => ?_⟩
  refine lc_it (walk_list (xs := ts.map V.ref)) (fun i H' => Same H H' ∧ H' D = some (.lst [])) ?_ ?_ ?_ ?_
  · exact ⟨Same.new Same.rfl nD, upd_same⟩
  · rintro i H1 _ ⟨k, _⟩
    exact SqL.of (k _ _ hl)
  · rintro i v H1 H2 hi ⟨k, hD⟩ ⟨rfl, hv⟩
    obtain ⟨ti, hti, rfl⟩ := map_ref_get hv
    obtain ⟨r, hri, hrun⟩ := L2.paired_get hts hti
    obtain ⟨o1, o2⟩ := hok r (List.mem_of_getElem? hri)
    exact ⟨rfl, .ref ti, rfl, ti, r, rfl, k _ _ hrun, o1, o2, true, rfl, k, hD⟩
  rintro H1 ⟨k1, hD1⟩
  refine ⟨Nat.zero_le _, fun z nz => ⟨D, z, [], rfl, rfl, SqL.of (new_get nz hD1), SqL.of upd_same, fun v hv => absurd hv List.not_mem_nil, false, rfl, ?_⟩⟩
  have k2 : Same H (upd H1 z (.lst [])) := Same.new k1 nz
  generalize upd H1 z (.lst []) = H2 at k2 ⊢
  refine ⟨.ref l2, rfl, l2, rfl, ⟨_, SqL.of (k2 _ _ hl)⟩, fun D2 nD2 => ?_⟩
  have nD20 : H D2 = none := none_of k2 nD2
  refine lc_it (walk_list (xs := ts.map V.ref)) (fun i H' => Same H H' ∧ ∃ us : List Addr, H' D2 = some (.lst (us.map V.ref)) ∧ Paired (fun u x => H' u = some (.tup [.str (kRn x).1, .str (kRn x).2])) us (rt.take i)) ?_ ?_ ?_ ?_
  · exact ⟨Same.new k2 nD2, [], upd_same, .nil⟩
  · rintro i H3 _ ⟨k, _⟩
    exact SqL.of (k _ _ hl)
  · rintro i v H3 H4 hi ⟨k, us, hD, hus⟩ ⟨rfl, hv⟩
    obtain ⟨ti, hti, rfl⟩ := map_ref_get hv
    obtain ⟨r, hri, hrun⟩ := L2.paired_get hts hti
    refine ⟨rfl, .ref ti, rfl, 2, rfl, ti, _, rfl, SqT.of (k _ _ hrun), by simp only [List.length_cons, List.length_nil]; decide, fun u nu => ?_⟩
    obtain ⟨g1, g2, g3⟩ := grow (c := fun x : Run => [.str (kRn x).1, .str (kRn x).2]) r hD hus nu
    refine ⟨_, g1, ?_, Same.wrN (Same.new k nu) nD20, us ++ [u], g2, by rw [take_snoc hri]; exact g3⟩
    rw [List.length_map]
    have := Paired.length hus
    rw [List.length_take] at this
    exact lt_sz (by omega)
  rintro H3 ⟨k3, us, hD3, hus⟩
  rw [List.take_of_length_le (by rw [List.length_map]; omega)] at hus
  have hul : us.length = rt.length := Paired.length hus
  refine ⟨.ref D2, rfl, D2, _, rfl, .inl (SqL.of hD3), _, 1, rfl, rfl, _, rfl, ?_, ?_, fun D3 nD3 => ?_⟩
  · omega
  · rw [List.length_map]; omega
  have e0 : (((us.map V.ref).length : Int) - 1).toNat = us.length - 1 := by rw [List.length_map]; omega
  rw [e0]
  have nD30 : H D3 = none := none_of k3 nD3
  have n23 : D2 ≠ D3 := ne_of_none hD3 nD3
  refine lc_it walk_range (fun i H' => Same H3 H' ∧ H' D3 = some (.lst [])) ?_ ?_ ?_ ?_
  · exact ⟨Same.new Same.rfl nD3, upd_same⟩
  · rintro i H4 _ _
    trivial
  · rintro i v H4 H5 hi ⟨k, hD⟩ ⟨rfl, rfl⟩
    obtain ⟨x, hx⟩ : ∃ x, us[i]? = some x := ⟨_, List.getElem?_eq_getElem (by omega)⟩
    obtain ⟨y, hy⟩ : ∃ y, us[i + 1]? = some y := ⟨_, List.getElem?_eq_getElem (by omega)⟩
    obtain ⟨r1, hr1, ht1⟩ := L2.paired_get hus hx
    obtain ⟨r2, hr2, ht2⟩ := L2.paired_get hus hy
    have hlt : LtP (kRn r1) (kRn r2) := by
      have e1 : (rt.map kRn)[i]? = some (kRn r1) := by rw [List.getElem?_map, hr1]; rfl
      have e2 : (rt.map kRn)[i + 1]? = some (kRn r2) := by rw [List.getElem?_map, hr2]; rfl
      obtain ⟨h1, e1⟩ := List.getElem?_eq_some_iff.mp e1
      obtain ⟨h2, e2⟩ := List.getElem?_eq_some_iff.mp e2
      have := List.pairwise_iff_getElem.mp hasc i (i + 1) h1 h2 (by omega)
      rw [e1, e2] at this
      exact this
    have ei : (0 : Int) + (i : Int) = (i : Int) := Int.zero_add _
    have a1 : (us.map V.ref)[i]? = some (.ref x) := by rw [List.getElem?_map, hx]; rfl
    have a2 : (us.map V.ref)[i + 1]? = some (.ref y) := by rw [List.getElem?_map, hy]; rfl
    have t1 : TwoAt H5 x (kRn r1) := k _ _ ht1
    have t2 : TwoAt H5 y (kRn r2) := k _ _ ht2
    refine ⟨rfl, .ref D2, rfl, .int (0 + (i : Int)), rfl, D2, _, _, .ref x, rfl, rfl, SqL.of (k _ _ hD3), by rw [ei]; exact atI_nat a1, .ref D2, rfl, .int (0 + (i : Int)), rfl, _, 1, rfl, rfl, D2, _, _, .ref y, rfl, rfl, SqL.of (k _ _ hD3), by rw [ei]; exact atI_1 a2, eP (kRn r1), eP (kRn r2), two_dat t1, two_dat t2, rfl, (fun e => by cases e), false, ?_, k, hD⟩
    rw [lt_eP, decide_eq_true hlt]; rfl
  rintro H4 ⟨k4, hD4⟩
  refine ⟨Nat.zero_le _, fun z2 nz2 => ⟨D3, z2, [], rfl, rfl, SqL.of (new_get nz2 hD4), SqL.of upd_same, fun v hv => absurd hv List.not_mem_nil, false, rfl, ?_⟩⟩
  have k5 : Same H (upd H4 z2 (.lst [])) := Same.new (Same.tr k3 k4) nz2
  refine ⟨.ref l2, rfl, l2, rt, rfl, hrt.same k5, htl, fun H6 d1 k6 nd1 hd1 => ?_⟩
  have k56 := Same.tr k5 k6
  refine ⟨.ref l, rfl, l, rs, rfl, hrs.same k56, hrl, fun H7 d2 k7 nd2 hd2 => ?_⟩
  have pmT : (tabL rt).Perm (tabL rs) := (List.perm_ext_iff_of_nodup (nodup_tabK rt) (nodup_tabK rs)).mpr hmem
  refine ⟨d1, d2, _, _, rfl, rfl, k7 _ _ hd1, hd2, ?_, fun p hp => ?_, q _ (Same.tr k56 k7)⟩
  · rw [length_mkT, length_mkT]; exact pmT.length_eq
  · obtain ⟨x, hx, rfl⟩ := List.mem_map.mp hp
    refine ⟨?_, rfl⟩
    rw [valV_mkP ((hmem x).mp hx)]
    show some (V.int (totL rs x)) = some (V.int (totL rt x))
    rw [htot x hx]
end
end Ep

set_option Elab.async false
set_option linter.all false
set_option maxRecDepth 100000
set_option maxHeartbeats 4000000
/-! ## the law's names, plainly -/
namespace Ep
open PySem PySem.Spec PyProof.Rows L2
def lt26 (n : Nat) : Nat := lets.cps.toList.getD n 0
def one26 (n : Nat) : Str := ⟨#[lt26 (n % 26)]⟩
theorem lt26_get : ∀ n < 26, lets.cps.toList[n]? = some (lt26 n) := by decide +kernel
theorem lt26_mem : ∀ n < 26, lt26 n ∈ lets.cps.toList := by decide +kernel
theorem lt26_inj : ∀ m < 26, ∀ n < 26, lt26 m = lt26 n → m = n := by decide +kernel
theorem mod26 (n : Nat) : n % 26 < 26 := Nat.mod_lt _ (by decide)
theorem one26_mem (n : Nat) : ∀ c ∈ (one26 n).cps.toList, c ∈ lets.cps.toList := fun c h => by
  have e : c = lt26 (n % 26) := by
    have q : c ∈ [lt26 (n % 26)] := h
    exact List.mem_singleton.mp q
  rw [e]
  exact lt26_mem _ (mod26 n)
theorem step26 {t k l : Nat} (hk : k < 26) (hl : l < 26) (h : lt26 ((t + 3 * k) % 26) = lt26 ((t + 3 * l) % 26)) : k = l := by
  have := lt26_inj _ (mod26 _) _ (mod26 _) h
  omega
theorem nodup_rng {f : Nat → Str} {n : Nat} (h : ∀ k l, k < n → l < n → f k = f l → k = l) : ((List.range n).map f).Nodup := by
  unfold List.Nodup
  rw [List.pairwise_map]
  exact List.Pairwise.imp_of_mem (fun {a b} ha hb hab e => hab (h a b (List.mem_range.mp ha) (List.mem_range.mp hb) e)) List.nodup_range
def nm1 (t k : Nat) : Str := one26 (t + 3 * k)
def nm2 (b : Str) (a t k : Nat) : Str := cutS b none (some (a : Int)) ++ one26 (t + 3 * k) ++ cutS b (some (a : Int)) none
theorem names1 {t n : Nat} (h : n ≤ 24) : NamesOk ((List.range n).map (nm1 t)) := by
  refine ⟨nodup_rng fun k l hk hl e => ?_, by rw [List.length_map, List.length_range]; exact h, fun x hx => ?_⟩
  · unfold nm1 one26 at e
    injection e with e
    have e2 := congrArg Array.toList e
    injection e2 with e2
    exact step26 (by omega) (by omega) e2
  · obtain ⟨k, _, rfl⟩ := List.mem_map.mp hx
    exact ⟨by show 1 ≤ 1; decide, by show 1 ≤ 8; decide, one26_mem _⟩
theorem cut_lo (b : Str) {a : Nat} (h : a ≤ b.length) : (cutS b none (some (a : Int))).cps.toList = b.cps.toList.take a := by
  have e : HT.sIx b.length b.length (some (a : Int)) = a := by rw [HT.sIx_nat]; omega
  show ((b.cps.toList.drop 0).take (HT.sIx b.length b.length (some (a : Int)) - 0)).toArray.toList = _
  rw [e, List.drop_zero, Nat.sub_zero]
theorem cut_hi (b : Str) {a : Nat} (h : a ≤ b.length) : (cutS b (some (a : Int)) none).cps.toList = b.cps.toList.drop a := by
  have e : HT.sIx b.length 0 (some (a : Int)) = a := by rw [HT.sIx_nat]; omega
  show ((b.cps.toList.drop (HT.sIx b.length 0 (some (a : Int)))).take (b.length - HT.sIx b.length 0 (some (a : Int)))).toArray.toList = _
  rw [e]
  exact List.take_of_length_le (by rw [List.length_drop]; exact Nat.le_refl _)
theorem nm2_cps (b : Str) {a : Nat} (h : a ≤ b.length) (t k : Nat) : (nm2 b a t k).cps.toList = b.cps.toList.take a ++ lt26 ((t + 3 * k) % 26) :: b.cps.toList.drop a := by
  unfold nm2
  rw [PySem.Str.cps_append, PySem.Str.cps_append, Array.toList_append, Array.toList_append, cut_lo b h, cut_hi b h, List.append_assoc]
  rfl
theorem names2 {b : Str} {a t n : Nat} (h : n ≤ 24) (ha : a ≤ b.length) (hb : b.length ≤ 7) (hc : ∀ c ∈ b.cps.toList, c ∈ lets.cps.toList) : NamesOk ((List.range n).map (nm2 b a t)) := by
  have hbl : b.cps.toList.length = b.length := Array.length_toList
  refine ⟨nodup_rng fun k l hk hl e => ?_, by rw [List.length_map, List.length_range]; exact h, fun x hx => ?_⟩
  · have e2 := congrArg (fun s : Str => s.cps.toList) e
    rw [nm2_cps b ha, nm2_cps b ha] at e2
    have e3 := List.append_cancel_left e2
    injection e3 with e3
    exact step26 (by omega) (by omega) e3
  · obtain ⟨k, _, rfl⟩ := List.mem_map.mp hx
    have hlen : (nm2 b a t k).length = b.length + 1 := by
      show (nm2 b a t k).cps.size = _
      rw [← Array.length_toList, nm2_cps b ha, List.length_append, List.length_cons, List.length_take, List.length_drop]
      omega
    refine ⟨by omega, by omega, fun c h => ?_⟩
    rw [nm2_cps b ha] at h
    rcases List.mem_append.mp h with h | h
    · exact hc c (List.mem_of_mem_take h)
    rcases List.mem_cons.mp h with h | h
    · rw [h]; exact lt26_mem _ (mod26 _)
    · exact hc c (List.mem_of_mem_drop h)
def words24 : List Str := Txt.split ((Str.ofString "join give wish withdraw meet undo redo purses lot choices plan room left could yes no ok") ++ (Str.ofString " a b ab ba aa z zz")) (Str.ofString " ")
theorem words_len : words24.length = 24 := by decide +kernel
theorem words_nd : words24.Nodup := by decide +kernel
theorem words_ok : ∀ x ∈ words24, 1 ≤ x.length ∧ x.length ≤ 8 ∧ ∀ c ∈ x.cps.toList, c ∈ lets.cps.toList := by decide +kernel
def rot (t n : Nat) : List Str := (words24.drop t ++ words24.take t).take n
theorem rot_len {t n : Nat} (ht : t < 24) (h : n ≤ 24) : (rot t n).length = n := by
  unfold rot
  rw [List.length_take, List.length_append, List.length_drop, List.length_take, words_len]
  omega
theorem names0 {t n : Nat} (ht : t < 24) (h : n ≤ 24) : NamesOk (rot t n) := by
  have pm : (words24.drop t ++ words24.take t).Perm words24 := by
    have q := List.perm_append_comm (l₁ := words24.drop t) (l₂ := words24.take t)
    rw [List.take_append_drop] at q
    exact q
  refine ⟨?_, by rw [rot_len ht h]; exact h, fun x hx => ?_⟩
  · unfold rot
    exact (List.take_sublist _ _).nodup (pm.nodup_iff.mpr words_nd)
  · obtain ⟨h1, h2, h3⟩ := words_ok x (pm.mem_iff.mp (List.mem_of_mem_take hx))
    exact ⟨h1, h2, h3⟩
theorem rot_cut {t n : Nat} (ht : t < 24) : cutV (cutV (words24.map V.str) (some (t : Int)) none ++ cutV (words24.map V.str) none (some (t : Int))) none (some (n : Int)) = (rot t n).map V.str := by
  have e1 : cutV (words24.map V.str) (some (t : Int)) none = (words24.drop t).map V.str := by
    unfold cutV
    rw [HT.sIx_nat, HT.sIx_none, List.length_map, words_len, show min t 24 = t by omega, ← List.map_drop]
    exact List.take_of_length_le (by rw [List.length_map, List.length_drop, words_len]; exact Nat.le_refl _)
  have e2 : cutV (words24.map V.str) none (some (t : Int)) = (words24.take t).map V.str := by
    unfold cutV
    rw [HT.sIx_nat, HT.sIx_none, List.length_map, words_len, show min t 24 = t by omega, List.drop_zero, Nat.sub_zero, ← List.map_take]
  rw [e1, e2, ← List.map_append]
  unfold cutV rot
  rw [HT.sIx_nat, HT.sIx_none, List.drop_zero, Nat.sub_zero, List.length_map, ← List.map_take]
  have hl : (words24.drop t ++ words24.take t).length = 24 := by rw [List.length_append, List.length_drop, List.length_take, words_len]; omega
  rw [hl]
  by_cases h : n ≤ 24
  · rw [show min n 24 = n by omega]
  · rw [show min n 24 = 24 by omega, List.take_of_length_le (show (words24.drop t ++ words24.take t).length ≤ 24 by omega), List.take_of_length_le (show (words24.drop t ++ words24.take t).length ≤ n by omega)]
theorem join_nil (l : List Str) (h : ∀ a ∈ l, ∃ c, a = ⟨#[c]⟩ ∧ c ∈ lets.cps.toList) : (Txt.join (Str.ofString "") l).length = l.length ∧ ∀ c ∈ (Txt.join (Str.ofString "") l).cps.toList, c ∈ lets.cps.toList := by
  have e : Txt.join (Str.ofString "") l = Str.join (Str.ofString "") l := StrLaws.glued_eq_join _ _
  rw [e]
  clear e
  have e0 : (Str.ofString "").cps = #[] := by decide +kernel
  have : ∀ l : List Str, (∀ a ∈ l, ∃ c, a = ⟨#[c]⟩ ∧ c ∈ lets.cps.toList) → (Str.join (Str.ofString "") l).cps.toList.length = l.length ∧ ∀ c ∈ (Str.join (Str.ofString "") l).cps.toList, c ∈ lets.cps.toList := fun l => by
    induction l with
    | nil => exact fun _ => ⟨rfl, fun c h => absurd h (by show c ∉ []; exact List.not_mem_nil)⟩
    | cons a r ih =>
      intro h
      obtain ⟨c, rfl, hc⟩ := h a List.mem_cons_self
      obtain ⟨g1, g2⟩ := ih fun b hb => h b (List.mem_cons_of_mem _ hb)
      cases r with
      | nil => exact ⟨rfl, fun d hd => by
          have q : d ∈ [c] := hd
          rw [List.mem_singleton.mp q]; exact hc⟩
      | cons b r =>
        have ec : (Str.join (Str.ofString "") (⟨#[c]⟩ :: b :: r)).cps.toList = c :: (Str.join (Str.ofString "") (b :: r)).cps.toList := by
          show ((⟨#[c]⟩ : Str) ++ Str.ofString "" ++ Str.join (Str.ofString "") (b :: r)).cps.toList = _
          rw [PySem.Str.cps_append, PySem.Str.cps_append, e0, Array.toList_append, Array.toList_append]
          rfl
        rw [ec]
        refine ⟨by rw [List.length_cons, g1]; rfl, fun d hd => ?_⟩
        rcases List.mem_cons.mp hd with q | q
        · rw [q]; exact hc
        · exact g2 d q
  obtain ⟨h1, h2⟩ := this l h
  rw [Array.length_toList] at h1
  exact ⟨h1, h2⟩
end Ep

set_option Elab.async false
set_option linter.all false
set_option maxRecDepth 100000
set_option maxHeartbeats 4000000
/-! ## the law: names -/
namespace Ep
open PySem PySem.Spec PyProof.Rows L2
section
variable {P : Program} {w : World} {K : PySem.W.Frag} {mg : Str → Option Value} {base : Heap} {f : Addr} {fd : FuncData}
def p_l_names : Sp := fun vs H Q _ => ∃ a c, ∃ n : Nat, vs = [.ref a, .int (n : Nat)] ∧ HandAt H a c ∧ 2 ≤ n ∧ n ≤ 24 ∧ ∀ H' l (ns : List Str), Kp [a] H H' → HandAt H' a c → H l = none → H' l = some (.lst (ns.map V.str)) → ns.length = n → NamesOk ns → Q (.ref l) H'
abbrev s_l_names : Stmt := top 55
abbrev N_l_names : List Str := ["_law_hand_here", "_law_many", "_law_letters", "_law_words", "_law_way", "_law_turn", "_law_base", "_law_at", "_law_k"]
theorem sc_l_names : FnScope N_l_names ["_law_hand_here", "_law_many"] (defScope s_l_names) := ⟨rfl, rfl, rfl, by decide +kernel, rfl, by decide +kernel, by decide +kernel⟩
theorem letter_ix {t k : Nat} : atI lets.cps.toList (((t : Int) + 3 * (0 + (k : Int))).fmod 26) = some (lt26 ((t + 3 * k) % 26)) := by
  have e : ((t : Int) + 3 * (0 + (k : Int))).fmod 26 = (((t + 3 * k) % 26 : Nat) : Int) := by
    rw [Int.fmod_eq_emod_of_nonneg _ (by decide)]
    omega
  rw [e]
  exact atI_nat (lt26_get _ (mod26 _))
theorem ok_l_names (F : FnP K "_law_names" "_law_names" s_l_names f fd) (T : Txt K mg) (d_l_draw : Df P w K mg base CX0 3 "_law_draw" ["_law_hand_here", "_law_tally"] p_draw) : FnOk P w K mg base CX0 4 f fd ["_law_hand_here", "_law_many"] p_l_names := by
  refine ok0 F sc_l_names (fun _ _ _ _ h => by obtain ⟨a, l, x, rfl, _⟩ := h; rfl) fun cdv A outer s H vs Q E hr h => ?_
  obtain ⟨a, c, n, rfl, hh, n1, n2, q⟩ := h
  refine ⟨_, (pss_cons (ps_set (i := 2) sc_l_names.nd rfl (Or.inr rfl) pe_str)
    (pss_cons (ps_set (i := 3) sc_l_names.nd rfl (Or.inl rfl) pe_str)
    (pss_cons (ps_set (i := 3) sc_l_names.nd rfl (Or.inl rfl) (pe_split (pe_op op_add_str (pv 3) pe_str) pe_str))
    (pss_cons (ps_asg (g := gTup K 2 (gCons (gName 4) (gCons (gName 5) gNil))) (pe_tup (pa_cons (pe_df d_l_draw hr (pa_cons (pv 0) (pa_cons pe_int pa_nil))) (pa_cons (pe_df d_l_draw hr (pa_cons (pv 0) (pa_cons pe_int pa_nil))) pa_nil))) (pg_tup rfl (pgs_cons (pg_name (i := 4) sc_l_names.nd rfl (Or.inl rfl)) (pgs_cons (pg_name (i := 5) sc_l_names.nd rfl (Or.inr rfl)) pgs_nil))))
    (pss_cons (ps_set (i := 6) sc_l_names.nd rfl (Or.inr rfl) (pe_join pe_str (pe_lc (own := [("_law_k", 8)]) (g := gName 8) (tt := tYes) rfl sc_l_names.nd (pi_range1 (by rfl) T.range (pa_cons (pe_op op_add pe_int (pe_df d_l_draw hr (pa_cons (pv 0) (pa_cons pe_int pa_nil)))) pa_nil)) (blkOk_by (own := [("_law_k", 8)]) (N := N_l_names) (sc := defScope s_l_names) (by decide +kernel)) (fun _ _ _ _ _ => (pg_name (i := 8) sc_l_names.nd rfl (Or.inl rfl))) (fun _ _ _ _ _ => pts_nil) (fun _ _ _ _ _ => (pe_ix ix_str (pv 2) (pe_df d_l_draw hr (pa_cons (pv 0) (pa_cons pe_int pa_nil))) (fun _ _ => rfl))))))
    (pss_cons (ps_set (i := 7) sc_l_names.nd rfl (Or.inr rfl) (pe_df d_l_draw hr (pa_cons (pv 0) (pa_cons (pe_op op_add (pe_callB call_len_str (by rfl) T.len bt_len (pa_cons (pv 6) pa_nil)) pe_int) pa_nil))))
    (pss_cons (ps_if (pt_cmpR op_eq (pv 4) pe_int (nomark _))
      (pss_one (ps_ret (pe_slice sl_list (pe_op op_cat (pe_slice sl_list (pv 3) (po_some (pv 5)) po_none) (pe_slice sl_list (pv 3) po_none (po_some (pv 5)))) po_none (po_some (pv 1)))))
      pss_nil)
    (pss_cons (ps_if (pt_cmpR op_eq (pv 4) pe_int (nomark _))
      (pss_one (ps_ret (pe_lc (own := [("_law_k", 8)]) (g := gName 8) (tt := tYes) rfl sc_l_names.nd (pi_range1 (by rfl) T.range (pa_cons (pv 1) pa_nil)) (blkOk_by (own := [("_law_k", 8)]) (N := N_l_names) (sc := defScope s_l_names) (by decide +kernel)) (fun _ _ _ _ _ => (pg_name (i := 8) sc_l_names.nd rfl (Or.inl rfl))) (fun _ _ _ _ _ => pts_nil) (fun _ _ _ _ _ => (pe_ix ix_str (pv 2) (pe_op op_modN (pe_op op_add (pv 5) (pe_op op_mul pe_int (pv 8))) pe_int) (fun _ _ => rfl))))))
      pss_nil)
    (pss_one (ps_ret (pe_lc (own := [("_law_k", 8)]) (g := gName 8) (tt := tYes) rfl sc_l_names.nd (pi_range1 (by rfl) T.range (pa_cons (pv 1) pa_nil)) (blkOk_by (own := [("_law_k", 8)]) (N := N_l_names) (sc := defScope s_l_names) (by decide +kernel)) (fun _ _ _ _ _ => (pg_name (i := 8) sc_l_names.nd rfl (Or.inl rfl))) (fun _ _ _ _ _ => pts_nil) (fun _ _ _ _ _ => (pe_op op_add_str (pe_op op_add_str (pe_slice sl_str (pv 6) po_none (po_some (pv 7))) (pe_ix ix_str (pv 2) (pe_op op_modN (pe_op op_add (pv 5) (pe_op op_mul pe_int (pv 8))) pe_int) (fun _ _ => rfl))) (pe_slice sl_str (pv 6) (po_some (pv 7)) po_none)))))))))))))), ?_⟩
  refine ⟨_, rfl, _, _, rfl, rfl, by decide +kernel, ⟨_, rfl⟩, _, _, rfl, rfl, by decide +kernel, by decide +kernel, fun wl nwl => ?_⟩
  have hw0 : upd H wl (.lst (words24.map V.str)) wl = some (.lst (words24.map V.str)) := upd_same
  have k0 : Kp [a] H (upd H wl (.lst (words24.map V.str))) := Kp.new Kp.refl nwl
  have hh0 : HandAt (upd H wl (.lst (words24.map V.str))) a c := hh.new nwl
  have nwa : wl ≠ a := (hh.away nwl).1
  have ew : Txt.split (Str.ofString "join give wish withdraw meet undo redo purses lot choices plan room left could yes no ok" ++ Str.ofString " a b ab ba aa z zz") (Str.ofString " ") = words24 := rfl
  rw [ew]
  generalize upd H wl (.lst (words24.map V.str)) = H0 at hw0 k0 hh0 ⊢
  refine ⟨.ref a, rfl, a, c, 4, rfl, hh0, by decide, by decide, fun H1 way k1 hh1 w0 w1 => ?_⟩
  refine ⟨.ref a, rfl, a, c, 24, rfl, hh1, by decide, by decide, fun H2 tn k2 hh2 t0 t1 => ⟨two_sz, fun p np => ?_⟩⟩
  obtain ⟨t, rfl⟩ : ∃ t : Nat, tn = t := ⟨tn.toNat, by omega⟩
  have ht : t < 24 := by omega
  refine ⟨p, [.int way, .int t], rfl, SqT.of upd_same, rfl, _, _, rfl, _, _, rfl, rfl, ?_⟩
  have w1 : upd H2 p (.tup [.int way, .int t]) wl = some (.lst (words24.map V.str)) := new_get np (k2 _ _ (k1 _ _ hw0 fun m => nwa (List.mem_singleton.mp m)) fun m => nwa (List.mem_singleton.mp m))
  have kk : Kp [a] H (upd H2 p (.tup [.int way, .int t])) := Kp.new (Kp.trans k0 (Kp.trans k1 k2)) np
  have hh3 := hh2.new (o := .tup [.int way, .int t]) np
  generalize upd H2 p (.tup [.int way, .int t]) = H3 at w1 kk hh3 ⊢
  refine ⟨⟨_, rfl⟩, .ref a, rfl, a, c, 7, rfl, hh3, by decide, by decide, fun H4 bn k4 hh4 b0 b1 => ⟨1, bn, rfl, rfl, 1 + bn, rfl, by omega, by omega, fun D nD => ?_⟩⟩
  have w4 := k4 _ _ w1 fun m => nwa (List.mem_singleton.mp m)
  have nDa : D ≠ a := (hh4.away nD).1
  have nDw : wl ≠ D := ne_of_none w4 nD
  refine lc_it walk_range (fun i H' => Kp [a] H H' ∧ HandAt H' a c ∧ H' wl = some (.lst (words24.map V.str)) ∧ ∃ xs : List Str, H' D = some (.lst (xs.map V.str)) ∧ xs.length = i ∧ ∀ x ∈ xs, ∃ c, x = ⟨#[c]⟩ ∧ c ∈ lets.cps.toList) ?_ ?_ ?_ ?_
  · exact ⟨Kp.new (Kp.trans kk k4) nD, hh4.new nD, new_get nD w4, [], upd_same, rfl, fun x h => absurd h List.not_mem_nil⟩
  · rintro i H5 _ _
    trivial
  · rintro i v H5 H6 hi ⟨k, hh5, w5, xs, hD, hxl, hxs⟩ ⟨rfl, rfl⟩
    refine ⟨rfl, _, rfl, .ref a, rfl, a, c, 26, rfl, hh5, by decide, by decide, fun H7 r k7 hh7 r0 r1 => ?_⟩
    obtain ⟨m, rfl⟩ : ∃ m : Nat, r = m := ⟨r.toNat, by omega⟩
    have hm : m < 26 := by omega
    refine ⟨lets, m, lt26 m, rfl, rfl, by decide +kernel, atI_nat (lt26_get m hm), _, k7 _ _ hD fun e => nDa (List.mem_singleton.mp e), ?_, ?_⟩
    · rw [List.length_map]; exact lt_sz (by omega)
    · have nD0 := hh4.free (Kp.trans kk k4) nD
      refine ⟨Kp.wrN (Kp.trans k k7) nD0, hh7.wrN hh nD0, by rw [upd_ne nDw]; exact k7 _ _ w5 fun m => nwa (List.mem_singleton.mp m), xs ++ [⟨#[lt26 m]⟩], by rw [upd_same, List.map_append]; rfl, by rw [List.length_append, hxl]; rfl, fun x hx => ?_⟩
      rcases List.mem_append.mp hx with h | h
      · exact hxs x h
      · exact ⟨_, List.mem_singleton.mp h, lt26_mem m hm⟩
  rintro H5 ⟨k5, hh5, w5, xs, hD5, hxl, hxs⟩
  obtain ⟨j1, j2⟩ := join_nil xs hxs
  refine ⟨_, D, xs, rfl, rfl, .inl (SqL.of hD5), ?_, ?_⟩
  · have e0 : (Str.ofString "").length = 0 := by decide +kernel
    have e1 : (xs.map fun x => x.length).sum ≤ xs.length := by
      clear hD5 hxl j1 j2
      induction xs with
      | nil => exact Nat.le_refl _
      | cons x xs ih =>
        obtain ⟨c, rfl, _⟩ := hxs x List.mem_cons_self
        have := ih fun y hy => hxs y (List.mem_cons_of_mem _ hy)
        rw [List.map_cons, List.sum_cons, List.length_cons]
        have e3 : (⟨#[c]⟩ : Str).length = 1 := rfl
        omega
    rw [e0]
    omega
  generalize Txt.join (Str.ofString "") xs = b at j1 j2 ⊢
  have hb7 : b.length ≤ 7 := by omega
  refine ⟨.ref a, rfl, .str b, rfl, b, rfl, Nat.le_trans hb7 (by decide), (b.length : Nat), 1, rfl, rfl, a, c, _, rfl, hh5, by omega, ?_, fun H6 an k6 hh6 a0 a1 => ?_⟩
  · have : ((b.length : Int) + 1) ≤ 8 := by omega
    exact Int.le_trans this (by decide)
  obtain ⟨at_, rfl⟩ : ∃ m : Nat, an = m := ⟨an.toNat, by omega⟩
  have hat : at_ ≤ b.length := by omega
  have w6 := k6 _ _ w5 fun m => nwa (List.mem_singleton.mp m)
  have kk6 := Kp.trans k5 k6
  by_cases way0 : way = 0
  · refine ⟨.int way, rfl, rfl, true, by rw [way0]; rfl, ?_⟩
    refine ⟨.ref wl, rfl, .int t, rfl, t, rfl, wl, _, rfl, SqL.of w6, fun p1 np1 => ?_⟩
    have w7 := new_get (u := .lst (cutV (words24.map V.str) (some (t : Int)) none)) np1 w6
    refine ⟨.ref wl, rfl, .int t, rfl, t, rfl, wl, _, rfl, SqL.of w7, fun p2 np2 => ?_⟩
    have c1 : (cutV (words24.map V.str) (some (t : Int)) none).length ≤ 24 := Nat.le_trans (cutV_length _ _ _) (by rw [List.length_map, words_len]; exact Nat.le_refl _)
    have c2 : (cutV (words24.map V.str) none (some (t : Int))).length ≤ 24 := Nat.le_trans (cutV_length _ _ _) (by rw [List.length_map, words_len]; exact Nat.le_refl _)
    refine ⟨p1, p2, _, _, rfl, rfl, new_get np2 upd_same, upd_same, lt_sz (by omega) |> Nat.le_of_lt, fun p3 np3 => ?_⟩
    refine ⟨.int n, rfl, n, rfl, p3, _, rfl, SqL.of upd_same, fun p4 np4 => ?_⟩
    have k7 := Kp.new (o := .lst (cutV (words24.map V.str) (some (t : Int)) none ++ cutV (words24.map V.str) none (some (t : Int)))) (Kp.new (o := .lst (cutV (words24.map V.str) none (some (t : Int)))) (Kp.new (o := .lst (cutV (words24.map V.str) (some (t : Int)) none)) kk6 np1) np2) np3
    have hh7 := ((hh6.new (o := .lst (cutV (words24.map V.str) (some (t : Int)) none)) np1).new (o := .lst (cutV (words24.map V.str) none (some (t : Int)))) np2).new (o := .lst (cutV (words24.map V.str) (some (t : Int)) none ++ cutV (words24.map V.str) none (some (t : Int)))) np3
    refine q _ p4 (rot t n) (Kp.new k7 np4) (hh7.new np4) (hh7.free k7 np4) (by rw [upd_same, rot_cut ht]) (rot_len ht n2) (names0 ht n2)
  refine ⟨.int way, rfl, rfl, false, bl_f (fun e => way0 (V.int.inj e)), ?_⟩
  by_cases way1 : way = 1
  · refine ⟨.int way, rfl, rfl, true, by rw [way1]; rfl, ?_⟩
    refine ⟨.int n, rfl, n, rfl, by omega, by omega, fun D2 nD2 => ?_⟩
    have nD20 := hh6.free kk6 nD2
    rw [show ((n : Int)).toNat = n by omega]
    refine lc_it walk_range (fun i H' => Kp [a] H H' ∧ HandAt H' a c ∧ H' D2 = some (.lst (((List.range i).map (nm1 t)).map V.str))) ?_ ?_ ?_ ?_
    · exact ⟨Kp.new kk6 nD2, hh6.new nD2, upd_same⟩
    · rintro i H7 _ _
      trivial
    · rintro i v H7 H8 hi ⟨k, hh7, hD⟩ ⟨rfl, rfl⟩
      refine ⟨rfl, .str lets, rfl, .int t, rfl, .int (0 + (i : Int)), rfl, 3, _, rfl, rfl, .inl (by decide), _, _, rfl, rfl, _, 26, rfl, rfl, (show (26 : Int) ≠ 0 by decide), lets, _, lt26 ((t + 3 * i) % 26), rfl, rfl, by decide +kernel, letter_ix, _, hD, ?_, Kp.wrN k nD20, hh7.wrN hh nD20, ?_⟩
      · rw [List.length_map, List.length_map, List.length_range]; exact lt_sz (by omega)
      · rw [upd_same, List.range_succ, List.map_append, List.map_append]; rfl
    · rintro H7 ⟨k, hh7, hD⟩
      exact q _ D2 _ k hh7 nD20 hD (by rw [List.length_map, List.length_range]) (names1 n2)
  · refine ⟨.int way, rfl, rfl, false, bl_f (fun e => way1 (V.int.inj e)), ?_⟩
    refine ⟨.int n, rfl, n, rfl, by omega, by omega, fun D2 nD2 => ?_⟩
    have nD20 := hh6.free kk6 nD2
    rw [show ((n : Int)).toNat = n by omega]
    refine lc_it walk_range (fun i H' => Kp [a] H H' ∧ HandAt H' a c ∧ H' D2 = some (.lst (((List.range i).map (nm2 b at_ t)).map V.str))) ?_ ?_ ?_ ?_
    · exact ⟨Kp.new kk6 nD2, hh6.new nD2, upd_same⟩
    · rintro i H7 _ _
      trivial
    · rintro i v H7 H8 hi ⟨k, hh7, hD⟩ ⟨rfl, rfl⟩
      have s8 : (8 : Nat) ≤ sizeLine := by decide
      have s24 : (24 : Nat) ≤ sizeLine := by decide
      have l1 := cutS_length b none (some (at_ : Int))
      have l2 := cutS_length b (some (at_ : Int)) none
      have l3 : (cutS b none (some (at_ : Int)) ++ (⟨#[lt26 ((t + 3 * i) % 26)]⟩ : Str)).length = (cutS b none (some (at_ : Int))).length + 1 := PySem.Str.length_append _ _
      refine ⟨rfl, .str b, rfl, .int (at_ : Int), rfl, at_, rfl, b, rfl, by omega, .str lets, rfl, .int t, rfl, .int (0 + (i : Int)), rfl, 3, _, rfl, rfl, .inl (by decide), _, _, rfl, rfl, _, 26, rfl, rfl, (show (26 : Int) ≠ 0 by decide), lets, _, lt26 ((t + 3 * i) % 26), rfl, rfl, by decide +kernel, letter_ix, cutS b none (some (at_ : Int)), ⟨#[lt26 ((t + 3 * i) % 26)]⟩, rfl, rfl, ?_, .str b, rfl, .int (at_ : Int), rfl, at_, rfl, b, rfl, by omega, _, _, rfl, rfl, ?_, _, hD, ?_, Kp.wrN k nD20, hh7.wrN hh nD20, ?_⟩
      · have : (⟨#[lt26 ((t + 3 * i) % 26)]⟩ : Str).length = 1 := rfl
        omega
      · rw [l3]; omega
      · rw [List.length_map, List.length_map, List.length_range]; exact lt_sz (by omega)
      · rw [upd_same, List.range_succ, List.map_append, List.map_append]; rfl
    · rintro H7 ⟨k, hh7, hD⟩
      exact q _ D2 _ k hh7 nD20 hD (by rw [List.length_map, List.length_range]) (names2 n2 hat hb7 j2)
end
end Ep

set_option Elab.async false
set_option linter.all false
set_option maxRecDepth 100000
set_option maxHeartbeats 4000000
/-! ## what the law builds: tickets and runs that can be played -/
namespace Ep
open PySem PySem.Spec PyProof.Rows L2
def eR (rs : List Run) (R : List Str) : Int := su rs fun r => if (inR R r.1 && inR R r.2.1) = true then r.2.2 else 0
structure Built (ns : List Str) (t : Str → Int) (rs : List Run) : Prop where
  nm : NamesOk ns
  two : 2 ≤ ns.length
  e1 : ∀ r ∈ rs, r.1 ∈ ns
  e2 : ∀ r ∈ rs, r.2.1 ∈ ns
  ne : ∀ r ∈ rs, r.1 ≠ r.2.1
  pos : ∀ r ∈ rs, 1 ≤ r.2.2
  len : rs.length ≤ 276
  p1 : ∀ r ∈ rs, 0 < t r.1
  p2 : ∀ r ∈ rs, 0 < t r.2.1
  nn : ∀ x ∈ ns, 0 ≤ t x
  pay : ∀ x ∈ ns, spentR rs x ≤ t x
  room : ∀ R : List Str, R.Nodup → (∀ x ∈ R, x ∈ ns) → eR rs R = 0 ∨ eR rs R < su R t
section
variable {ns ns' : List Str} {t t' : Str → Int} {rs rs' : List Run}
theorem eR_nil {R : List Str} : eR [] R = 0 := rfl
theorem Built.nil (h : NamesOk ns) (two : 2 ≤ ns.length) (nn : ∀ x ∈ ns, 0 ≤ t x) : Built ns t [] :=
  ⟨h, two, fun r h => absurd h List.not_mem_nil, fun r h => absurd h List.not_mem_nil, fun r h => absurd h List.not_mem_nil, fun r h => absurd h List.not_mem_nil, Nat.zero_le _, fun r h => absurd h List.not_mem_nil, fun r h => absurd h List.not_mem_nil, nn, nn, fun _ _ _ => .inl rfl⟩
theorem Built.mono (B : Built ns t rs) (h : ∀ x ∈ ns, t x ≤ t' x) : Built ns t' rs :=
  ⟨B.nm, B.two, B.e1, B.e2, B.ne, B.pos, B.len, fun r hr => Int.lt_of_lt_of_le (B.p1 r hr) (h _ (B.e1 r hr)), fun r hr => Int.lt_of_lt_of_le (B.p2 r hr) (h _ (B.e2 r hr)),
    fun x hx => Int.le_trans (B.nn x hx) (h x hx), fun x hx => Int.le_trans (B.pay x hx) (h x hx), fun R nd hR => by
      have := su_le (l := R) (g := t) (g' := t') fun x hx => h x (hR x hx)
      rcases B.room R nd hR with e | e
      · exact .inl e
      · exact .inr (by omega)⟩
theorem Built.perm (B : Built ns t rs) (p : rs'.Perm rs) : Built ns t rs' :=
  ⟨B.nm, B.two, fun r hr => B.e1 r (p.mem_iff.mp hr), fun r hr => B.e2 r (p.mem_iff.mp hr), fun r hr => B.ne r (p.mem_iff.mp hr), fun r hr => B.pos r (p.mem_iff.mp hr), by rw [p.length_eq]; exact B.len,
    fun r hr => B.p1 r (p.mem_iff.mp hr), fun r hr => B.p2 r (p.mem_iff.mp hr), B.nn, fun x hx => by
      have e : spentR rs' x = spentR rs x := su_perm _ p
      rw [e]; exact B.pay x hx, fun R nd hR => by
      have e : eR rs' R = eR rs R := su_perm _ p
      rw [e]; exact B.room R nd hR⟩
theorem Built.names (B : Built ns t rs) (p : ns'.Perm ns) : Built ns' t rs :=
  ⟨B.nm.perm p, by rw [p.length_eq]; exact B.two, fun r hr => p.mem_iff.mpr (B.e1 r hr), fun r hr => p.mem_iff.mpr (B.e2 r hr), B.ne, B.pos, B.len, B.p1, B.p2, fun x hx => B.nn x (p.mem_iff.mp hx), fun x hx => B.pay x (p.mem_iff.mp hx), fun R nd hR => B.room R nd fun x hx => p.mem_iff.mp (hR x hx)⟩
theorem su_upR {R : List Str} {x : Str} {m : Int} (nd : R.Nodup) : su R (up t x (t x + m)) = su R t + (if x ∈ R then m else 0) := by
  by_cases h : x ∈ R
  · rw [su_up _ _ nd h, if_pos h]; omega
  · rw [su_up_not _ _ h, if_neg h]; omega
theorem Built.step (B : Built ns t rs) {x y : Str} {m : Int} (hx : x ∈ ns) (hy : y ∈ ns) (ne : x ≠ y) (hm : 1 ≤ m) (hp : 0 < t y) (hl : rs.length < 276) : Built ns (up t x (t x + m)) (rs ++ [(x, y, m)]) := by
  have up_ge : ∀ z, t z ≤ up t x (t x + m) z := fun z => by
    unfold up
    split
    · rename_i e; rw [e]; omega
    · exact Int.le_refl _
  have mem : ∀ {q : Run → Prop}, (∀ r ∈ rs, q r) → q (x, y, m) → ∀ r ∈ rs ++ [(x, y, m)], q r := fun {q} h1 h2 r hr => by
    rcases List.mem_append.mp hr with h | h
    · exact h1 r h
    · rw [List.mem_singleton.mp h]; exact h2
  refine ⟨B.nm, B.two, mem B.e1 hx, mem B.e2 hy, mem B.ne ne, mem B.pos hm, by rw [List.length_append]; exact hl, mem (fun r hr => Int.lt_of_lt_of_le (B.p1 r hr) (up_ge _)) ?_, mem (fun r hr => Int.lt_of_lt_of_le (B.p2 r hr) (up_ge _)) (Int.lt_of_lt_of_le hp (up_ge _)),
    fun z hz => Int.le_trans (B.nn z hz) (up_ge z), fun z hz => ?_, fun R nd hR => ?_⟩
  · show 0 < up t x (t x + m) x
    rw [up_self]
    have := B.nn x hx
    omega
  · rw [spentR_snoc]
    have := B.pay z hz
    unfold up
    by_cases e : z = x
    · subst e
      rw [if_pos rfl, if_pos rfl]
      show spentR rs z + m ≤ _
      omega
    · rw [if_neg e, if_neg e]; exact this
  · rw [su_upR nd]
    have e : eR (rs ++ [(x, y, m)]) R = eR rs R + (if (inR R x && inR R y) = true then m else 0) := by
      unfold eR
      rw [su_app, su_cons, su_nil]
      show _ + (ite _ m 0 + 0) = _
      rw [Int.add_zero]
    rw [e]
    have q := B.room R nd hR
    by_cases a : x ∈ R
    · rw [if_pos a]
      by_cases b : y ∈ R
      · rw [if_pos (by unfold inR; rw [decide_eq_true a, decide_eq_true b]; rfl)]
        have s1 := su_mem_le (l := R) (g := t) (fun z hz => B.nn z (hR z hz)) b
        right
        rcases q with q | q <;> omega
      · rw [if_neg (by unfold inR; rw [decide_eq_false b]; simp)]
        rcases q with q | q
        · left; omega
        · right; omega
    · rw [if_neg a, if_neg (by unfold inR; rw [decide_eq_false a]; simp)]
      rcases q with q | q
      · left; omega
      · right; omega
/-! ### as a table -/
theorem eT_rs {S : Str → Bool} (h : ∀ r ∈ rs, r.1 ≠ r.2.1) : eT (tabL rs) (totL rs) S = su rs fun r => if (S r.1 && S r.2.1) = true then r.2.2 else 0 := by
  unfold eT
  have e : su (tabL rs) (fun p => if (S p.1 && S p.2) = true then totL rs p else 0) = su (tabL rs) fun p => su rs fun r => if kPr r = p then (if (S (kPr r).1 && S (kPr r).2) = true then r.2.2 else 0) else 0 := su_congr fun p _ => by
    by_cases c : (S p.1 && S p.2) = true
    · rw [if_pos c]
      refine su_congr fun r _ => ?_
      by_cases z : kPr r = p
      · rw [if_pos z, if_pos z, z, if_pos c]
      · rw [if_neg z, if_neg z]
    · rw [if_neg c]
      refine (su_zero fun r _ => ?_).symm
      by_cases z : kPr r = p
      · rw [if_pos z, z, if_neg c]
      · rw [if_neg z]
  rw [e, su_swap (nodup_tabK rs) rs kPr fun r => if (S (kPr r).1 && S (kPr r).2) = true then r.2.2 else 0]
  refine su_congr fun r hr => ?_
  rw [if_pos ((mem_tabK rs).mpr ⟨r, hr, rfl⟩)]
  have q : (S (kPr r).1 && S (kPr r).2) = (S r.1 && S r.2.1) := by
    rcases pr_mem (h r hr) with z | z
    · show (S (pr r.1 r.2.1).1 && S (pr r.1 r.2.1).2) = _
      rw [z]
    · show (S (pr r.1 r.2.1).1 && S (pr r.1 r.2.1).2) = _
      rw [z]
      exact Bool.and_comm _ _
  rw [q]
theorem eT_perm {ps ps' : List (Str × Str)} {T : Str × Str → Int} {S : Str → Bool} (p : ps'.Perm ps) : eT ps' T S = eT ps T S := su_perm _ p
theorem tab_perm (h : ∀ p, p ∈ tabL rs' ↔ p ∈ tabL rs) : (tabL rs').Perm (tabL rs) := (List.perm_ext_iff_of_nodup (nodup_tabK rs') (nodup_tabK rs)).mpr h
theorem Built.mem_tab (B : Built ns t rs) {p : Str × Str} (hp : p ∈ tabL rs) : LtS p.1 p.2 ∧ p.1 ∈ ns ∧ p.2 ∈ ns ∧ 0 < t p.1 ∧ 0 < t p.2 := by
  obtain ⟨r, hr, rfl⟩ := (mem_tabK rs).mp hp
  have hne := B.ne r hr
  refine ⟨pr_lt hne, ?_⟩
  show (pr r.1 r.2.1).1 ∈ ns ∧ (pr r.1 r.2.1).2 ∈ ns ∧ 0 < t (pr r.1 r.2.1).1 ∧ 0 < t (pr r.1 r.2.1).2
  rcases pr_mem hne with z | z <;> rw [z]
  · exact ⟨B.e1 r hr, B.e2 r hr, B.p1 r hr, B.p2 r hr⟩
  · exact ⟨B.e2 r hr, B.e1 r hr, B.p2 r hr, B.p1 r hr⟩
theorem Built.lot (B : Built ns t rs) (hle : ∀ p, totL rs p ≤ 10 ^ 24) (hT : totL rs' = totL rs) (hm : ∀ p, p ∈ tabL rs' ↔ p ∈ tabL rs) : LotOk ns (tabL rs') (totL rs') :=
  ⟨nodup_tabK rs', fun p hp => (B.mem_tab ((hm p).mp hp)).1, fun p hp => (B.mem_tab ((hm p).mp hp)).2.1, fun p hp => (B.mem_tab ((hm p).mp hp)).2.2.1, fun p hp => by rw [hT]; exact totK_pos B.pos ((hm p).mp hp), fun p hp => by rw [hT]; exact hle p,
    by have := (tab_perm hm).length_eq; have h2 : (tabL rs).length ≤ rs.length := length_tabK rs; have := B.len; omega⟩
theorem Built.playable (B : Built ns t rs) (hT : totL rs' = totL rs) (hm : ∀ p, p ∈ tabL rs' ↔ p ∈ tabL rs) : Playable ns t (tabL rs') (totL rs') :=
  ⟨B.nn, fun p hp => (B.mem_tab ((hm p).mp hp)).2.2.2, fun R nd hR => by
    rw [hT, eT_perm (tab_perm hm), eT_rs B.ne]
    exact B.room R nd hR⟩
theorem Built.poor (hT : totL rs' = totL rs) {x : Str} (h : ∃ p ∈ tabL rs', p.1 = x ∨ p.2 = x) : Poor (up t x 0) (tabL rs') := by
  obtain ⟨p, hp, e | e⟩ := h
  · exact ⟨p, hp, .inl (by rw [e, up_self])⟩
  · exact ⟨p, hp, .inr (by rw [e, up_self])⟩
theorem Built.tot_le (B : Built ns t rs) (hm : ∀ r ∈ rs, r.2.2 ≤ 10 ^ 21) (p : Str × Str) : totL rs p ≤ rs.length * 10 ^ 21 := su_const_le fun r hr => by
  split
  · exact hm r hr
  · exact by decide
/-! ### greater -/
def big : Int := 10 ^ 30 - 2
def scR (f : Int) (rs : List Run) : List Run := rs.map fun r => (r.1, r.2.1, r.2.2 * f)
def clip (f : Int) (t : Str → Int) : Str → Int := fun x => if t x * f < big then t x * f else big
theorem scR_spent (f : Int) (rs : List Run) (x : Str) : spentR (scR f rs) x = spentR rs x * f := by
  unfold spentR scR
  rw [su_map, ← su_mulr]
  refine su_congr fun r _ => ?_
  show (if r.1 = x then r.2.2 * f else 0) = _
  split
  · rfl
  · rw [Int.zero_mul]
theorem scR_eR (f : Int) (rs : List Run) (R : List Str) : eR (scR f rs) R = eR rs R * f := by
  unfold eR scR
  rw [su_map, ← su_mulr]
  refine su_congr fun r _ => ?_
  show (if (inR R r.1 && inR R r.2.1) = true then r.2.2 * f else 0) = _
  split
  · rfl
  · rw [Int.zero_mul]
theorem scR_tot (f : Int) (rs : List Run) (p : Str × Str) : totL (scR f rs) p = totL rs p * f := by
  unfold totL totK scR
  rw [su_map, ← su_mulr]
  refine su_congr fun r _ => ?_
  show (if kPr r = p then r.2.2 * f else 0) = _
  split
  · rfl
  · rw [Int.zero_mul]
theorem Built.great (B : Built ns t rs) {f : Int} (hf : 1 ≤ f) (hm : ∀ r ∈ rs, r.2.2 * f ≤ 10 ^ 24) : Built ns (clip f t) (scR f rs) := by
  have fpos : 0 < f := by omega
  have mulpos : ∀ {a : Int}, 0 < a → 0 < a * f := fun h => Int.mul_pos h fpos
  have big1 : 0 < big := by decide
  have hbig : (276 : Int) * 10 ^ 24 < big := by decide
  have cpos : ∀ {x}, 0 < t x → 0 < clip f t x := fun {x} h => by
    unfold clip
    split
    · exact mulpos h
    · exact big1
  have mem : ∀ {q : Run → Prop}, (∀ r ∈ rs, q (r.1, r.2.1, r.2.2 * f)) → ∀ r ∈ scR f rs, q r := fun {q} h r hr => by
    obtain ⟨r0, h0, rfl⟩ := List.mem_map.mp hr
    exact h r0 h0
  have hlen : (rs.length : Int) ≤ 276 := Int.ofNat_le.mpr B.len
  have sumle : ∀ (g : Run → Bool), su rs (fun r => if g r = true then r.2.2 * f else 0) < big := fun g => by
    have h1 := su_const_le (l := rs) (g := fun r => if g r = true then r.2.2 * f else 0) (c := 10 ^ 24) fun r hr => by
      split
      · exact hm r hr
      · exact by decide
    have h2 : (rs.length : Int) * 10 ^ 24 ≤ 276 * 10 ^ 24 := Int.mul_le_mul_of_nonneg_right hlen (by decide)
    omega
  refine ⟨B.nm, B.two, mem fun r hr => B.e1 r hr, mem fun r hr => B.e2 r hr, mem fun r hr => B.ne r hr, mem fun r hr => ?_, by unfold scR; rw [List.length_map]; exact B.len, mem fun r hr => cpos (B.p1 r hr), mem fun r hr => cpos (B.p2 r hr), fun x hx => ?_, fun x hx => ?_, fun R nd hR => ?_⟩
  · show 1 ≤ r.2.2 * f
    have := mulpos (Int.lt_of_lt_of_le (by decide : (0 : Int) < 1) (B.pos r hr))
    omega
  · unfold clip
    split
    · exact Int.mul_nonneg (B.nn x hx) (by omega)
    · exact Int.le_of_lt big1
  · unfold clip
    split
    · rw [scR_spent]
      exact Int.mul_le_mul_of_nonneg_right (B.pay x hx) (by omega)
    · have e : spentR (scR f rs) x = su rs fun r => if decide (r.1 = x) = true then r.2.2 * f else 0 := by
        unfold spentR scR
        rw [su_map]
        exact su_congr fun r _ => by
          show (if r.1 = x then r.2.2 * f else 0) = _
          by_cases h : r.1 = x
          · rw [if_pos h, if_pos (decide_eq_true h)]
          · rw [if_neg h, if_neg (by simpa using h)]
      rw [e]
      exact Int.le_of_lt (sumle _)
  · have e : eR (scR f rs) R = su rs fun r => if (inR R r.1 && inR R r.2.1) = true then r.2.2 * f else 0 := by
      unfold eR scR
      rw [su_map]
    have hlt : eR (scR f rs) R < big := by rw [e]; exact sumle _
    have cnn : ∀ x ∈ R, 0 ≤ clip f t x := fun x hx => by
      unfold clip
      split
      · exact Int.mul_nonneg (B.nn x (hR x hx)) (by omega)
      · exact Int.le_of_lt big1
    by_cases hc : ∃ x ∈ R, ¬ t x * f < big
    · obtain ⟨x, hx, h⟩ := hc
      have s1 := su_mem_le (l := R) (g := clip f t) cnn hx
      have s2 : clip f t x = big := by unfold clip; rw [if_neg h]
      right
      omega
    · have s1 : su R (clip f t) = su R t * f := by
        rw [← su_mulr]
        exact su_congr fun x hx => by
          unfold clip
          rw [if_pos]
          exact Classical.byContradiction fun h => hc ⟨x, hx, h⟩
      rw [s1, scR_eR]
      rcases B.room R nd hR with q | q
      · left; rw [q, Int.zero_mul]
      · right; exact Int.mul_lt_mul_of_pos_right q fpos
theorem clip_le (f : Int) (t : Str → Int) (x : Str) : clip f t x ≤ big := by
  unfold clip
  split
  · omega
  · exact Int.le_refl _
end
/-- a list of refs or of texts is not the hand -/
theorem HandAt.neRefs {H : Hp} {a c l : Addr} {ts : List Addr} (h : HandAt H a c) (e : H l = some (.lst (ts.map V.ref))) : l ≠ a := fun z => by
  obtain ⟨n, h2, h3, h4, h5, zs, e1, _⟩ := h
  rw [z, e1] at e
  have e := HO.lst.inj (Option.some.inj e)
  cases ts with
  | nil => cases e
  | cons u us =>
    cases us with
    | nil => cases e
    | cons v vs => cases e
theorem HandAt.neStrs {H : Hp} {a c l : Addr} {xs : List Str} (h : HandAt H a c) (e : H l = some (.lst (xs.map V.str))) : l ≠ a := fun z => by
  obtain ⟨n, h2, h3, h4, h5, zs, e1, _⟩ := h
  rw [z, e1] at e
  have e := HO.lst.inj (Option.some.inj e)
  cases xs with
  | nil => cases e
  | cons u us => cases e
section
variable {H H' : Hp} {a c l d : Addr} {ts : List Addr} {xs : List Str} {rs : List Run} {ns : List Str} {f : Str → V}
theorem HandAt.refs (h : HandAt H a c) (k : Kp [a] H H') (e : H l = some (.lst (ts.map V.ref))) : H' l = some (.lst (ts.map V.ref)) := k _ _ e fun m => h.neRefs e (List.mem_singleton.mp m)
theorem HandAt.strs (h : HandAt H a c) (k : Kp [a] H H') (e : H l = some (.lst (xs.map V.str))) : H' l = some (.lst (xs.map V.str)) := k _ _ e fun m => h.neStrs e (List.mem_singleton.mp m)
theorem HandAt.runs (h : HandAt H a c) (k : Kp [a] H H') (e : RunsAt H l rs) : RunsAt H' l rs := by
  obtain ⟨ts, h1, h2⟩ := e
  exact ⟨ts, h.refs k h1, Paired.mapP h2 fun t r z => k _ _ z (h.nmem z fun _ e => by cases e)⟩
theorem HandAt.dict (h : HandAt H a c) (k : Kp [a] H H') (e : H d = some (dN ns f)) : H' d = some (dN ns f) := k _ _ e (h.nmem e fun _ e => by cases e)
theorem HandAt.tup (h : HandAt H a c) {vs : List V} (k : Kp [a] H H') (e : H d = some (.tup vs)) : H' d = some (.tup vs) := k _ _ e (h.nmem e fun _ e => by cases e)
theorem HandAt.purse {K : PySem.W.Frag} {t : Str → Int} (h : HandAt H a c) (k : Kp [a] H H') (e : PurAt K H l ns t) : PurAt K H' l ns t := e.kp k h.lists
theorem HandAt.lot {K : PySem.W.Frag} {ps : List (Str × Str)} {T : Str × Str → Int} (h : HandAt H a c) (k : Kp [a] H H') (e : LotAt K H l ps T) : LotAt K H' l ps T := e.kp k h.lists
end
end Ep

set_option Elab.async false
set_option linter.all false
set_option maxRecDepth 100000
set_option maxHeartbeats 4000000
/-! ## the law: undone -/
namespace Ep
open PySem PySem.Spec PyProof.Rows L2
/-- what is kept while tickets and runs are built -/
structure UF (H H' : Hp) (a c ln d L : Addr) (ns : List Str) (t : Str → Int) (us : List Addr) (rs : List Run) : Prop where
  hh0 : HandAt H a c
  d0 : H d = none
  l0 : H L = none
  nl : ln ≠ L
  k : Kp [a] H H'
  hh : HandAt H' a c
  ln : H' ln = some (.lst (ns.map V.str))
  d : H' d = some (dI ns t)
  L : H' L = some (.lst (us.map V.ref))
  us : Paired (RunAt H') us rs
section
variable {H H' H'' : Hp} {a c ln d L p : Addr} {ns : List Str} {t t' : Str → Int} {us : List Addr} {rs : List Run} {o : HO}
theorem UF.step (u : UF H H' a c ln d L ns t us rs) (k : Kp [a] H' H'') (hh : HandAt H'' a c) : UF H H'' a c ln d L ns t us rs :=
  ⟨u.hh0, u.d0, u.l0, u.nl, Kp.trans u.k k, hh, u.hh.strs k u.ln, u.hh.dict k u.d, u.hh.refs k u.L, Paired.mapP u.us fun x r z => u.hh.tup k z⟩
theorem UF.new (u : UF H H' a c ln d L ns t us rs) (n : H' p = none) : UF H (upd H' p o) a c ln d L ns t us rs := u.step (Kp.new Kp.refl n) (u.hh.new n)
theorem UF.put (u : UF H H' a c ln d L ns t us rs) : UF H (upd H' d (dI ns t')) a c ln d L ns t' us rs := by
  have n1 : ln ≠ d := fun z => by have q := u.ln; rw [z, u.d] at q; cases q
  have n2 : L ≠ d := fun z => by have q := u.L; rw [z, u.d] at q; cases q
  exact ⟨u.hh0, u.d0, u.l0, u.nl, Kp.wrN u.k u.d0, u.hh.wrN u.hh0 u.d0, by rw [upd_ne n1]; exact u.ln, upd_same, by rw [upd_ne n2]; exact u.L, Paired.mapP u.us fun x r z => by
    show upd _ _ _ _ = _
    rw [upd_ne (fun e => by rw [e] at z; have q := u.d; rw [show H' d = _ from z] at q; cases q)]; exact z⟩
theorem UF.app (u : UF H H' a c ln d L ns t us rs) (n : H' p = none) {x y : Str} {m : Int} : UF H (upd (upd H' p (.tup [.str x, .str y, .int m])) L (.lst (us.map V.ref ++ [.ref p]))) a c ln d L ns t (us ++ [p]) (rs ++ [(x, y, m)]) := by
  obtain ⟨g1, g2, g3⟩ := grow (c := fun r : Run => [.str r.1, .str r.2.1, .int r.2.2]) (x, y, m) u.L u.us n
  have v := u.new (o := .tup [.str x, .str y, .int m]) n
  have n2 : d ≠ L := fun z => by have q := u.L; rw [← z, u.d] at q; cases q
  exact ⟨u.hh0, u.d0, u.l0, u.nl, Kp.wrN v.k u.l0, v.hh.wrN u.hh0 u.l0, by rw [upd_ne u.nl]; exact v.ln, by rw [upd_ne n2]; exact v.d, g2, g3⟩
end
theorem bits_le {r s : Int} (h1 : 0 ≤ r) (h2 : r < 2) (h3 : 0 ≤ s) (h4 : s < 3) : 0 ≤ r * s ∧ r * s ≤ 2 := by
  have : r = 0 ∨ r = 1 := by omega
  rcases this with rfl | rfl
  · rw [Int.zero_mul]; omega
  · rw [Int.one_mul]; omega
structure Fine (ns : List Str) (t : Str → Int) (rs : List Run) : Prop where
  B : Built ns t rs
  top : ∀ x ∈ ns, t x ≤ 10 + rs.length * 10 ^ 21
  mx : ∀ r ∈ rs, r.2.2 ≤ 10 ^ 21
theorem Fine.perm {ns : List Str} {t : Str → Int} {rs rs' : List Run} (F : Fine ns t rs) (p : rs'.Perm rs) : Fine ns t rs' := ⟨F.B.perm p, by rw [p.length_eq]; exact F.top, fun r hr => F.mx r (p.mem_iff.mp hr)⟩
section
variable {P : Program} {w : World} {K : PySem.W.Frag} {mg : Str → Option Value} {base : Heap} {f : Addr} {fd : FuncData}
def p_undone : Sp := fun vs H Q _ => ∃ a c, vs = [.ref a, .int 24, .int 40] ∧ HandAt H a c ∧ ∀ H' p d l (ns : List Str) t rs, Kp [a] H H' → HandAt H' a c → H' p = some (.tup [.ref d, .ref l]) → H' d = some (dI ns t) → H d = none → RunsAt H' l rs → Fine ns t rs → Q (.ref p) H'
abbrev s_l_undone : Stmt := top 57
abbrev N_l_undone : List Str := ["_law_hand_here", "_law_limit", "_law_tally", "_law_names_here", "_law_tickets", "_law_k", "_law_runs", "_law_alive", "_law_other", "_law_rest", "_law_payer", "_law_many", "_law_name"]
theorem sc_l_undone : FnScope N_l_undone ["_law_hand_here", "_law_limit", "_law_tally"] (defScope s_l_undone) := ⟨rfl, rfl, rfl, by decide +kernel, rfl, by decide +kernel, by decide +kernel⟩
theorem ok_l_undone (F : FnP K "_law_undone" "_law_undone" s_l_undone f fd) (T : Txt K mg) (d_l_draw : Df P w K mg base CX0 3 "_law_draw" ["_law_hand_here", "_law_tally"] p_draw) (d_l_names : Df P w K mg base CX0 4 "_law_names" ["_law_hand_here", "_law_many"] p_l_names)
    (d_l_count : Df P w K mg base CX0 4 "_law_count" ["_law_hand_here"] p_count) : FnOk P w K mg base CX0 5 f fd ["_law_hand_here", "_law_limit", "_law_tally"] p_undone := by
  refine ok0 F sc_l_undone (fun _ _ _ _ h => by obtain ⟨a, l, rfl, _⟩ := h; rfl) fun cdv A outer s H vs Q E hr h => ?_
  obtain ⟨a, c, rfl, hh, q⟩ := h
  have hu := hu_of hr
  refine ⟨_, (pss_cons (ps_set (i := 3) sc_l_undone.nd rfl (Or.inl rfl) (pe_df d_l_names hr (pa_cons (pv 0) (pa_cons (pe_op op_add pe_int (pe_df d_l_draw hr (pa_cons (pv 0) (pa_cons (pe_op op_sub (pv 1) pe_int) pa_nil)))) pa_nil))))
    (pss_cons (ps_set (i := 4) sc_l_undone.nd rfl (Or.inr rfl) (pe_callTy (call_dictP rfl) (by rfl) T.dict bt_dict (pa_cons (pe_lc (own := [("_law_name", 12)]) (g := gName 12) (tt := tYes) rfl sc_l_undone.nd (pi_list (pv 3)) (blkOk_by (own := [("_law_name", 12)]) (N := N_l_undone) (sc := defScope s_l_undone) (by decide +kernel)) (fun _ _ _ _ _ => (pg_name (i := 12) sc_l_undone.nd rfl (Or.inl rfl))) (fun _ _ _ _ _ => pts_nil) (fun _ _ _ _ _ => (pe_tup (pa_cons (pv 12) (pa_cons pe_int pa_nil))))) pa_nil)))
    (C8.pss_cut (ps_for PassesOwn.never rfl (pi_range1 (by rfl) T.range (pa_cons (pe_op op_add pe_int (pe_op op_mul (pe_df d_l_draw hr (pa_cons (pv 0) (pa_cons pe_int pa_nil))) (pe_df d_l_draw hr (pa_cons (pv 0) (pa_cons pe_int pa_nil))))) pa_nil)) (pg_name (i := 5) sc_l_undone.nd rfl (Or.inl rfl))
      (pss_one (ps_daug hu (pv 4) (pe_ix ix_list (pv 3) (pe_df d_l_draw hr (pa_cons (pv 0) (pa_cons (pe_callB call_len_seq (by rfl) T.len bt_len (pa_cons (pv 3) pa_nil)) pa_nil))) (fun _ _ => rfl)) (pe_op op_add pe_int (pe_op op_mul (pe_df d_l_draw hr (pa_cons (pv 0) (pa_cons pe_int pa_nil))) (pe_df d_l_draw hr (pa_cons (pv 0) (pa_cons pe_int pa_nil))))) in_add (fun _ _ _ => rfl))))
    (pss_cons (ps_set (i := 6) sc_l_undone.nd rfl (Or.inl rfl) (pe_lst pa_nil))
    (pss_cons (ps_for PassesOwn.never rfl (pi_range1 (by rfl) T.range (pa_cons (pe_df d_l_draw hr (pa_cons (pv 0) (pa_cons (pe_op op_add (pv 2) pe_int) pa_nil))) pa_nil)) (pg_name (i := 5) sc_l_undone.nd rfl (Or.inl rfl))
      (pss_cons (ps_setLc (i := 7) (own := [("_law_name", 12)]) (g := gName 12) rfl sc_l_undone.nd rfl rfl (sw_true rfl rfl rfl (by decide +kernel)) (pi_list (pv 3)) (blkOk_by (own := [("_law_name", 12)]) (N := N_l_undone) (sc := defScope s_l_undone) (by decide +kernel)) (fun _ _ _ _ _ => (pg_name (i := 12) sc_l_undone.nd rfl (Or.inl rfl))) (fun _ _ _ _ _ => pts_one (pt_cmpR op_gt (pe_dget hu (pv 4) (pv 12) (fun _ _ => rfl)) pe_int (nomark _))) (fun _ _ _ _ _ => (pv 12)))
      (pss_cons (ps_set (i := 8) sc_l_undone.nd rfl (Or.inr rfl) (pe_ix ix_list (pv 7) (pe_df d_l_draw hr (pa_cons (pv 0) (pa_cons (pe_callB call_len_seq (by rfl) T.len bt_len (pa_cons (pv 7) pa_nil)) pa_nil))) (fun _ _ => rfl)))
      (pss_cons (ps_setLc (i := 9) (own := [("_law_name", 12)]) (g := gName 12) rfl sc_l_undone.nd rfl rfl (sw_true rfl rfl rfl (by decide +kernel)) (pi_list (pv 3)) (blkOk_by (own := [("_law_name", 12)]) (N := N_l_undone) (sc := defScope s_l_undone) (by decide +kernel)) (fun _ _ _ _ _ => (pg_name (i := 12) sc_l_undone.nd rfl (Or.inl rfl))) (fun _ _ _ _ _ => pts_one (pt_cmpR op_ne (pv 12) (pv 8) (nomark _))) (fun _ _ _ _ _ => (pv 12)))
      (pss_cons (ps_set (i := 10) sc_l_undone.nd rfl (Or.inl rfl) (pe_ix ix_list (pv 9) (pe_df d_l_draw hr (pa_cons (pv 0) (pa_cons (pe_callB call_len_seq (by rfl) T.len bt_len (pa_cons (pv 9) pa_nil)) pa_nil))) (fun _ _ => rfl)))
      (pss_cons (ps_set (i := 11) sc_l_undone.nd rfl (Or.inl rfl) (pe_df d_l_count hr (pa_cons (pv 0) pa_nil)))
      (pss_cons (ps_daug hu (pv 4) (pv 10) (pv 11) in_add (fun _ _ _ => rfl))
      (pss_one (ps_expr (pe_bm PySem.F.plainAttrs_list PySem.F.slot_list_append PySem.F.type_list_append mt_append (pv 6) (pa_cons (pe_tup (pa_cons (pv 10) (pa_cons (pv 8) (pa_cons (pv 11) pa_nil)))) pa_nil)))))))))))
    (pss_one (ps_ret (pe_tup (pa_cons (pv 4) (pa_cons (pe_revL (pv 6)) pa_nil)))))))))), ?_⟩
  refine ⟨.ref a, rfl, .ref a, rfl, .int 24, rfl, 24, 1, rfl, rfl, a, c, 23, rfl, hh, by decide, by decide, fun H1 r k1 hh1 r0 r1 => ⟨2, r, rfl, rfl, a, c, (2 + r).toNat, ?_, hh1, by omega, by omega, fun H2 ln ns k2 hh2 nln hln hnl nok => ?_⟩⟩
  · rw [show (((2 + r).toNat : Nat) : Int) = 2 + r by omega]
  have k12 := Kp.trans k1 k2
  have two : 2 ≤ ns.length := by omega
  have n24 : ns.length ≤ 24 := nok.len
  have nln0 : H ln = none := hh1.free k1 nln
  refine ⟨.ref ln, rfl, ln, rfl, ⟨_, SqL.of hln⟩, fun D nD => ?_⟩
  refine lc_it (walk_list (xs := ns.map V.str)) (fun i H' => Same H2 H' ∧ ∃ us : List Addr, H' D = some (.lst (us.map V.ref)) ∧ Paired (fun u x => H' u = some (.tup (cE (fun _ => 0) x))) us (ns.take i)) ?_ ?_ ?_ ?_
  · exact ⟨Same.new Same.rfl nD, [], upd_same, .nil⟩
  · rintro i H3 _ ⟨k, _⟩
    exact SqL.of (k _ _ hln)
  · rintro i v H3 H4 hi ⟨k, us, hD, hus⟩ ⟨rfl, hv⟩
    obtain ⟨x, hx, rfl⟩ := map_str_get hv
    refine ⟨rfl, .str x, rfl, two_sz, fun u nu => ?_⟩
    obtain ⟨g1, g2, g3⟩ := grow (c := cE fun _ => 0) x hD hus nu
    refine ⟨_, g1, ?_, Same.wrN (Same.new k nu) nD, us ++ [u], g2, by rw [take_snoc hx]; exact g3⟩
    rw [List.length_map]
    have := Paired.length hus
    rw [List.length_take] at this
    exact lt_sz (by omega)
  rintro H3 ⟨k3, us, hD, hus⟩
  rw [List.take_of_length_le (by rw [List.length_map]; exact Nat.le_refl _)] at hus
  refine ⟨D, us, mkT kS ns fun x => .int 0, rfl, SqL.of hD, ents_pairs hus, fun d nd1 => ?_⟩
  rw [merge_nil nok.nd]
  have hh3 := hh2.same k3
  have kk3 := Kp.trans k12 (Same.kp k3)
  have nd0 : H d = none := hh3.free kk3 nd1
  have k4 : Kp [a] H (upd H3 d (dI ns fun _ => 0)) := Kp.new kk3 nd1
  have hh4 : HandAt (upd H3 d (dI ns fun _ => 0)) a c := hh3.new nd1
  have hln4 : upd H3 d (dI ns fun _ => 0) ln = some (.lst (ns.map V.str)) := new_get nd1 (k3 _ _ hln)
  have hd4 : upd H3 d (dI ns fun _ => 0) d = some (dI ns fun _ => 0) := upd_same
  clear hus hD k3
  refine ⟨fun σ H' => (∃ x5 x12, σ = [some (.ref a), some (.int 24), some (.int 40), some (.ref ln), some (.ref d), x5, none, none, none, none, none, none, x12]) ∧ Kp [a] H H' ∧ HandAt H' a c ∧ H' ln = some (.lst (ns.map V.str)) ∧ ∃ t : Str → Int, H' d = some (dI ns t) ∧ (∀ x ∈ ns, 0 ≤ t x ∧ t x ≤ 9) ∧ ∃ x ∈ ns, 0 < t x, ?_, ?_⟩
  · refine ⟨.ref a, rfl, a, c, 2, rfl, hh4, by decide, by decide, fun H5 r5 k5 hh5 r50 r51 => ⟨.ref a, rfl, a, c, 3, rfl, hh5, by decide, by decide, fun H6 r6 k6 hh6 r60 r61 => ⟨r5, r6, rfl, rfl, .inr ⟨by omega, by omega⟩, 1, _, rfl, rfl, 1 + r5 * r6, rfl, ?_⟩⟩⟩
    obtain ⟨b1, b2⟩ := bits_le r50 r51 r60 r61
    refine ⟨by omega, by omega, ?_⟩
    refine for_it walk_range (fun i σ H' => (∃ x5 x12, σ = [some (.ref a), some (.int 24), some (.int 40), some (.ref ln), some (.ref d), x5, none, none, none, none, none, none, x12]) ∧ Kp [a] H H' ∧ HandAt H' a c ∧ H' ln = some (.lst (ns.map V.str)) ∧ ∃ t : Str → Int, H' d = some (dI ns t) ∧ (∀ x ∈ ns, 0 ≤ t x ∧ t x ≤ 3 * i) ∧ (0 < i → ∃ x ∈ ns, 0 < t x)) ?_ ?_ ?_ ?_
    · exact ⟨⟨_, _, rfl⟩, Kp.trans k4 (Kp.trans k5 k6), hh6, hh5.strs k6 (hh4.strs k5 hln4), _, hh5.dict k6 (hh4.dict k5 hd4), fun x hx => ⟨Int.le_refl _, Int.le_refl _⟩, fun h => absurd h (by decide)⟩
    · rintro i σ H7 _ _
      trivial
    · rintro i v σ H7 H8 hi ⟨⟨x5, x12, rfl⟩, k7, hh7, hln7, t, hd7, ht, _⟩ ⟨rfl, rfl⟩
      refine ⟨.ref d, rfl, .ref ln, rfl, .ref a, rfl, .ref ln, rfl, ln, _, rfl, .inl (SqL.of hln7), a, c, _, rfl, hh7, by rw [List.length_map]; omega, ?_, fun H9 r9 k9 hh9 r90 r91 => ?_⟩
      · exact Int.le_trans (show (((ns.map V.str).length : Nat) : Int) ≤ 24 by rw [List.length_map]; omega) (by decide)
      obtain ⟨vx, hvx⟩ := get_ex (l := ns.map V.str) r90 r91
      obtain ⟨x, hx, rfl⟩ := map_str_get hvx
      have hxm : x ∈ ns := List.mem_of_getElem? hx
      obtain ⟨m9, rfl⟩ : ∃ m : Nat, r9 = m := ⟨r9.toNat, by omega⟩
      refine ⟨ln, _, m9, .str x, rfl, rfl, SqL.of (hh7.strs k9 hln7), atI_nat hvx, d, _, rfl, dN_get (hh7.dict k9 hd7) hxm, ?_⟩
      refine ⟨.ref a, rfl, a, c, 2, rfl, hh9, by decide, by decide, fun HA rA kA hhA rA0 rA1 => ⟨.ref a, rfl, a, c, 3, rfl, hhA, by decide, by decide, fun HB rB kB hhB rB0 rB1 => ⟨rA, rB, rfl, rfl, .inr ⟨by omega, by omega⟩, 1, _, rfl, rfl, t x, _, rfl, rfl, _, dI_put (n := t x + (1 + rA * rB)) (hhA.dict kB (hh9.dict kA (hh7.dict k9 hd7))) hxm (lt_sz (by omega)), ?_⟩⟩⟩
      obtain ⟨b3, b4⟩ := bits_le rA0 rA1 rB0 rB1
      have kk := Kp.trans k7 (Kp.trans k9 (Kp.trans kA kB))
      have nld : ln ≠ d := fun z => by rw [z, hd7] at hln7; cases hln7
      refine ⟨⟨_, _, rfl⟩, Kp.wrN kk nd0, hhB.wrN hh nd0, by rw [upd_ne nld]; exact hhA.strs kB (hh9.strs kA (hh7.strs k9 hln7)), _, upd_same, fun y hy => ?_, fun _ => ⟨x, hxm, ?_⟩⟩
      · unfold up
        have h1 := ht y hy
        have h2 := ht x hxm
        split
        · constructor <;> omega
        · constructor <;> omega
      · rw [up_self]
        have := ht x hxm
        omega
    · rintro σ H7 ⟨⟨x5, x12, rfl⟩, k7, hh7, hln7, t, hd7, ht, hpos⟩
      refine ⟨⟨_, _, rfl⟩, k7, hh7, hln7, t, hd7, fun x hx => ?_, hpos (by omega)⟩
      have := ht x hx
      constructor <;> omega
  clear k4 hh4 hln4 hd4
  rintro σ H4 ⟨⟨x5, x12, rfl⟩, k4, hh4, hln4, t0, hd4, ht0, hpos0⟩
  refine ⟨Nat.zero_le _, fun L nL => ?_⟩
  have u0 : UF H (upd H4 L (.lst [])) a c ln d L ns t0 [] [] := ⟨hh, nd0, hh4.free k4 nL, ne_of_none hln4 nL, Kp.new k4 nL, hh4.new nL, new_get nL hln4, new_get nL hd4, upd_same, .nil⟩
  generalize upd H4 L (.lst []) = H5 at u0 ⊢
  refine ⟨.ref a, rfl, .int 40, rfl, 40, 1, rfl, rfl, a, c, _, rfl, u0.hh, by decide, by decide, fun H6 r6 k6 hh6 r60 r61 => ⟨r6, rfl, by omega, by omega, ?_⟩⟩
  refine for_it walk_range (fun i σ H' => (∃ x5 x7 x8 x9 x10 x11 x12, σ = [some (.ref a), some (.int 24), some (.int 40), some (.ref ln), some (.ref d), x5, some (.ref L), x7, x8, x9, x10, x11, x12]) ∧ ∃ t us rs, UF H H' a c ln d L ns t us rs ∧ Built ns t rs ∧ (∃ x ∈ ns, 0 < t x) ∧ rs.length = i ∧ (∀ x ∈ ns, t x ≤ 10 + (rs.length : Nat) * 10 ^ 21) ∧ ∀ r ∈ rs, r.2.2 ≤ 10 ^ 21) ?_ ?_ ?_ ?_
  · exact ⟨⟨_, _, _, _, _, _, _, rfl⟩, t0, [], [], u0.step k6 hh6, Built.nil nok two fun x hx => (ht0 x hx).1, hpos0, rfl, fun x hx => by have := ht0 x hx; show t0 x ≤ 10 + 0 * 10 ^ 21; omega, fun r h => absurd h List.not_mem_nil⟩
  · rintro i σ H7 _ _
    trivial
  · rintro i v σ H7 H8 hi ⟨⟨x5, x7, x8, x9, x10, x11, x12, rfl⟩, t, us, rs, u, B, ⟨w, hw, hwp⟩, hrl, htop, hmx⟩ ⟨rfl, rfl⟩
    have hi40 : i < 40 := by omega
    refine ⟨.ref ln, rfl, ln, rfl, ⟨_, SqL.of u.ln⟩, fun D1 nD1 => ?_⟩
    have n1 : ln ≠ D1 := ne_of_none u.ln nD1
    refine lc_it (walk_list (xs := ns.map V.str)) (fun j H' => Same H8 H' ∧ H' D1 = some (.lst (((ns.take j).filter fun x => decide (0 < t x)).map V.str))) ?_ ?_ ?_ ?_
    · exact ⟨Same.new Same.rfl nD1, upd_same⟩
    · rintro j HA _ ⟨k, _⟩
      exact SqL.of (k _ _ u.ln)
    · rintro j v HA HB hj ⟨k, hD⟩ ⟨rfl, hv⟩
      obtain ⟨x, hx, rfl⟩ := map_str_get hv
      refine ⟨rfl, .ref d, rfl, .str x, rfl, d, _, rfl, dN_get (k _ _ u.d) (List.mem_of_getElem? hx), t x, 0, rfl, rfl, ?_⟩
      by_cases hp : 0 < t x
      · refine ⟨true, bl_t hp, .str x, rfl, _, hD, ?_, Same.wrN k nD1, ?_⟩
        · rw [List.length_map]
          have e1 := List.length_filter_le (fun x => decide (0 < t x)) (ns.take j)
          have e2 := List.length_take_le' j ns
          exact lt_sz (by omega)
        · rw [upd_same, take_snoc hx, List.filter_append, List.filter_cons_of_pos (p := fun x => decide (0 < t x)) (decide_eq_true hp), List.map_append]; rfl
      · refine ⟨false, bl_f hp, k, ?_⟩
        rw [take_snoc hx, List.filter_append, List.filter_cons_of_neg (p := fun x => decide (0 < t x)) (by simpa using hp)]
        simpa using hD
    rintro HA ⟨kA, hDA⟩
    rw [List.take_of_length_le (by rw [List.length_map]; exact Nat.le_refl _)] at hDA
    have hAl : ∀ x, x ∈ ns.filter (fun x => decide (0 < t x)) ↔ x ∈ ns ∧ 0 < t x := fun x => by
      rw [List.mem_filter]
      exact ⟨fun h => ⟨h.1, of_decide_eq_true h.2⟩, fun h => ⟨h.1, decide_eq_true h.2⟩⟩
    have hA1 := List.length_filter_le (fun x => decide (0 < t x)) ns
    generalize ns.filter (fun x => decide (0 < t x)) = al at hDA hAl hA1
    have hA0 : 1 ≤ al.length := List.length_pos_of_mem ((hAl w).mpr ⟨hw, hwp⟩)
    have uA := u.step (Same.kp kA) (u.hh.same kA)
    refine ⟨.ref D1, rfl, .ref a, rfl, .ref D1, rfl, D1, _, rfl, .inl (SqL.of hDA), a, c, _, rfl, uA.hh, by rw [List.length_map]; omega, ?_, fun HC rC kC hhC rC0 rC1 => ?_⟩
    · exact Int.le_trans (show (((al.map V.str).length : Nat) : Int) ≤ 24 by rw [List.length_map]; omega) (by decide)
    obtain ⟨vy, hvy⟩ := get_ex (l := al.map V.str) rC0 rC1
    obtain ⟨y, hy, rfl⟩ := map_str_get hvy
    obtain ⟨hyn, hyp⟩ := (hAl y).mp (List.mem_of_getElem? hy)
    obtain ⟨mC, rfl⟩ : ∃ m : Nat, rC = m := ⟨rC.toNat, by omega⟩
    have uC := uA.step kC hhC
    refine ⟨D1, _, mC, .str y, rfl, rfl, SqL.of (uA.hh.strs kC hDA), atI_nat hvy, ?_⟩
    refine ⟨.ref ln, rfl, ln, rfl, ⟨_, SqL.of uC.ln⟩, fun D2 nD2 => ?_⟩
    refine lc_it (walk_list (xs := ns.map V.str)) (fun j H' => Same HC H' ∧ H' D2 = some (.lst (((ns.take j).filter fun x => decide (x ≠ y)).map V.str))) ?_ ?_ ?_ ?_
    · exact ⟨Same.new Same.rfl nD2, upd_same⟩
    · rintro j HE _ ⟨k, _⟩
      exact SqL.of (k _ _ uC.ln)
    · rintro j v HE HF hj ⟨k, hD⟩ ⟨rfl, hv⟩
      obtain ⟨x, hx, rfl⟩ := map_str_get hv
      refine ⟨rfl, .str x, rfl, .str y, rfl, rfl, ?_⟩
      by_cases hp : x ≠ y
      · refine ⟨true, ?_, .str x, rfl, _, hD, ?_, Same.wrN k nD2, ?_⟩
        · rw [decide_eq_false (fun z => hp (V.str.inj z))]; rfl
        · rw [List.length_map]
          have e1 := List.length_filter_le (fun x => decide (x ≠ y)) (ns.take j)
          have e2 := List.length_take_le' j ns
          exact lt_sz (by omega)
        · rw [upd_same, take_snoc hx, List.filter_append, List.filter_cons_of_pos (p := fun x => decide (x ≠ y)) (decide_eq_true hp), List.map_append]; rfl
      · refine ⟨false, ?_, k, ?_⟩
        · rw [decide_eq_true (congrArg V.str (Classical.not_not.mp hp))]; rfl
        · rw [take_snoc hx, List.filter_append, List.filter_cons_of_neg (p := fun x => decide (x ≠ y)) (by simpa using hp)]
          simpa using hD
    rintro HE ⟨kE, hDE⟩
    rw [List.take_of_length_le (by rw [List.length_map]; exact Nat.le_refl _)] at hDE
    have hRl : ∀ x, x ∈ ns.filter (fun x => decide (x ≠ y)) ↔ x ∈ ns ∧ x ≠ y := fun x => by
      rw [List.mem_filter]
      exact ⟨fun h => ⟨h.1, of_decide_eq_true h.2⟩, fun h => ⟨h.1, decide_eq_true h.2⟩⟩
    have hR1 := List.length_filter_le (fun x => decide (x ≠ y)) ns
    have hex : ∃ x ∈ ns, x ≠ y := by
      cases ns with
      | nil => exact absurd two (by decide)
      | cons z zs => cases zs with
        | nil => exact absurd two (by decide : ¬ 2 ≤ 1)
        | cons z2 zs =>
          by_cases e : z = y
          · refine ⟨z2, List.mem_cons_of_mem _ List.mem_cons_self, fun e2 => (List.nodup_cons.mp nok.nd).1 ?_⟩
            rw [e, ← e2]; exact List.mem_cons_self
          · exact ⟨z, List.mem_cons_self, e⟩
    generalize ns.filter (fun x => decide (x ≠ y)) = rl at hDE hRl hR1
    have hR0 : 1 ≤ rl.length := by
      obtain ⟨x, hx, hne⟩ := hex
      exact List.length_pos_of_mem ((hRl x).mpr ⟨hx, hne⟩)
    have uE := uC.step (Same.kp kE) (uC.hh.same kE)
    refine ⟨.ref D2, rfl, .ref a, rfl, .ref D2, rfl, D2, _, rfl, .inl (SqL.of hDE), a, c, _, rfl, uE.hh, by rw [List.length_map]; omega, ?_, fun HG rG kG hhG rG0 rG1 => ?_⟩
    · exact Int.le_trans (show (((rl.map V.str).length : Nat) : Int) ≤ 24 by rw [List.length_map]; omega) (by decide)
    obtain ⟨vx, hvx⟩ := get_ex (l := rl.map V.str) rG0 rG1
    obtain ⟨x, hx, rfl⟩ := map_str_get hvx
    obtain ⟨hxn, hxy⟩ := (hRl x).mp (List.mem_of_getElem? hx)
    obtain ⟨mG, rfl⟩ : ∃ m : Nat, rG = m := ⟨rG.toNat, by omega⟩
    have uG := uE.step kG hhG
    refine ⟨D2, _, mG, .str x, rfl, rfl, SqL.of (uE.hh.strs kG hDE), atI_nat hvx, ?_⟩
    refine ⟨.ref a, rfl, a, c, rfl, uG.hh, fun HI m kI hhI m1 m2 => ?_⟩
    have uI := uG.step kI hhI
    refine ⟨.ref d, rfl, .str x, rfl, d, _, rfl, dN_get uI.d hxn, .int m, rfl, t x, m, rfl, rfl, _, dI_put (n := t x + m) uI.d hxn (lt_sz (by omega)), ?_⟩
    have uJ := uI.put (t' := up t x (t x + m))
    generalize upd HI d (dI ns (up t x (t x + m))) = HJ at uJ ⊢
    refine ⟨.ref L, rfl, .inl ⟨rfl, _, SqL.of uJ.L⟩, .str x, rfl, .str y, rfl, .int m, rfl, by show 3 ≤ sizeLine; decide, fun pu npu => ?_⟩
    have ul : us.length = rs.length := Paired.length u.us
    refine ⟨L, _, _, rfl, rfl, new_get npu uJ.L, by rw [List.length_map]; exact lt_sz (by omega), ?_⟩
    refine ⟨⟨_, _, _, _, _, _, _, rfl⟩, _, _, _, uJ.app npu, B.step hxn hyn hxy m1 hyp (by omega), ⟨y, hyn, ?_⟩, by rw [List.length_append, hrl]; rfl, fun z hz => ?_, fun r hr => ?_⟩
    · rw [up_ne (Ne.symm hxy)]; exact hyp
    · have e1 := htop z hz
      have e2 := htop x hxn
      have e3 : ((rs ++ [(x, y, m)]).length : Int) = rs.length + 1 := by rw [List.length_append]; rfl
      rw [e3]
      unfold up
      split
      · rw [Int.add_mul]; omega
      · rw [Int.add_mul]; omega
    · rcases List.mem_append.mp hr with h | h
      · exact hmx r h
      · rw [List.mem_singleton.mp h]; exact m2
  · rintro σ H7 ⟨⟨x5, x7, x8, x9, x10, x11, x12, rfl⟩, t, us, rs, u, B, _, hrl, htop, hmx⟩
    refine ⟨.ref d, rfl, .ref L, rfl, L, _, rfl, SqL.of u.L, fun l2 nl2 => ⟨two_sz, fun p np => ?_⟩⟩
    have ek : ((us.map V.ref).reverse) = us.reverse.map V.ref := (List.map_reverse).symm
    obtain ⟨rs', pmr, hrs'⟩ := paired_perm (List.reverse_perm us) u.us
    have uX := u.new (o := .lst ((us.map V.ref).reverse)) nl2
    have uY := uX.new (o := .tup [.ref d, .ref l2]) np
    have F : Fine ns t rs := ⟨B, htop, hmx⟩
    refine q _ p d l2 ns t rs' uY.k uY.hh upd_same uY.d nd0 ⟨us.reverse, ?_, Paired.mapP hrs' fun z r e => new_get np (new_get nl2 e)⟩ (F.perm pmr)
    rw [← ek]
    exact new_get np upd_same
end
end Ep

set_option Elab.async false
set_option linter.all false
set_option maxRecDepth 100000
set_option maxHeartbeats 4000000
/-! ## the law: dense_lot, extra -/
namespace Ep
open PySem PySem.Spec PyProof.Rows L2
def tri : Nat → Nat
  | 0 => 0
  | n + 1 => tri n + (n + 1)
theorem tri_le : ∀ i < 23, tri i + (i + 1) ≤ 276 := by decide
theorem cut_take (ns : List Str) {i : Nat} : cutV (ns.map V.str) none (some (1 + (i : Int))) = (ns.take (i + 1)).map V.str := by
  have e : (1 + (i : Int)) = ((i + 1 : Nat) : Int) := by omega
  unfold cutV
  rw [e, HT.sIx_nat, HT.sIx_none, List.drop_zero, Nat.sub_zero, List.length_map, ← List.map_take]
  congr 1
  by_cases h : i + 1 ≤ ns.length
  · rw [show min (i + 1) ns.length = i + 1 by omega]
  · rw [show min (i + 1) ns.length = ns.length by omega, List.take_of_length_le (Nat.le_refl _), List.take_of_length_le (by omega)]
section
variable {P : Program} {w : World} {K : PySem.W.Frag} {mg : Str → Option Value} {base : Heap} {f : Addr} {fd : FuncData}
def p_dense : Sp := fun vs H Q _ => ∃ a c, vs = [.ref a] ∧ HandAt H a c ∧ ∀ H' p d l (ns : List Str) t rs, Kp [a] H H' → HandAt H' a c → H' p = some (.tup [.ref d, .ref l]) → H' d = some (dI ns t) → H d = none → RunsAt H' l rs → Fine ns t rs → Q (.ref p) H'
abbrev s_l_dense_lot : Stmt := top 69
abbrev N_l_dense_lot : List Str := ["_law_hand_here", "_law_names_here", "_law_tickets", "_law_runs", "_law_at", "_law_name", "_law_many", "_law_payer", "_law_other"]
theorem sc_l_dense_lot : FnScope N_l_dense_lot ["_law_hand_here"] (defScope s_l_dense_lot) := ⟨rfl, rfl, rfl, by decide +kernel, rfl, by decide +kernel, by decide +kernel⟩
theorem ok_l_dense_lot (F : FnP K "_law_dense_lot" "_law_dense_lot" s_l_dense_lot f fd) (T : Txt K mg) (d_l_draw : Df P w K mg base CX0 3 "_law_draw" ["_law_hand_here", "_law_tally"] p_draw) (d_l_names : Df P w K mg base CX0 4 "_law_names" ["_law_hand_here", "_law_many"] p_l_names)
    (d_l_count : Df P w K mg base CX0 4 "_law_count" ["_law_hand_here"] p_count) : FnOk P w K mg base CX0 5 f fd ["_law_hand_here"] p_dense := by
  refine ok0 F sc_l_dense_lot (fun _ _ _ _ h => by obtain ⟨a, l, rfl, _⟩ := h; rfl) fun cdv A outer s H vs Q E hr h => ?_
  obtain ⟨a, c, rfl, hh, q⟩ := h
  have hu := hu_of hr
  refine ⟨_, (pss_cons (ps_set (i := 1) sc_l_dense_lot.nd rfl (Or.inl rfl) (pe_df d_l_names hr (pa_cons (pv 0) (pa_cons pe_int pa_nil))))
    (pss_cons (ps_set (i := 2) sc_l_dense_lot.nd rfl (Or.inl rfl) (pe_callTy (call_dictP rfl) (by rfl) T.dict bt_dict (pa_cons (pe_lc (own := [("_law_name", 5)]) (g := gName 5) (tt := tYes) rfl sc_l_dense_lot.nd (pi_list (pv 1)) (blkOk_by (own := [("_law_name", 5)]) (N := N_l_dense_lot) (sc := defScope s_l_dense_lot) (by decide +kernel)) (fun _ _ _ _ _ => (pg_name (i := 5) sc_l_dense_lot.nd rfl (Or.inl rfl))) (fun _ _ _ _ _ => pts_nil) (fun _ _ _ _ _ => (pe_tup (pa_cons (pv 5) (pa_cons pe_int pa_nil))))) pa_nil)))
    (pss_cons (ps_dput hu (pv 2) (pe_ix ix_list (pv 1) pe_int (fun _ _ => rfl)) pe_int rfl)
    (pss_cons (ps_set (i := 3) sc_l_dense_lot.nd rfl (Or.inl rfl) (pe_lst pa_nil))
    (pss_cons (ps_for PassesOwn.never rfl (pi_range2 (by rfl) T.range (pa_cons pe_int (pa_cons pe_int pa_nil))) (pg_name (i := 4) sc_l_dense_lot.nd rfl (Or.inl rfl))
      (pss_one (ps_for PassesOwn.never rfl (pi_list (pe_slice sl_list (pv 1) po_none (po_some (pv 4)))) (pg_name (i := 5) sc_l_dense_lot.nd rfl (Or.inl rfl))
        (pss_cons (ps_set (i := 6) sc_l_dense_lot.nd rfl (Or.inl rfl) (pe_df d_l_count hr (pa_cons (pv 0) pa_nil)))
        (pss_cons (ps_par (i := 7) (j := 8) (by rfl) sc_l_dense_lot.nd rfl rfl (by decide) rfl rfl (pa_cons (pe_ix ix_list (pv 1) (pv 4) (fun _ _ => rfl)) (pa_cons (pv 5) pa_nil)) (by rfl))
        (C8.pss_cut (ps_if (PW.pt (pw_and (pt_cmpR op_gt (pe_dget hu (pv 2) (pv 7) (fun _ _ => rfl)) pe_int (nomark _)) (pw_and1 (pt_cmpR op_eq (pe_df d_l_draw hr (pa_cons (pv 0) (pa_cons pe_int pa_nil))) pe_int (nomark _)))))
          (pss_one (ps_par (i := 7) (j := 8) (by rfl) sc_l_dense_lot.nd rfl rfl (by decide) rfl rfl (pa_cons (pv 8) (pa_cons (pv 7) pa_nil)) (by rfl)))
          pss_nil)
        (pss_cons (ps_daug hu (pv 2) (pv 7) (pv 6) in_add (fun _ _ _ => rfl))
        (pss_one (ps_expr (pe_bm PySem.F.plainAttrs_list PySem.F.slot_list_append PySem.F.type_list_append mt_append (pv 3) (pa_cons (pe_tup (pa_cons (pv 7) (pa_cons (pv 8) (pa_cons (pv 6) pa_nil)))) pa_nil)))))))))))
    (pss_one (ps_ret (pe_tup (pa_cons (pv 2) (pa_cons (pe_revL (pv 3)) pa_nil)))))))))), ?_⟩
  refine ⟨.ref a, rfl, a, c, 24, rfl, hh, by decide, by decide, fun H2 ln ns k12 hh2 nln0 hln hnl nok => ?_⟩
  have two : 2 ≤ ns.length := by omega
  have n24 : ns.length ≤ 24 := nok.len
  refine ⟨.ref ln, rfl, ln, rfl, ⟨_, SqL.of hln⟩, fun D nD => ?_⟩
  refine lc_it (walk_list (xs := ns.map V.str)) (fun i H' => Same H2 H' ∧ ∃ us : List Addr, H' D = some (.lst (us.map V.ref)) ∧ Paired (fun u x => H' u = some (.tup (cE (fun _ => 0) x))) us (ns.take i)) ?_ ?_ ?_ ?_
  · exact ⟨Same.new Same.rfl nD, [], upd_same, .nil⟩
  · rintro i H3 _ ⟨k, _⟩
    exact SqL.of (k _ _ hln)
  · rintro i v H3 H4 hi ⟨k, us, hD, hus⟩ ⟨rfl, hv⟩
    obtain ⟨x, hx, rfl⟩ := map_str_get hv
    refine ⟨rfl, .str x, rfl, two_sz, fun u nu => ?_⟩
    obtain ⟨g1, g2, g3⟩ := grow (c := cE fun _ => 0) x hD hus nu
    refine ⟨_, g1, ?_, Same.wrN (Same.new k nu) nD, us ++ [u], g2, by rw [take_snoc hx]; exact g3⟩
    rw [List.length_map]
    have := Paired.length hus
    rw [List.length_take] at this
    exact lt_sz (by omega)
  rintro H3 ⟨k3, us, hD, hus⟩
  rw [List.take_of_length_le (by rw [List.length_map]; exact Nat.le_refl _)] at hus
  refine ⟨D, us, mkT kS ns fun x => .int 0, rfl, SqL.of hD, ents_pairs hus, fun d nd1 => ?_⟩
  rw [merge_nil nok.nd]
  have hh3 := hh2.same k3
  have kk3 := Kp.trans k12 (Same.kp k3)
  have nd0 : H d = none := hh3.free kk3 nd1
  have k4 : Kp [a] H (upd H3 d (dI ns fun _ => 0)) := Kp.new kk3 nd1
  have hh4 : HandAt (upd H3 d (dI ns fun _ => 0)) a c := hh3.new nd1
  have hln4 : upd H3 d (dI ns fun _ => 0) ln = some (.lst (ns.map V.str)) := new_get nd1 (k3 _ _ hln)
  have hd4 : upd H3 d (dI ns fun _ => 0) d = some (dI ns fun _ => 0) := upd_same
  clear hus hD k3
  obtain ⟨n0, hn0⟩ : ∃ x, ns[0]? = some x := ⟨_, List.getElem?_eq_getElem (by omega)⟩
  have hn0m : n0 ∈ ns := List.mem_of_getElem? hn0
  have hp0 := dI_put (n := 1) hd4 hn0m (lt_sz (by omega))
  refine ⟨.ref d, rfl, .ref ln, rfl, ln, _, 0, .str n0, rfl, rfl, SqL.of hln4, atI_nat (j := 0) (str_get hn0), d, _, rfl, hp0, ?_⟩
  have nld : ln ≠ d := fun z => by rw [z, hd4] at hln4; cases hln4
  have k5 : Kp [a] H (upd (upd H3 d (dI ns fun _ => 0)) d (dI ns (up (fun _ => 0) n0 1))) := Kp.wrN k4 nd0
  have hh5 : HandAt (upd (upd H3 d (dI ns fun _ => 0)) d (dI ns (up (fun _ => 0) n0 1))) a c := hh4.wrN hh nd0
  have hln5 : upd (upd H3 d (dI ns fun _ => 0)) d (dI ns (up (fun _ => 0) n0 1)) ln = some (.lst (ns.map V.str)) := by rw [upd_ne nld]; exact hln4
  have hd5 : upd (upd H3 d (dI ns fun _ => 0)) d (dI ns (up (fun _ => 0) n0 1)) d = some (dI ns (up (fun _ => 0) n0 1)) := upd_same
  refine ⟨Nat.zero_le _, fun L nL => ?_⟩
  have u0 := (⟨hh, nd0, hh5.free k5 nL, ne_of_none hln5 nL, Kp.new k5 nL, hh5.new nL, new_get nL hln5, new_get nL hd5, upd_same, .nil⟩ : UF H (upd (upd (upd H3 d (dI ns fun _ => 0)) d (dI ns (up (fun _ => 0) n0 1))) L (.lst [])) a c ln d L ns (up (fun _ => 0) n0 1) [] [])
  refine ⟨1, 24, rfl, ⟨by decide, by decide, by decide, by decide⟩, ?_⟩
  refine for_it walk_range (fun i σ H' => (∃ x4 x5 x6 x7 x8, σ = [some (.ref a), some (.ref ln), some (.ref d), some (.ref L), x4, x5, x6, x7, x8]) ∧ ∃ t us rs, UF H H' a c ln d L ns t us rs ∧ Built ns t rs ∧ (∀ x ∈ ns.take (i + 1), 0 < t x) ∧ rs.length = tri i ∧ (∀ x ∈ ns, t x ≤ 10 + (rs.length : Nat) * 10 ^ 21) ∧ ∀ r ∈ rs, r.2.2 ≤ 10 ^ 21) ?_ ?_ ?_ ?_
  · refine ⟨⟨_, _, _, _, _, rfl⟩, _, _, _, u0, Built.nil nok two fun x hx => ?_, fun x hx => ?_, rfl, fun x hx => ?_, fun r h => absurd h List.not_mem_nil⟩
    · unfold up; split
      · decide
      · exact Int.le_refl _
    · have e : x = n0 := by
        rw [take_snoc hn0, List.take_zero, List.nil_append] at hx
        exact List.mem_singleton.mp hx
      rw [e, up_self]; decide
    · unfold up; split
      · decide
      · show (0 : Int) ≤ 10 + 0 * 10 ^ 21; decide
  · rintro i σ H7 _ _
    trivial
  · rintro i v σ H7 H8 hi ⟨⟨x4, x5, x6, x7, x8, rfl⟩, t, us, rs, u, B, hpos, hrl, htop, hmx⟩ ⟨rfl, rfl⟩
    have hi23 : i < 23 := hi
    obtain ⟨y, hy⟩ : ∃ y, ns[i + 1]? = some y := ⟨_, List.getElem?_eq_getElem (by omega)⟩
    have hyn : y ∈ ns := List.mem_of_getElem? hy
    refine ⟨.ref ln, rfl, .int (1 + (i : Int)), rfl, 1 + (i : Int), rfl, ln, _, rfl, SqL.of u.ln, fun pp npp => ?_⟩
    rw [cut_take ns]
    have nLp : L ≠ pp := ne_of_none u.L npp
    have ndp : d ≠ pp := ne_of_none u.d npp
    have upp := u.new (o := .lst ((ns.take (i + 1)).map V.str)) npp
    have hpp : upd H8 pp (.lst ((ns.take (i + 1)).map V.str)) pp = some (.lst ((ns.take (i + 1)).map V.str)) := upd_same
    refine ⟨pp, rfl, ⟨_, SqL.of hpp⟩, ?_⟩
    refine for_it (walk_list (xs := (ns.take (i + 1)).map V.str)) (fun j σ H' => (∃ x5 x6 x7 x8, σ = [some (.ref a), some (.ref ln), some (.ref d), some (.ref L), some (.int (1 + (i : Int))), x5, x6, x7, x8]) ∧ H' pp = some (.lst ((ns.take (i + 1)).map V.str)) ∧ ∃ t us rs, UF H H' a c ln d L ns t us rs ∧ Built ns t rs ∧ (∀ x ∈ ns.take (i + 1), 0 < t x) ∧ (0 < j → 0 < t y) ∧ rs.length = tri i + j ∧ (∀ x ∈ ns, t x ≤ 10 + (rs.length : Nat) * 10 ^ 21) ∧ ∀ r ∈ rs, r.2.2 ≤ 10 ^ 21) ?_ ?_ ?_ ?_
    · exact ⟨⟨_, _, _, _, rfl⟩, hpp, t, us, rs, upp, B, hpos, fun h => absurd h (by decide), hrl, htop, hmx⟩
    · rintro j σ HA _ ⟨_, h, _⟩
      exact SqL.of h
    · clear hpos hrl htop hmx u upp B hpp
      rintro j v σ HA HB hj ⟨⟨z5, z6, z7, z8, rfl⟩, hpp, t, us, rs, u, B, hpos, hypos, hrl, htop, hmx⟩ ⟨rfl, hv⟩
      obtain ⟨x, hx, rfl⟩ := map_str_get hv
      have hxt : x ∈ ns.take (i + 1) := List.mem_of_getElem? hx
      have hxn : x ∈ ns := List.mem_of_mem_take hxt
      have hxy : x ≠ y := fun e => nd_take nok.nd hy (e ▸ hxt)
      have hj2 : j < i + 1 := by
        rw [List.length_map, List.length_take] at hj
        omega
      refine ⟨.ref a, rfl, a, c, rfl, u.hh, fun HC m kC hhC m1 m2 => ?_⟩
      have uC := u.step kC hhC
      have hppC := u.hh.strs kC hpp
      have ei : (1 + (i : Int)) = ((i + 1 : Nat) : Int) := by omega
      refine ⟨.ref ln, rfl, .int (1 + (i : Int)), rfl, ln, _, _, .str y, rfl, rfl, SqL.of uC.ln, by rw [ei]; exact atI_nat (str_get hy), .str x, rfl, _, _, rfl, ?_⟩
      refine ⟨fun σ H' => ∃ p1 p2, σ = [some (.ref a), some (.ref ln), some (.ref d), some (.ref L), some (.int (1 + (i : Int))), some (.str x), some (.int m), some (.str p1), some (.str p2)] ∧ UF H H' a c ln d L ns t us rs ∧ H' pp = some (.lst ((ns.take (i + 1)).map V.str)) ∧ p1 ∈ ns ∧ p2 ∈ ns ∧ p1 ≠ p2 ∧ 0 < t p2 ∧ (p1 = y ∨ 0 < t y), ?_, ?_⟩
      · by_cases hp : 0 < t y
        · refine ⟨.ref d, rfl, .str y, rfl, d, _, rfl, dN_get uC.d hyn, t y, 0, rfl, rfl, true, bl_t hp, ?_⟩
          refine ⟨.ref a, rfl, a, c, 2, rfl, uC.hh, by decide, by decide, fun HE r kE hhE r0 r1 => ⟨rfl, ?_⟩⟩
          have uE := uC.step kE hhE
          have hppE := uC.hh.strs kE hppC
          by_cases hz : r = 0
          · exact ⟨true, by rw [hz]; rfl, .str x, rfl, .str y, rfl, _, _, rfl, x, y, rfl, uE, hppE, hxn, hyn, hxy, hp, .inr hp⟩
          · exact ⟨false, bl_f (fun e => hz (V.int.inj e)), y, x, rfl, uE, hppE, hyn, hxn, Ne.symm hxy, hpos x hxt, .inl rfl⟩
        · refine ⟨.ref d, rfl, .str y, rfl, d, _, rfl, dN_get uC.d hyn, t y, 0, rfl, rfl, false, bl_f hp, ?_⟩
          exact ⟨y, x, rfl, uC, hppC, hyn, hxn, Ne.symm hxy, hpos x hxt, .inl rfl⟩
      rintro σ HG ⟨p1, p2, rfl, uG, hppG, hp1, hp2, hne, hp2p, hor⟩
      refine ⟨.ref d, rfl, .str p1, rfl, d, _, rfl, dN_get uG.d hp1, .int m, rfl, t p1, m, rfl, rfl, _, dI_put (n := t p1 + m) uG.d hp1 (lt_sz (by omega)), ?_⟩
      have uJ := uG.put (t' := up t p1 (t p1 + m))
      have hppJ : upd HG d (dI ns (up t p1 (t p1 + m))) pp = some (.lst ((ns.take (i + 1)).map V.str)) := by rw [upd_ne (Ne.symm ndp)]; exact hppG
      generalize upd HG d (dI ns (up t p1 (t p1 + m))) = HJ at uJ hppJ ⊢
      refine ⟨.ref L, rfl, .inl ⟨rfl, _, SqL.of uJ.L⟩, .str p1, rfl, .str p2, rfl, .int m, rfl, by show 3 ≤ sizeLine; decide, fun pu npu => ?_⟩
      have ul : us.length = rs.length := Paired.length u.us
      have htri := tri_le i hi23
      have tnn := B.nn p1 hp1
      refine ⟨L, _, _, rfl, rfl, new_get npu uJ.L, by rw [List.length_map]; exact lt_sz (by omega), ?_⟩
      have mono : ∀ z, 0 < t z → 0 < up t p1 (t p1 + m) z := fun z hz => by
        unfold up
        split
        · omega
        · exact hz
      refine ⟨⟨_, _, _, _, rfl⟩, by rw [upd_ne (Ne.symm nLp)]; exact new_get npu hppJ, _, _, _, uJ.app npu, B.step hp1 hp2 hne m1 hp2p (by omega), fun z hz => mono z (hpos z hz), fun _ => ?_, by rw [List.length_append, hrl]; rfl, fun z hz => ?_, fun r hr => ?_⟩
      · rcases hor with e | e
        · rw [e] at tnn ⊢
          rw [up_self]; omega
        · exact mono y e
      · have e1 := htop z hz
        have e2 := htop p1 hp1
        have e3 : ((rs ++ [(p1, p2, m)]).length : Int) = rs.length + 1 := by rw [List.length_append]; rfl
        rw [e3]
        unfold up
        split
        · rw [Int.add_mul]; omega
        · rw [Int.add_mul]; omega
      · rcases List.mem_append.mp hr with h | h
        · exact hmx r h
        · rw [List.mem_singleton.mp h]; exact m2
    · clear hpos hrl htop hmx u upp B hpp
      rintro σ HA ⟨⟨z5, z6, z7, z8, rfl⟩, hpp, t, us, rs, u, B, hpos, hypos, hrl, htop, hmx⟩
      have hlt : ((ns.take (i + 1)).map V.str).length = i + 1 := by rw [List.length_map, List.length_take]; omega
      rw [hlt] at hypos hrl
      refine ⟨⟨_, _, _, _, _, rfl⟩, t, us, rs, u, B, fun x hx => ?_, hrl, htop, hmx⟩
      rw [take_snoc hy] at hx
      rcases List.mem_append.mp hx with h | h
      · exact hpos x h
      · rw [List.mem_singleton.mp h]; exact hypos (by omega)
  · rintro σ H7 ⟨⟨x4, x5, x6, x7, x8, rfl⟩, t, us, rs, u, B, _, hrl, htop, hmx⟩
    refine ⟨.ref d, rfl, .ref L, rfl, L, _, rfl, SqL.of u.L, fun l2 nl2 => ⟨two_sz, fun p np => ?_⟩⟩
    have ek : ((us.map V.ref).reverse) = us.reverse.map V.ref := (List.map_reverse).symm
    obtain ⟨rs', pmr, hrs'⟩ := paired_perm (List.reverse_perm us) u.us
    have uX := u.new (o := .lst ((us.map V.ref).reverse)) nl2
    have uY := uX.new (o := .tup [.ref d, .ref l2]) np
    have F : Fine ns t rs := ⟨B, htop, hmx⟩
    refine q _ p d l2 ns t rs' uY.k uY.hh upd_same uY.d nd0 ⟨us.reverse, ?_, Paired.mapP hrs' fun z r e => new_get np (new_get nl2 e)⟩ (F.perm pmr)
    rw [← ek]
    exact new_get np upd_same
def p_extra : Sp := fun vs H Q _ => ∃ a c d ns t, vs = [.ref a, .ref d] ∧ HandAt H a c ∧ H d = some (dI ns t) ∧ ns.length ≤ 24 ∧ ns.Nodup ∧ ∀ H' t', Kp [a, d] H H' → HandAt H' a c → H' d = some (dI ns t') → (∀ x ∈ ns, t x ≤ t' x ∧ t' x ≤ t x + 3) → Q (.ref d) H'
abbrev s_l_extra : Stmt := top 67
abbrev N_l_extra : List Str := ["_law_hand_here", "_law_tickets", "_law_name"]
theorem sc_l_extra : FnScope N_l_extra ["_law_hand_here", "_law_tickets"] (defScope s_l_extra) := ⟨rfl, rfl, rfl, by decide +kernel, rfl, by decide +kernel, by decide +kernel⟩
theorem ok_l_extra (F : FnP K "_law_extra" "_law_extra" s_l_extra f fd) (T : Txt K mg) (d_l_draw : Df P w K mg base CX0 3 "_law_draw" ["_law_hand_here", "_law_tally"] p_draw) : FnOk P w K mg base CX0 4 f fd ["_law_hand_here", "_law_tickets"] p_extra := by
  refine ok0 F sc_l_extra (fun _ _ _ _ h => by obtain ⟨a, l, x, y, z, rfl, _⟩ := h; rfl) fun cdv A outer s H vs Q E hr h => ?_
  obtain ⟨a, c, d, ns, t0, rfl, hh, hd, hlen, nd, q⟩ := h
  have hu := hu_of hr
  refine ⟨_, (pss_cons (ps_for PassesOwn.never rfl (pi_list (pe_callB (call_sortedD rfl) (by rfl) T.sorted bt_sorted (pa_cons (pv 1) pa_nil))) (pg_name (i := 2) sc_l_extra.nd rfl (Or.inl rfl))
      (pss_one (ps_if (pt_cmpR op_eq (pe_df d_l_draw hr (pa_cons (pv 0) (pa_cons pe_int pa_nil))) pe_int (nomark _))
        (pss_one (ps_daug hu (pv 1) (pv 2) (pe_df d_l_draw hr (pa_cons (pv 0) (pa_cons pe_int pa_nil))) in_add (fun _ _ _ => rfl)))
        pss_nil)))
    (pss_one (ps_ret (pv 1)))), ?_⟩
  refine ⟨.ref d, rfl, d, _, ns, rfl, .inl hd, keys_mk, mkT_nd hlen, fun zs p pmz soz np => ?_⟩
  refine ⟨p, rfl, ⟨_, SqL.of upd_same⟩, ?_⟩
  have ndz : zs.Nodup := pmz.nodup_iff.mpr nd
  have nda : d ∉ [a] := hh.nmem hd fun _ e => by cases e
  have npd : d ≠ p := ne_of_none hd np
  have S1 : ∀ b ∈ ([a] : List Addr), b ∈ ([a, d] : List Addr) := fun b hb => by rw [List.mem_singleton.mp hb]; exact List.mem_cons_self
  have dS : d ∈ ([a, d] : List Addr) := List.mem_cons_of_mem _ List.mem_cons_self
  refine for_it (walk_list (xs := zs.map V.str)) (fun i σ H' => (∃ x2, σ = [some (.ref a), some (.ref d), x2]) ∧ Kp [a, d] H H' ∧ HandAt H' a c ∧ H' p = some (.lst (zs.map V.str)) ∧ ∃ t, H' d = some (dI ns t) ∧ (∀ x ∈ ns, t0 x ≤ t x ∧ t x ≤ t0 x + 3) ∧ ∀ x ∈ ns, x ∉ zs.take i → t x = t0 x) ?_ ?_ ?_ ?_
  · exact ⟨⟨_, rfl⟩, Kp.new Kp.refl np, hh.new np, upd_same, t0, new_get np hd, fun x hx => ⟨Int.le_refl _, by omega⟩, fun x _ _ => rfl⟩
  · rintro i σ H1 _ ⟨_, _, _, h, _⟩
    exact SqL.of h
  · rintro i v σ H1 H2 hi ⟨⟨x2, rfl⟩, k, hh1, hp, t, hd1, ht, hsame⟩ ⟨rfl, hv⟩
    obtain ⟨x, hx, rfl⟩ := map_str_get hv
    have hxn : x ∈ ns := pmz.mem_iff.mp (List.mem_of_getElem? hx)
    have hni : x ∉ zs.take i := nd_take ndz hx
    have hpa : p ≠ a := hh1.neStrs hp
    refine ⟨.ref a, rfl, a, c, 4, rfl, hh1, by decide, by decide, fun H3 r k3 hh3 r0 r1 => ⟨rfl, ?_⟩⟩
    have kk := Kp.trans k (Kp.mono k3 S1)
    by_cases hz : r = 0
    · refine ⟨true, by rw [hz]; rfl, .ref d, rfl, .str x, rfl, d, _, rfl, dN_get (hh1.dict k3 hd1) hxn, .ref a, rfl, a, c, 4, rfl, hh3, by decide, by decide, fun H4 r4 k4 hh4 r40 r41 => ?_⟩
      have hd4 := hh3.dict k4 (hh1.dict k3 hd1)
      refine ⟨t x, r4, rfl, rfl, _, dI_put (n := t x + r4) hd4 hxn (lt_sz (by omega)), ⟨_, rfl⟩, Kp.wr (Kp.trans kk (Kp.mono k4 S1)) dS, hh4.wr (fun e => nda (by rw [e]; exact List.mem_singleton.mpr rfl)) (fun e => ?_), by rw [upd_ne (Ne.symm npd)]; exact hh3.strs k4 (hh1.strs k3 hp), _, upd_same, fun y hy => ?_, fun y hy hny => ?_⟩
      · obtain ⟨xs, e2⟩ := hh4.some2
        rw [← e, hd4] at e2; cases e2
      · have h1 := ht y hy
        have h2 := hsame x hxn hni
        unfold up
        split
        · rename_i e; rw [e]; constructor <;> omega
        · exact h1
      · rw [take_snoc hx] at hny
        rw [up_ne (fun e => hny (List.mem_append_right _ (List.mem_singleton.mpr e)))]
        exact hsame y hy fun h => hny (List.mem_append_left _ h)
    · refine ⟨false, bl_f (fun e => hz (V.int.inj e)), ⟨_, rfl⟩, kk, hh3, hh1.strs k3 hp, t, hh1.dict k3 hd1, ht, fun y hy hny => ?_⟩
      rw [take_snoc hx] at hny
      exact hsame y hy fun h => hny (List.mem_append_left _ h)
  · rintro σ H1 ⟨⟨x2, rfl⟩, k, hh1, hp, t, hd1, ht, _⟩
    exact ⟨_, rfl, q _ t k hh1 hd1 ht⟩
end
end Ep

set_option Elab.async false
set_option linter.all false
set_option maxRecDepth 100000
set_option maxHeartbeats 4000000
/-! ## the law: greater -/
namespace Ep
open PySem PySem.Spec PyProof.Rows L2
theorem abs_lt {x b : Int} (h0 : 0 ≤ x) (h : x ≤ 10 ^ 24) : x.natAbs < 2 ^ 100 := by
  have : x.natAbs ≤ 10 ^ 24 := by omega
  exact Nat.lt_of_le_of_lt this (by decide)
theorem runs_dat {K : PySem.W.Frag} {H : Hp} {ts : List Addr} {rs : List Run} (h : Paired (RunAt H) ts rs) : ∀ v ∈ ts.map V.ref, ∃ d, Dat K H v d := fun v hv => by
  obtain ⟨t, ht, rfl⟩ := List.mem_map.mp hv
  obtain ⟨r, _, hr⟩ := paired_mem h t ht
  exact ⟨_, run_dat hr⟩
theorem runs_new {H : Hp} {ts : List Addr} {rs : List Run} {z : Addr} {o : HO} (h : Paired (RunAt H) ts rs) (nz : H z = none) : Paired (RunAt (upd H z o)) ts rs := Paired.mapP h fun t r e => new_get nz e
theorem snd_mkP {ps : List (Str × Str)} {T : Str × Str → Int} : (mkT kP ps fun p => V.int (T p)).map Prod.snd = (ps.map T).map V.int := by
  unfold mkT
  rw [List.map_map, List.map_map]
  rfl
theorem scr_paired {H : Hp} {fc : Int} : ∀ {us : List Addr} {rs : List Run}, Paired (fun u (r : Run) => RunAt H u (r.1, r.2.1, r.2.2 * fc)) us rs → Paired (RunAt H) us (rs.map fun r => (r.1, r.2.1, r.2.2 * fc))
  | _, _, .nil => .nil
  | _, _, .cons h r => .cons h (scr_paired r)
section
variable {P : Program} {w : World} {K : PySem.W.Frag} {mg : Str → Option Value} {base : Heap} {f : Addr} {fd : FuncData}
def p_greater : Sp := fun vs H Q _ => ∃ a c d l ns t rs, vs = [.ref a, .ref d, .ref l] ∧ HandAt H a c ∧ H d = some (dI ns t) ∧ RunsAt H l rs ∧ Built ns t rs ∧ (∀ x ∈ ns, t x ≤ 13 + rs.length * 10 ^ 21) ∧ (∀ r ∈ rs, r.2.2 ≤ 10 ^ 21) ∧
  ∀ H' p d2 l2 (ns2 : List Str) t2 rs2, Kp [a] H H' → HandAt H' a c → H' p = some (.tup [.ref d2, .ref l2]) → H' d2 = some (dI ns2 t2) → RunsAt H' l2 rs2 → Built ns2 t2 rs2 → (∀ x ∈ ns2, t2 x ≤ 10 ^ 30 - 1) → (∀ p, totL rs2 p ≤ 10 ^ 24) → (∀ r ∈ rs2, r.2.2 ≤ 10 ^ 24) → Q (.ref p) H'
abbrev s_l_greater : Stmt := top 68
abbrev N_l_greater : List Str := ["_law_hand_here", "_law_tickets", "_law_items", "_law_factor", "_law_more", "_law_name", "_law_one", "_law_other", "_law_many"]
theorem sc_l_greater : FnScope N_l_greater ["_law_hand_here", "_law_tickets", "_law_items"] (defScope s_l_greater) := ⟨rfl, rfl, rfl, by decide +kernel, rfl, by decide +kernel, by decide +kernel⟩
theorem ok_l_greater (F : FnP K "_law_greater" "_law_greater" s_l_greater f fd) (T : Txt K mg) (d_l_draw : Df P w K mg base CX0 3 "_law_draw" ["_law_hand_here", "_law_tally"] p_draw) (d_l_table : Df P w K mg base CX0 1 "_law_table" ["_law_items"] p_table) : FnOk P w K mg base CX0 4 f fd ["_law_hand_here", "_law_tickets", "_law_items"] p_greater := by
  refine ok0 F sc_l_greater (fun _ _ _ _ h => by obtain ⟨a, l, x, y, z, u, v, rfl, _⟩ := h; rfl) fun cdv A outer s H vs Q E hr h => ?_
  obtain ⟨a, c, d, l, ns, t, rs, rfl, hh, hd, hruns, B, htop, hmx, q⟩ := h
  have hu := hu_of hr
  refine ⟨_, (pss_cons (ps_if (PW.pt (pw_or (pt_cmpR (op_eq_nil hr.units) (pv 2) (pe_lst pa_nil) (nomark _)) (pw_or1 (pt_cmpR op_gt (pe_df d_l_draw hr (pa_cons (pv 0) (pa_cons pe_int pa_nil))) pe_int (nomark _)))))
      (pss_one (ps_ret (pe_tup (pa_cons (pv 1) (pa_cons (pv 2) pa_nil)))))
      pss_nil)
    (pss_cons (ps_set (i := 3) sc_l_greater.nd rfl (Or.inr rfl) (pe_op op_fdivW (pe_op op_sub (pe_op op_pow pe_int pe_int) pe_int) (pe_callB (cr_max rfl) (by rfl) T.max bt_max (pa_cons (pe_callTy (call_list_vals rfl) (by rfl) T.list bt_list (pa_cons (pe_bm0 PySem.F.plainAttrs_dict PySem.F.slot_dict_values PySem.F.type_dict_values mt_values (pe_df d_l_table hr (pa_cons (pv 2) pa_nil))) pa_nil)) pa_nil))))
    (pss_cons (ps_set (i := 4) sc_l_greater.nd rfl (Or.inl rfl) (pe_callTy (call_dictP rfl) (by rfl) T.dict bt_dict (pa_cons (pe_lc (own := [("_law_name", 5)]) (g := gName 5) (tt := tYes) rfl sc_l_greater.nd (pi_list (pe_callB (call_sortedD rfl) (by rfl) T.sorted bt_sorted (pa_cons (pv 1) pa_nil))) (blkOk_by (own := [("_law_name", 5)]) (N := N_l_greater) (sc := defScope s_l_greater) (by decide +kernel)) (fun _ _ _ _ _ => (pg_name (i := 5) sc_l_greater.nd rfl (Or.inl rfl))) (fun _ _ _ _ _ => pts_nil) (fun _ _ _ _ _ => (pe_tup (pa_cons (pv 5) (pa_cons (pe_callB (call_min2 rfl) (by rfl) T.min bt_min (pa_cons (pe_op op_sub (pe_op op_pow pe_int pe_int) pe_int) (pa_cons (pe_op op_mulW (pe_dget hu (pv 1) (pv 5) (fun _ _ => rfl)) (pv 3)) pa_nil))) pa_nil))))) pa_nil)))
    (C8.pss_cut (ps_if (pt_cmpR op_eq (pe_df d_l_draw hr (pa_cons (pv 0) (pa_cons pe_int pa_nil))) pe_int (nomark _))
      (pss_one (ps_dput hu (pv 4) (pe_ix ix_list (pe_callB (call_sortedD rfl) (by rfl) T.sorted bt_sorted (pa_cons (pv 4) pa_nil)) (pe_df d_l_draw hr (pa_cons (pv 0) (pa_cons (pe_callB call_lenD (by rfl) T.len bt_len (pa_cons (pv 4) pa_nil)) pa_nil))) (fun _ _ => rfl)) (pe_op op_sub (pe_op op_sub (pe_op op_pow pe_int pe_int) pe_int) (pe_df d_l_draw hr (pa_cons (pv 0) (pa_cons pe_int pa_nil)))) rfl))
      pss_nil)
    (pss_one (ps_ret (pe_tup (pa_cons (pv 4) (pa_cons (pe_lc (own := [("_law_one", 6), ("_law_other", 7), ("_law_many", 8)]) (g := gTup K 3 (gCons (gName 6) (gCons (gName 7) (gCons (gName 8) gNil)))) (tt := tYes) rfl sc_l_greater.nd (pi_list (pv 2)) (blkOk_by (own := [("_law_one", 6), ("_law_other", 7), ("_law_many", 8)]) (N := N_l_greater) (sc := defScope s_l_greater) (by decide +kernel)) (fun _ _ _ _ _ => (pg_tup rfl (pgs_cons (pg_name (i := 6) sc_l_greater.nd rfl (Or.inl rfl)) (pgs_cons (pg_name (i := 7) sc_l_greater.nd rfl (Or.inl rfl)) (pgs_cons (pg_name (i := 8) sc_l_greater.nd rfl (Or.inl rfl)) pgs_nil))))) (fun _ _ _ _ _ => pts_nil) (fun _ _ _ _ _ => (pe_tup (pa_cons (pv 6) (pa_cons (pv 7) (pa_cons (pe_op op_mulW (pv 8) (pv 3)) pa_nil)))))) pa_nil))))))))), ?_⟩
  have hlen : (rs.length : Int) ≤ 276 := Int.ofNat_le.mpr B.len
  have hl21 : (rs.length : Int) * 10 ^ 21 ≤ 276 * 10 ^ 21 := Int.mul_le_mul_of_nonneg_right hlen (by decide)
  have htotle : ∀ p, totL rs p ≤ 276 * 10 ^ 21 := fun p => Int.le_trans (B.tot_le hmx p) hl21
  have exA : ∀ {H'}, Kp [a] H H' → HandAt H' a c → ∀ p, H' p = none → Q (.ref p) (upd H' p (.tup [.ref d, .ref l])) := fun {H'} k hh' p np => by
    refine q _ p d l ns t rs (Kp.new k np) (hh'.new np) upd_same (new_get np (hh.dict k hd)) ?_ B (fun x hx => ?_) (fun p => ?_) fun r hr => ?_
    · obtain ⟨ts, e1, e2⟩ := hh.runs k hruns
      exact ⟨ts, new_get np e1, runs_new e2 np⟩
    · have := htop x hx
      omega
    · have := htotle p
      omega
    · have := hmx r hr
      omega
  obtain ⟨ts, hl, hts⟩ := id hruns
  have hlt : ts.length = rs.length := Paired.length hts
  refine ⟨.ref l, rfl, Nat.zero_le _, fun z nz => ?_⟩
  have kz : Kp [a] H (upd H z (.lst [])) := Kp.new Kp.refl nz
  have hhz : HandAt (upd H z (.lst [])) a c := hh.new nz
  refine ⟨l, z, _, rfl, rfl, SqL.of (new_get nz hl), SqL.of upd_same, runs_dat (runs_new hts nz), ?_⟩
  by_cases hne : rs = []
  · subst hne
    cases ts with
    | cons t0 ts => cases hlt
    | nil => exact ⟨true, rfl, .ref d, rfl, .ref l, rfl, two_sz, fun p np => exA kz hhz p np⟩
  refine ⟨false, ?_, ?_⟩
  · cases ts with
    | cons t0 ts => rfl
    | nil =>
      cases rs with
      | nil => exact absurd rfl hne
      | cons r rs => cases hlt
  refine ⟨.ref a, rfl, a, c, 6, rfl, hhz, by decide, by decide, fun H1 r k1 hh1 r0 r1 => ?_⟩
  have kk1 := Kp.trans kz k1
  by_cases hr0 : r > 0
  · exact ⟨r, 0, rfl, rfl, true, bl_t hr0, .ref d, rfl, .ref l, rfl, two_sz, fun p np => exA kk1 hh1 p np⟩
  refine ⟨r, 0, rfl, rfl, false, bl_f hr0, ?_⟩
  refine ⟨10, 24, rfl, rfl, ⟨by decide, by decide, by decide⟩, _, 1, rfl, rfl, .ref l, rfl, l, rs, rfl, hh.runs kk1 hruns, by have := B.len; omega, fun H2 dt k2 ndt hdt => ?_⟩
  refine ⟨.inr (.inr (.inl ⟨rfl, .inr ⟨_, hdt⟩⟩)), dt, _, rfl, rfl, .dT _ hdt, fun pw npw => ⟨pw, dt, _, rfl, upd_same, .dT _ (new_get npw hdt), fun ql nql => ?_⟩⟩
  rw [snd_mkP]
  have k3 : Kp [a] H (upd (upd H2 pw (valsO pw dt)) ql (.lst (((tabL rs).map (totL rs)).map V.int))) := Kp.new (Kp.new (Kp.trans kk1 (Same.kp k2)) npw) nql
  have hh3 : HandAt (upd (upd H2 pw (valsO pw dt)) ql (.lst (((tabL rs).map (totL rs)).map V.int))) a c := ((hh1.same k2).new npw).new nql
  have hql : upd (upd H2 pw (valsO pw dt)) ql (.lst (((tabL rs).map (totL rs)).map V.int)) ql = some (.lst (((tabL rs).map (totL rs)).map V.int)) := upd_same
  generalize upd (upd H2 pw (valsO pw dt)) ql (.lst (((tabL rs).map (totL rs)).map V.int)) = H3 at k3 hh3 hql ⊢
  refine ⟨ql, _, rfl, SqL.of hql, ?_, fun m hm hmax => ?_⟩
  · obtain ⟨r1, hr1⟩ : ∃ r1, r1 ∈ rs := List.exists_mem_of_ne_nil _ hne
    rw [List.length_map]
    exact List.length_pos_of_mem ((mem_tabK rs).mpr ⟨r1, hr1, rfl⟩)
  obtain ⟨p0, hp0, rfl⟩ := List.mem_map.mp hm
  have hm1 : 1 ≤ totL rs p0 := totK_pos B.pos hp0
  have hm2 := htotle p0
  have hmax' : ∀ p ∈ tabL rs, totL rs p ≤ totL rs p0 := fun p hp => hmax _ (List.mem_map.mpr ⟨p, hp, rfl⟩)
  generalize totL rs p0 = mx at hm1 hm2 hmax'
  refine ⟨_, mx, rfl, rfl, wide_div (b := 100) (by omega) (abs_lt (b := 0) (by omega) (by omega)) (by decide) (by decide), ?_⟩
  have e24 : ((10 : Int) ^ (24 : Int).toNat - 1) = 10 ^ 24 - 1 := rfl
  rw [e24]
  dsimp only
  have hf0 : mx * ((10 ^ 24 - 1) / mx) ≤ 10 ^ 24 - 1 := Int.mul_ediv_self_le (by omega)
  have hf1 : 1 ≤ (10 ^ 24 - 1) / mx := Int.le_ediv_of_mul_le (by omega) (by omega)
  have hf2 : (10 ^ 24 - 1) / mx ≤ 10 ^ 24 := Int.le_trans (Int.ediv_le_self _ (by decide)) (by decide)
  generalize ((10 : Int) ^ 24 - 1) / mx = fc at hf0 hf1 hf2 ⊢
  have hscale : ∀ y : Int, 0 ≤ y → y ≤ mx → y * fc ≤ 10 ^ 24 := fun y _ hy => by
    have := Int.mul_le_mul_of_nonneg_right hy (show 0 ≤ fc by omega)
    omega
  have hrun : ∀ r ∈ rs, r.2.2 * fc ≤ 10 ^ 24 := fun r hr => by
    have hk : kPr r ∈ tabL rs := (mem_tabK rs).mpr ⟨r, hr, rfl⟩
    have h1 := su_mem_le (l := rs) (g := fun r' => if kPr r' = kPr r then r'.2.2 else 0) (fun r' hr' => by
      split
      · have := B.pos r' hr'; omega
      · exact Int.le_refl _) hr
    have h2 : (if kPr r = kPr r then r.2.2 else 0) = r.2.2 := if_pos rfl
    have h3 : r.2.2 ≤ totL rs (kPr r) := by
      have h1' : (if kPr r = kPr r then r.2.2 else 0) ≤ totL rs (kPr r) := h1
      rw [h2] at h1'; exact h1'
    have := B.pos r hr
    exact hscale _ (by omega) (Int.le_trans h3 (hmax' _ hk))
  have GB := B.great hf1 hrun
  have hd3 := hh.dict k3 hd
  have n24 : ns.length ≤ 24 := B.nm.len
  have tle : ∀ x ∈ ns, t x ≤ 10 ^ 24 := fun x hx => by have := htop x hx; omega
  refine ⟨.ref d, rfl, d, _, ns, rfl, .inl hd3, keys_mk, mkT_nd n24, fun zs pz pmz soz npz => ?_⟩
  refine ⟨pz, rfl, ⟨_, SqL.of upd_same⟩, fun D nD => ?_⟩
  have ndz : zs.Nodup := pmz.nodup_iff.mpr B.nm.nd
  have hzl : zs.length ≤ 24 := by rw [pmz.length_eq]; exact n24
  have nDpz : pz ≠ D := ne_of_none upd_same nD
  have k4 : Kp [a] H (upd H3 pz (.lst (zs.map V.str))) := Kp.new k3 npz
  have hh4 : HandAt (upd H3 pz (.lst (zs.map V.str))) a c := hh3.new npz
  have hpz : upd H3 pz (.lst (zs.map V.str)) pz = some (.lst (zs.map V.str)) := upd_same
  generalize upd H3 pz (.lst (zs.map V.str)) = H4 at nD k4 hh4 hpz ⊢
  have hd4 := hh.dict k4 hd
  refine lc_it (walk_list (xs := zs.map V.str)) (fun i H' => Same H4 H' ∧ ∃ us : List Addr, H' D = some (.lst (us.map V.ref)) ∧ Paired (fun u x => H' u = some (.tup (cE (clip fc t) x))) us (zs.take i)) ?_ ?_ ?_ ?_
  · exact ⟨Same.new Same.rfl nD, [], upd_same, .nil⟩
  · rintro i H5 _ ⟨k, _⟩
    exact SqL.of (k _ _ hpz)
  · rintro i v H5 H6 hi ⟨k, us, hD, hus⟩ ⟨rfl, hv⟩
    obtain ⟨x, hx, rfl⟩ := map_str_get hv
    have hxn : x ∈ ns := pmz.mem_iff.mp (List.mem_of_getElem? hx)
    refine ⟨rfl, .str x, rfl, 10, 30, rfl, rfl, ⟨by decide, by decide, by decide⟩, _, 2, rfl, rfl, .ref d, rfl, .str x, rfl, d, _, rfl, dN_get (k _ _ hd4) hxn, .int fc, rfl, t x, fc, rfl, rfl, wide_mul (a := 100) (b := 100) (abs_lt (b := 0) (B.nn x hxn) (tle x hxn)) (abs_lt (b := 0) (by omega) hf2) (by decide) (by decide) (by decide), _, _, rfl, two_sz, fun u nu => ?_⟩
    obtain ⟨g1, g2, g3⟩ := grow (c := cE (clip fc t)) x hD hus nu
    refine ⟨_, g1, ?_, Same.wrN (Same.new k nu) nD, us ++ [u], g2, by rw [take_snoc hx]; exact g3⟩
    rw [List.length_map]
    have := Paired.length hus
    rw [List.length_take] at this
    exact lt_sz (by omega)
  rintro H5 ⟨k5, us, hD, hus⟩
  rw [List.take_of_length_le (by rw [List.length_map]; exact Nat.le_refl _)] at hus
  refine ⟨D, us, mkT kS zs fun x => .int (clip fc t x), rfl, SqL.of hD, ents_pairs hus, fun md nmd => ?_⟩
  rw [merge_nil ndz]
  have hh5 := hh4.same k5
  have kk5 := Kp.trans k4 (Same.kp k5)
  have nmd0 : H md = none := hh5.free kk5 nmd
  have k6 : Kp [a] H (upd H5 md (dI zs (clip fc t))) := Kp.new kk5 nmd
  have hh6 : HandAt (upd H5 md (dI zs (clip fc t))) a c := hh5.new nmd
  have hmd6 : upd H5 md (dI zs (clip fc t)) md = some (dI zs (clip fc t)) := upd_same
  have cle := clip_le fc t
  have hbig : big ≤ 10 ^ 30 - 1 := by decide
  refine ⟨fun σ H' => (∃ x5 x6 x7 x8, σ = [some (.ref a), some (.ref d), some (.ref l), some (.int fc), some (.ref md), x5, x6, x7, x8]) ∧ Kp [a] H H' ∧ HandAt H' a c ∧ ∃ t2, H' md = some (dI zs t2) ∧ ∀ x ∈ zs, clip fc t x ≤ t2 x ∧ t2 x ≤ 10 ^ 30 - 1, ?_, ?_⟩
  · refine ⟨.ref a, rfl, a, c, 2, rfl, hh6, by decide, by decide, fun H7 r7 k7 hh7 r70 r71 => ⟨rfl, ?_⟩⟩
    have kk7 := Kp.trans k6 k7
    have hmd7 := hh6.dict k7 hmd6
    by_cases hz : r7 = 0
    · refine ⟨true, by rw [hz]; rfl, ?_⟩
      refine ⟨10, 30, rfl, rfl, ⟨by decide, by decide, by decide⟩, _, 1, rfl, rfl, .ref a, rfl, a, c, 2, rfl, hh7, by decide, by decide, fun H8 r8 k8 hh8 r80 r81 => ⟨_, r8, rfl, rfl, ?_⟩⟩
      have e30 : ((10 : Int) ^ (30 : Int).toNat - 1) = 10 ^ 30 - 1 := rfl
      rw [e30]
      have hmd8 := hh7.dict k8 hmd7
      refine ⟨.ref md, rfl, .ref md, rfl, md, _, zs, rfl, .inl hmd8, keys_mk, mkT_nd hzl, fun ws pw2 pmw sow npw2 => ?_⟩
      have hmd9 := new_get (u := .lst (ws.map V.str)) npw2 hmd8
      have hh9 := hh8.new (o := .lst (ws.map V.str)) npw2
      have hpw : upd H8 pw2 (.lst (ws.map V.str)) pw2 = some (.lst (ws.map V.str)) := upd_same
      have k9 : Kp [a] H (upd H8 pw2 (.lst (ws.map V.str))) := Kp.new (Kp.trans kk7 k8) npw2
      generalize upd H8 pw2 (.lst (ws.map V.str)) = H9 at hmd9 hh9 hpw k9 ⊢
      have hzl1 : 1 ≤ zs.length := by rw [pmz.length_eq]; have := B.two; omega
      have hwl : ws.length = zs.length := pmw.length_eq
      refine ⟨.ref a, rfl, .ref md, rfl, md, _, rfl, hmd9, a, c, _, rfl, hh9, by rw [length_mkT]; omega, ?_, fun HA rA kA hhA rA0 rA1 => ?_⟩
      · rw [length_mkT]
        exact Int.le_trans (show ((zs.length : Nat) : Int) ≤ 24 by omega) (by decide)
      rw [length_mkT] at rA1
      obtain ⟨x, hx⟩ := get_ex (l := ws) rA0 (by omega)
      have hxz : x ∈ zs := pmw.mem_iff.mp (List.mem_of_getElem? hx)
      obtain ⟨mA, rfl⟩ : ∃ m : Nat, rA = m := ⟨rA.toNat, by omega⟩
      refine ⟨pw2, _, mA, .str x, rfl, rfl, SqL.of (hh9.strs kA hpw), atI_nat (str_get hx), md, _, rfl, dI_put (n := 10 ^ 30 - 1 - r8) (hh9.dict kA hmd9) hxz (lt_sz (by omega)), ⟨_, _, _, _, rfl⟩, Kp.wrN (Kp.trans k9 kA) nmd0, hhA.wrN hh nmd0, _, upd_same, fun y hy => ?_⟩
      have h1 := cle y
      have hb2 : big = 10 ^ 30 - 2 := rfl
      unfold up
      split
      · constructor <;> omega
      · constructor <;> omega
    · exact ⟨false, bl_f (fun e => hz (V.int.inj e)), ⟨_, _, _, _, rfl⟩, kk7, hh7, _, hmd7, fun x hx => ⟨Int.le_refl _, Int.le_trans (cle x) hbig⟩⟩
  rintro σ H7 ⟨⟨x5, x6, x7, x8, rfl⟩, k7, hh7, t2, hmd7, ht2⟩
  obtain ⟨ts7, hl7, hts7⟩ := hh.runs k7 hruns
  have hlt7 : ts7.length = rs.length := Paired.length hts7
  refine ⟨.ref md, rfl, .ref l, rfl, l, rfl, ⟨_, SqL.of hl7⟩, fun D2 nD2 => ?_⟩
  refine lc_it (walk_list (xs := ts7.map V.ref)) (fun i H' => Same H7 H' ∧ ∃ us : List Addr, H' D2 = some (.lst (us.map V.ref)) ∧ Paired (fun u r => H' u = some (.tup [.str r.1, .str r.2.1, .int (r.2.2 * fc)])) us (rs.take i)) ?_ ?_ ?_ ?_
  · exact ⟨Same.new Same.rfl nD2, [], upd_same, .nil⟩
  · rintro i H8 _ ⟨k, _⟩
    exact SqL.of (k _ _ hl7)
  · rintro i v H8 H9 hi ⟨k, us, hD, hus⟩ ⟨rfl, hv⟩
    obtain ⟨ti, hti, rfl⟩ := map_ref_get hv
    obtain ⟨⟨y1, y2, m⟩, hri, hrun1⟩ := L2.paired_get hts7 hti
    have hrm := List.mem_of_getElem? hri
    have hm1 : (1 : Int) ≤ m := B.pos _ hrm
    have hm2 : m ≤ 10 ^ 21 := hmx _ hrm
    refine ⟨ti, [.str y1, .str y2, .int m], rfl, SqT.of (k _ _ hrun1), rfl, _, _, rfl, _, _, rfl, _, _, rfl, rfl, rfl, ?_⟩
    refine ⟨.str y1, rfl, .str y2, rfl, .int m, rfl, .int fc, rfl, m, fc, rfl, rfl, wide_mul (a := 100) (b := 100) (abs_lt (b := 0) (by omega) (by omega)) (abs_lt (b := 0) (by omega) hf2) (by decide) (by decide) (by decide), by show 3 ≤ sizeLine; decide, fun u nu => ?_⟩
    obtain ⟨g1, g2, g3⟩ := grow (c := fun r : Run => [.str r.1, .str r.2.1, .int (r.2.2 * fc)]) (y1, y2, m) hD hus nu
    refine ⟨_, g1, ?_, Same.wrN (Same.new k nu) nD2, us ++ [u], g2, by rw [take_snoc hri]; exact g3⟩
    rw [List.length_map]
    have := Paired.length hus
    rw [List.length_take] at this
    have := B.len
    exact lt_sz (by omega)
  rintro H8 ⟨k8, us8, hD8, hus8⟩
  rw [List.take_of_length_le (by rw [List.length_map]; omega)] at hus8
  refine ⟨two_sz, fun p np => ?_⟩
  have hh8 := hh7.same k8
  refine q _ p md D2 zs t2 (scR fc rs) (Kp.new (Kp.trans k7 (Same.kp k8)) np) (hh8.new np) upd_same (new_get np (k8 _ _ hmd7)) ⟨us8, new_get np hD8, ?_⟩ ((GB.names pmz).mono fun x hx => (ht2 x hx).1) (fun x hx => (ht2 x hx).2) (fun p' => ?_) fun r hr => ?_
  · have e2 : Paired (fun u r => RunAt (upd H8 p (.tup [.ref md, .ref D2])) u (r.1, r.2.1, r.2.2 * fc)) us8 rs := Paired.mapP hus8 fun u r e => new_get np e
    clear hus8
    unfold scR
    exact scr_paired e2
  · rw [scR_tot]
    by_cases hp' : p' ∈ tabL rs
    · have h1 := totK_pos B.pos hp'
      exact hscale _ (by unfold totL; omega) (hmax' p' hp')
    · rw [show totL rs p' = 0 from totK_no hp', Int.zero_mul]; decide
  · obtain ⟨r0, h0, rfl⟩ := List.mem_map.mp hr
    exact hrun r0 h0
end
end Ep

set_option Elab.async false
set_option linter.all false
set_option maxRecDepth 100000
set_option maxHeartbeats 4000000
/-! ## the law: moved, right -/
namespace Ep
open PySem PySem.Spec PyProof.Rows L2
/-- a cut behind an expression -/
def tMid (M : L2.St → Hp → VK) (t : TE) : TE := fun σ H Q => t σ H (M σ H) ∧ ∀ v H', M σ H v H' → Q v H'
theorem pe_mid {X : Cx} {e : Expr} {t : TE} (M : L2.St → Hp → VK) (h : PE X e t) : PE X e (tMid M t) := by
  refine ⟨fun pins s σ H Q I q => ?_⟩
  exact thn (h.run pins s σ H _ I q.1) fun v s1 ⟨x, H1, I1, r1, q1⟩ => ⟨x, H1, I1, r1, q.2 _ _ q1⟩
theorem strs_dats {K : PySem.W.Frag} {H : Hp} {ys : List Str} : ∀ v ∈ ys.map V.str, ∃ d, Dat K H v d := fun v hv => by
  obtain ⟨x, _, rfl⟩ := List.mem_map.mp hv
  exact ⟨.str x, .str x, rfl, Nat.zero_le _⟩
def PayOk (ns : List Str) (rs : List Run) (t h : Str → Int) (rt : List Run) : Prop := rt.length ≤ 1000 ∧ (∀ r ∈ rt, r.1 ≠ r.2.1 ∧ 0 < r.2.2) ∧ (rt.map kRn).Pairwise LtP ∧ (∀ p, p ∈ tabL rt ↔ p ∈ tabL rs) ∧ (∀ p ∈ tabL rt, totL rt p = totL rs p) ∧ (∀ r ∈ rt, r.1 ∈ ns) ∧ ∀ x ∈ ns, h x = t x - spentR rt x
def SetOk (ns : List Str) (rs : List Run) (t h : Str → Int) (R : List Str) : Prop := Asc R ∧ R ≠ [] ∧ (∀ x ∈ R, x ∈ ns) ∧ su R t - su R h < eT (tabL rs) (totL rs) (inR R)
section
variable {P : Program} {w : World} {K : PySem.W.Frag} {mg : Str → Option Value} {base : Heap} {f : Addr} {fd : FuncData}
def p_right : Sp := fun vs H Q _ => ∃ td lr hd fp l2 ns t h rs, vs = [.ref td, .ref lr, .ref hd, .ref fp] ∧ H td = some (dI ns t) ∧ H hd = some (dI ns h) ∧ ns.Nodup ∧ ns.length ≤ 24 ∧ RunsAt H lr rs ∧ rs.length ≤ 1000 ∧
  ((∃ rt, H fp = some (.tup [.str "payments", .ref l2]) ∧ RunsAt H l2 rt ∧ PayOk ns rs t h rt) ∨ (∃ R, H fp = some (.tup [.str "set", .ref l2]) ∧ H l2 = some (.lst (R.map V.str)) ∧ SetOk ns rs t h R)) ∧ ∀ H', Same H H' → Q (.bl true) H'
abbrev s_l_right : Stmt := top 71
abbrev N_l_right : List Str := ["_law_tickets", "_law_runs", "_law_here", "_law_found", "_law_spent_here", "_law_rest", "_law_name"]
theorem sc_l_right : FnScope N_l_right ["_law_tickets", "_law_runs", "_law_here", "_law_found"] (defScope s_l_right) := ⟨rfl, rfl, rfl, by decide +kernel, rfl, by decide +kernel, by decide +kernel⟩
theorem ne_ps : ¬ (V.str (Str.ofString "set") = V.str (Str.ofString "payments")) := fun e => absurd (V.str.inj e) (by decide +kernel)
theorem ok_l_right (F : FnP K "_law_right" "_law_right" s_l_right f fd) (T : Txt K mg) (d_l_pays : Df P w K mg base CX0 2 "_law_pays" ["_law_items", "_law_thing"] p_l_pays) (d_l_spent : Df P w K mg base CX0 1 "_law_spent" ["_law_names_here", "_law_payments"] p_lspent)
    (d_l_is_names : Df P w K mg base CX0 1 "_law_is_names" ["_law_thing", "_law_names_here"] p_is_names) (d_l_between : Df P w K mg base CX0 1 "_law_between" ["_law_table_here", "_law_some"] p_between) (d_l_table : Df P w K mg base CX0 1 "_law_table" ["_law_items"] p_table) : FnOk P w K mg base CX0 3 f fd ["_law_tickets", "_law_runs", "_law_here", "_law_found"] p_right := by
  refine ok0 F sc_l_right (fun _ _ _ _ h => by obtain ⟨a, l, x, y, z, u, v, v2, v3, rfl, _⟩ := h; rfl) fun cdv A outer s H vs Q E hr h => ?_
  obtain ⟨td, lr, hd, fp, l2, ns, t, h, rs, rfl, htd, hhd, nd, hlen, hrs, hrl, hcase, q⟩ := h
  have hu := hu_of hr
  refine ⟨_, (pss_cons (ps_if (pt_cmpR op_eq (pe_ix ix_tup (pv 3) pe_int (fun _ _ => rfl)) pe_str (nomark _))
      (pss_cons (ps_if (pt_not (pt_val (pe_df d_l_pays hr (pa_cons (pv 1) (pa_cons (pe_ix ix_tup (pv 3) pe_int (fun _ _ => rfl)) pa_nil)))))
        (pss_one (ps_ret pe_bl))
        pss_nil)
      (pss_cons (ps_set (i := 4) sc_l_right.nd rfl (Or.inr rfl) (pe_df d_l_spent hr (pa_cons (pe_callB (call_sortedD rfl) (by rfl) T.sorted bt_sorted (pa_cons (pv 0) pa_nil)) (pa_cons (pe_ix ix_tup (pv 3) pe_int (fun _ _ => rfl)) pa_nil))))
      (pss_one (ps_ret (pe_cmpR (op_eq_dictA hr.units0) (pv 2) (pe_callTy (call_dictP rfl) (by rfl) T.dict bt_dict (pa_cons (pe_lock (pe_lc (own := [("_law_name", 6)]) (g := gName 6) (tt := tYes) rfl sc_l_right.nd (pi_keys (pv 0)) (blkOk_by (own := [("_law_name", 6)]) (N := N_l_right) (sc := defScope s_l_right) (by decide +kernel)) (fun _ _ _ _ _ => (pg_name (i := 6) sc_l_right.nd rfl (Or.inl rfl))) (fun _ _ _ _ _ => pts_nil) (fun _ _ _ _ _ => (pe_tup (pa_cons (pv 6) (pa_cons (pe_op op_sub (pe_dget hu (pv 0) (pv 6) (fun _ _ => rfl)) (pe_dget hu (pv 4) (pv 6) (fun _ _ => rfl))) pa_nil)))))) pa_nil)) (nomark _))))))
      pss_nil)
    (pss_cons (ps_if (PW.pt (pw_or (pt_cmpR op_ne (pe_ix ix_tup (pv 3) pe_int (fun _ _ => rfl)) pe_str (nomark _)) (pw_or (pt_not (pt_val (pe_df d_l_is_names hr (pa_cons (pe_ix ix_tup (pv 3) pe_int (fun _ _ => rfl)) (pa_cons (pe_callB (call_sortedD rfl) (by rfl) T.sorted bt_sorted (pa_cons (pv 0) pa_nil)) pa_nil))))) (pw_or1 (pt_cmpR (op_eq_nil hr.units) (pe_ix ix_tup (pv 3) pe_int (fun _ _ => rfl)) (pe_lst pa_nil) (nomark _))))))
      (pss_one (ps_ret pe_bl))
      pss_nil)
    (pss_cons (ps_set (i := 5) sc_l_right.nd rfl (Or.inl rfl) (pe_callB (cr_sum rfl) (by rfl) T.sum bt_sum (pa_cons (pe_lc (own := [("_law_name", 6)]) (g := gName 6) (tt := tYes) rfl sc_l_right.nd (pi_list (pe_ix ix_tup (pv 3) pe_int (fun _ _ => rfl))) (blkOk_by (own := [("_law_name", 6)]) (N := N_l_right) (sc := defScope s_l_right) (by decide +kernel)) (fun _ _ _ _ _ => (pg_name (i := 6) sc_l_right.nd rfl (Or.inl rfl))) (fun _ _ _ _ _ => pts_nil) (fun _ _ _ _ _ => (pe_op op_sub (pe_dget hu (pv 0) (pv 6) (fun _ _ => rfl)) (pe_dget hu (pv 2) (pv 6) (fun _ _ => rfl))))) pa_nil)))
    (pss_one (ps_ret (pe_cmpR op_lt (pv 5) (pe_df d_l_between hr (pa_cons (pe_df d_l_table hr (pa_cons (pv 1) pa_nil)) (pa_cons (pe_ix ix_tup (pv 3) pe_int (fun _ _ => rfl)) pa_nil))) (nomark _))))))), ?_⟩
  rcases hcase with ⟨rt, hfp, hrt, htl, hok, hasc, hmem, htot, hin, hh⟩ | ⟨R, hfp, hl2, hasc, hRne, hsub, hlt⟩
  · refine ⟨.ref fp, rfl, fp, _, 0, _, rfl, rfl, SqT.of hfp, rfl, rfl, true, bl_t rfl, ?_⟩
    refine ⟨.ref lr, rfl, .ref fp, rfl, fp, _, 1, _, rfl, rfl, SqT.of hfp, rfl, lr, l2, rs, rt, rfl, hrs, hrt, hrl, htl, hok, hasc, hmem, htot, fun H1 k1 => ⟨true, rfl, ?_⟩⟩
    refine ⟨.ref td, rfl, td, _, ns, rfl, .inl (k1 _ _ htd), keys_mk, mkT_nd hlen, fun zs pz pmz soz npz => ?_⟩
    have k2 : Same H (upd H1 pz (.lst (zs.map V.str))) := Same.new k1 npz
    refine ⟨.ref fp, rfl, fp, _, 1, _, rfl, rfl, SqT.of (k2 _ _ hfp), rfl, pz, l2, zs, rt, rfl, upd_same, pmz.nodup_iff.mpr nd, by rw [pmz.length_eq]; exact hlen, hrt.same k2, htl, fun r hr => pmz.mem_iff.mpr (hin r hr), fun H3 sd k3 nsd hsd => ?_⟩
    have k23 := Same.tr k2 k3
    refine ⟨.ref hd, rfl, td, _, k23 _ _ htd, trivial, fun od => ?_⟩
    refine ⟨.ref td, rfl, td, od, rfl, .inl ⟨_, upd_same, fun D nD => ?_⟩⟩
    have hdz : upd H3 td (.frz od (dI ns t)) td = some (.frz od (dI ns t)) := upd_same
    have nDt : D ≠ td := fun z => by rw [z, upd_same] at nD; cases nD
    have nst : sd ≠ td := fun z => by rw [z, k2 _ _ htd] at nsd; cases nsd
    have hsz : upd H3 td (.frz od (dI ns t)) sd = some (dI zs (spentR rt)) := by rw [upd_ne nst]; exact hsd
    refine lc_it walk_keys (fun i H' => Same (upd H3 td (.frz od (dI ns t))) H' ∧ ∃ us : List Addr, H' D = some (.lst (us.map V.ref)) ∧ Paired (fun u x => H' u = some (.tup (cE (fun x => t x - spentR rt x) x))) us (ns.take i)) ?_ ?_ ?_ ?_
    · exact ⟨Same.new Same.rfl nD, [], upd_same, .nil⟩
    · rintro i H4 _ ⟨k, _⟩
      exact k _ _ hdz
    · rintro i v H4 H5 hi ⟨k, us, hD, hus⟩ ⟨rfl, key, v2, hkv, rfl⟩
      obtain ⟨x, hx, rfl, rfl⟩ := nm_at hkv
      have hxn := List.mem_of_getElem? hx
      refine ⟨rfl, .str x, rfl, .ref td, rfl, .str x, rfl, td, _, rfl, dN_getZ (k _ _ hdz) hxn, .ref sd, rfl, .str x, rfl, sd, _, rfl, dN_get (k _ _ hsz) (pmz.mem_iff.mpr hxn), _, _, rfl, rfl, two_sz, fun u nu => ?_⟩
      obtain ⟨g1, g2, g3⟩ := grow (c := cE fun x => t x - spentR rt x) x hD hus nu
      refine ⟨_, g1, ?_, Same.wrN (Same.new k nu) nD, us ++ [u], g2, by rw [take_snoc hx]; exact g3⟩
      rw [List.length_map]
      have := Paired.length hus
      rw [List.length_take] at this
      exact lt_sz (by omega)
    · rintro H4 ⟨k, us, hD, hus⟩
      rw [List.take_of_length_le (by rw [length_mkT]; exact Nat.le_refl _)] at hus
      have kk := lock_same (k23 _ _ htd) k
      refine ⟨k _ _ hdz, D, us, mkT kS ns fun x => .int (t x - spentR rt x), rfl, SqL.of (by rw [upd_ne nDt]; exact hD), ents_pairs (Paired.mapP hus fun u y z => ?_), fun d nd1 => ?_⟩
      · rw [upd_ne (fun e => by rw [e, k _ _ hdz] at z; cases z)]; exact z
      rw [merge_nil nd]
      have k5 := Same.tr k23 kk
      refine ⟨hd, d, _, _, rfl, rfl, new_get nd1 (k5 _ _ hhd), upd_same, by rw [length_mkT, length_mkT], ?_, q _ (Same.new k5 nd1)⟩
      intro p hp
      obtain ⟨x, hx, rfl⟩ := List.mem_map.mp hp
      refine ⟨?_, rfl⟩
      rw [valV_mk kS_inj hx]
      show some (V.int (t x - spentR rt x)) = some (V.int (h x))
      rw [hh x hx]
  · have hRl : R.length ≤ 24 := Nat.le_trans (List.Nodup.length_le_of_subset (asc_nodup hasc) fun z hz => hsub z hz) hlen
    refine ⟨.ref fp, rfl, fp, _, 0, _, rfl, rfl, SqT.of hfp, rfl, rfl, false, bl_f ne_ps, ?_⟩
    refine ⟨.ref fp, rfl, fp, _, 0, _, rfl, rfl, SqT.of hfp, rfl, rfl, false, rfl, ?_⟩
    refine ⟨.ref fp, rfl, fp, _, 1, _, rfl, rfl, SqT.of hfp, rfl, .ref td, rfl, td, _, ns, rfl, .inl htd, keys_mk, mkT_nd hlen, fun zs pz pmz soz npz => ?_⟩
    have k1 : Same H (upd H pz (.lst (zs.map V.str))) := Same.new Same.rfl npz
    refine ⟨l2, pz, R, zs, rfl, k1 _ _ hl2, upd_same, hasc, fun x hx => pmz.mem_iff.mpr (hsub x hx), by omega, fun H2 k2 => ⟨true, rfl, ?_⟩⟩
    have k12 := Same.tr k1 k2
    refine ⟨.ref fp, rfl, fp, _, 1, _, rfl, rfl, SqT.of (k12 _ _ hfp), rfl, Nat.zero_le _, fun z nz => ?_⟩
    have k3 : Same H (upd H2 z (.lst [])) := Same.new k12 nz
    refine ⟨l2, z, _, rfl, rfl, SqL.of (k3 _ _ hl2), SqL.of upd_same, strs_dats, false, ?_, ?_⟩
    · cases R with
      | nil => exact absurd rfl hRne
      | cons x R => rfl
    refine ⟨.ref fp, rfl, fp, _, 1, _, rfl, rfl, SqT.of (k3 _ _ hfp), rfl, l2, rfl, ⟨_, SqL.of (k3 _ _ hl2)⟩, fun D nD => ?_⟩
    refine lc_it (walk_list (xs := R.map V.str)) (fun i H' => Same H H' ∧ H' D = some (.lst (((R.take i).map fun x => t x - h x).map V.int))) ?_ ?_ ?_ ?_
    · exact ⟨Same.new k3 nD, upd_same⟩
    · rintro i H4 _ ⟨k, _⟩
      exact SqL.of (k _ _ hl2)
    · rintro i v H4 H5 hi ⟨k, hD⟩ ⟨rfl, hv⟩
      obtain ⟨x, hx, rfl⟩ := map_str_get hv
      have hxn := hsub x (List.mem_of_getElem? hx)
      refine ⟨rfl, .ref td, rfl, .str x, rfl, td, _, rfl, dN_get (k _ _ htd) hxn, .ref hd, rfl, .str x, rfl, hd, _, rfl, dN_get (k _ _ hhd) hxn, _, _, rfl, rfl, _, hD, ?_, Same.wrN k (none_of k3 nD), ?_⟩
      · rw [List.length_map, List.length_map, List.length_take]
        exact lt_sz (by omega)
      · rw [upd_same, take_snoc hx, List.map_append, List.map_append]; rfl
    · rintro H4 ⟨k, hD⟩
      rw [List.take_of_length_le (by rw [List.length_map]; exact Nat.le_refl _)] at hD
      refine ⟨D, _, rfl, SqL.of hD, ?_⟩
      have es : ((R.map fun x => t x - h x)).sum = su R t - su R h := su_sub R t h
      rw [es]
      refine ⟨_, rfl, .ref lr, rfl, lr, rs, rfl, hrs.same k, hrl, fun H5 tb k5 ntb htb => ?_⟩
      have k45 := Same.tr k k5
      refine ⟨.ref fp, rfl, fp, _, 1, _, rfl, rfl, SqT.of (k45 _ _ hfp), rfl, tb, l2, tabL rs, totL rs, R, rfl, htb, Nat.le_trans (length_tabK rs) hrl, k45 _ _ hl2, fun H6 k6 => ?_⟩
      refine ⟨_, _, rfl, rfl, ?_⟩
      show Q (.bl (decide (su R t - su R h < eT (tabL rs) (totL rs) (inR R)))) H6
      rw [show V.bl (decide (su R t - su R h < eT (tabL rs) (totL rs) (inR R))) = V.bl true from bl_t hlt]
      exact q _ (Same.tr k45 k6)
def p_moved : Sp := fun vs H Q _ => ∃ a c d ns h, vs = [.ref a, .ref d] ∧ HandAt H a c ∧ H d = some (dI ns h) ∧ ns.Nodup ∧ ns.length ≤ 24 ∧ 1 ≤ ns.length ∧ AmOk ns h ∧ ∀ H' d2 h2, Kp [a] H H' → HandAt H' a c → H' d2 = some (dI ns h2) → AmOk ns h2 → su ns h2 = su ns h → Q (.ref d2) H'
abbrev s_l_moved : Stmt := top 70
abbrev N_l_moved : List Str := ["_law_hand_here", "_law_here", "_law_found", "_law_names_here", "_law_k", "_law_some", "_law_one", "_law_other", "_law_many", "_law_name"]
theorem sc_l_moved : FnScope N_l_moved ["_law_hand_here", "_law_here"] (defScope s_l_moved) := ⟨rfl, rfl, rfl, by decide +kernel, rfl, by decide +kernel, by decide +kernel⟩
theorem ok_l_moved (F : FnP K "_law_moved" "_law_moved" s_l_moved f fd) (T : Txt K mg) (d_l_draw : Df P w K mg base CX0 3 "_law_draw" ["_law_hand_here", "_law_tally"] p_draw) : FnOk P w K mg base CX0 4 f fd ["_law_hand_here", "_law_here"] p_moved := by
  refine ok0 F sc_l_moved (fun _ _ _ _ h => by obtain ⟨a, l, x, y, z, rfl, _⟩ := h; rfl) fun cdv A outer s H vs Q E hr h => ?_
  obtain ⟨a, c, d, ns, h0, rfl, hh, hd, nd, n24, n1, am0, q⟩ := h
  have hu := hu_of hr
  refine ⟨_, (pss_cons (ps_asg (g := gTup K 2 (gCons (gName 2) (gCons (gName 3) gNil))) (pe_tup (pa_cons (pe_callTy call_dictD (by rfl) T.dict bt_dict (pa_cons (pv 1) pa_nil)) (pa_cons (pe_callB (call_sortedD rfl) (by rfl) T.sorted bt_sorted (pa_cons (pv 1) pa_nil)) pa_nil))) (pg_tup rfl (pgs_cons (pg_name (i := 2) sc_l_moved.nd rfl (Or.inr rfl)) (pgs_cons (pg_name (i := 3) sc_l_moved.nd rfl (Or.inl rfl)) pgs_nil))))
    (pss_cons (ps_for PassesOwn.never rfl (pi_range1 (by rfl) T.range (pa_cons (pe_op op_add pe_int (pe_df d_l_draw hr (pa_cons (pv 0) (pa_cons pe_int pa_nil)))) pa_nil)) (pg_name (i := 4) sc_l_moved.nd rfl (Or.inl rfl))
      (pss_cons (ps_setLc (i := 5) (own := [("_law_name", 9)]) (g := gName 9) rfl sc_l_moved.nd rfl rfl (sw_true rfl rfl rfl (by decide +kernel)) (pi_list (pv 3)) (blkOk_by (own := [("_law_name", 9)]) (N := N_l_moved) (sc := defScope s_l_moved) (by decide +kernel)) (fun _ _ _ _ _ => (pg_name (i := 9) sc_l_moved.nd rfl (Or.inl rfl))) (fun _ _ _ _ _ => pts_one (pt_cmpR op_gt (pe_dget hu (pv 2) (pv 9) (fun _ _ => rfl)) pe_int (nomark _))) (fun _ _ _ _ _ => (pv 9)))
      (pss_one (ps_if (pt_cmpR (op_ne_nil hr.units) (pv 5) (pe_lst pa_nil) (nomark _))
        (pss_cons (ps_par (i := 6) (j := 7) (by rfl) sc_l_moved.nd rfl rfl (by decide) rfl rfl (pa_cons (pe_ix ix_list (pv 5) (pe_df d_l_draw hr (pa_cons (pv 0) (pa_cons (pe_callB call_len_seq (by rfl) T.len bt_len (pa_cons (pv 5) pa_nil)) pa_nil))) (fun _ _ => rfl)) (pa_cons (pe_ix ix_list (pv 3) (pe_df d_l_draw hr (pa_cons (pv 0) (pa_cons (pe_callB call_len_seq (by rfl) T.len bt_len (pa_cons (pv 3) pa_nil)) pa_nil))) (fun _ _ => rfl)) pa_nil)) (by rfl))
        (pss_cons (ps_set (i := 8) sc_l_moved.nd rfl (Or.inl rfl) (pe_ix ix_list (pe_lst (pa_cons pe_int (pa_cons (pe_dget hu (pv 2) (pv 6) (fun _ _ => rfl)) (pa_cons (pe_op op_add pe_int (pe_df d_l_draw hr (pa_cons (pv 0) (pa_cons (pe_dget hu (pv 2) (pv 6) (fun _ _ => rfl)) pa_nil)))) pa_nil)))) (pe_df d_l_draw hr (pa_cons (pv 0) (pa_cons pe_int pa_nil))) (fun _ _ => rfl)))
        (pss_cons (ps_set (i := 8) sc_l_moved.nd rfl (Or.inl rfl) (pe_callB (call_min2 rfl) (by rfl) T.min bt_min (pa_cons (pv 8) (pa_cons (pe_op op_sub (pe_op op_pow pe_int pe_int) (pe_op op_mul (pe_dget hu (pv 2) (pv 7) (fun _ _ => rfl)) (pe_callTy call_int1 (by rfl) T.int bt_int (pa_cons (pe_cmpR op_ne (pv 6) (pv 7) (nomark _)) pa_nil)))) pa_nil))))
        (pss_cons (ps_dput hu (pv 2) (pv 6) (pe_op op_sub (pe_dget hu (pv 2) (pv 6) (fun _ _ => rfl)) (pv 8)) rfl)
        (pss_one (ps_dput hu (pv 2) (pv 7) (pe_op op_add (pe_dget hu (pv 2) (pv 7) (fun _ _ => rfl)) (pv 8)) rfl))))))
        pss_nil))))
    (pss_one (ps_ret (pv 2))))), ?_⟩
  refine ⟨.ref d, rfl, d, _, rfl, .inl hd, fun fo nfo => ?_⟩
  have hfo : upd H fo (dI ns h0) fo = some (dI ns h0) := upd_same
  have k1 : Kp [a] H (upd H fo (dI ns h0)) := Kp.new Kp.refl nfo
  have hh1 : HandAt (upd H fo (dI ns h0)) a c := hh.new nfo
  refine ⟨.ref d, rfl, d, _, ns, rfl, .inl (new_get nfo hd), keys_mk, mkT_nd n24, fun zs pz pmz soz npz => ⟨two_sz, fun tp ntp => ?_⟩⟩
  have ndz : zs.Nodup := pmz.nodup_iff.mpr nd
  have hzl : zs.length = ns.length := pmz.length_eq
  refine ⟨tp, _, rfl, SqT.of upd_same, rfl, _, _, rfl, _, _, rfl, rfl, ?_⟩
  have k3 : Kp [a] H (upd (upd (upd H fo (dI ns h0)) pz (.lst (zs.map V.str))) tp (.tup [.ref fo, .ref pz])) := Kp.new (Kp.new k1 npz) ntp
  have hh3 : HandAt (upd (upd (upd H fo (dI ns h0)) pz (.lst (zs.map V.str))) tp (.tup [.ref fo, .ref pz])) a c := (hh1.new npz).new ntp
  have hpz3 : upd (upd (upd H fo (dI ns h0)) pz (.lst (zs.map V.str))) tp (.tup [.ref fo, .ref pz]) pz = some (.lst (zs.map V.str)) := new_get ntp upd_same
  have hfo3 : upd (upd (upd H fo (dI ns h0)) pz (.lst (zs.map V.str))) tp (.tup [.ref fo, .ref pz]) fo = some (dI ns h0) := new_get ntp (new_get npz hfo)
  refine ⟨.ref a, rfl, a, c, 3, rfl, hh3, by decide, by decide, fun H4 r4 k4 hh4 r40 r41 => ⟨1, r4, rfl, rfl, 1 + r4, rfl, by omega, by omega, ?_⟩⟩
  refine for_it walk_range (fun i σ H' => (∃ x4 x5 x6 x7 x8 x9, σ = [some (.ref a), some (.ref d), some (.ref fo), some (.ref pz), x4, x5, x6, x7, x8, x9]) ∧ Kp [a] H H' ∧ HandAt H' a c ∧ H' pz = some (.lst (zs.map V.str)) ∧ ∃ h, H' fo = some (dI ns h) ∧ AmOk ns h ∧ su ns h = su ns h0) ?_ ?_ ?_ ?_
  · exact ⟨⟨_, _, _, _, _, _, rfl⟩, Kp.trans k3 k4, hh4, hh3.strs k4 hpz3, h0, hh3.dict k4 hfo3, am0, rfl⟩
  · rintro i σ H5 _ _
    trivial
  · clear k1 hh1 k3 hh3 hpz3 hfo3 k4 hh4 hfo
    rintro i v σ H5 H6 hi ⟨⟨x4, x5, x6, x7, x8, x9, rfl⟩, k5, hh5, hpz5, h, hfo5, am, hsu⟩ ⟨rfl, rfl⟩
    refine ⟨.ref pz, rfl, pz, rfl, ⟨_, SqL.of hpz5⟩, fun D nD => ?_⟩
    refine lc_it (walk_list (xs := zs.map V.str)) (fun j H' => Same H6 H' ∧ H' D = some (.lst (((zs.take j).filter fun x => decide (0 < h x)).map V.str))) ?_ ?_ ?_ ?_
    · exact ⟨Same.new Same.rfl nD, upd_same⟩
    · rintro j HA _ ⟨k, _⟩
      exact SqL.of (k _ _ hpz5)
    · rintro j v HA HB hj ⟨k, hD⟩ ⟨rfl, hv⟩
      obtain ⟨x, hx, rfl⟩ := map_str_get hv
      refine ⟨rfl, .ref fo, rfl, .str x, rfl, fo, _, rfl, dN_get (k _ _ hfo5) (pmz.mem_iff.mp (List.mem_of_getElem? hx)), h x, 0, rfl, rfl, ?_⟩
      by_cases hp : 0 < h x
      · refine ⟨true, bl_t hp, .str x, rfl, _, hD, ?_, Same.wrN k nD, ?_⟩
        · rw [List.length_map]
          have e1 := List.length_filter_le (fun x => decide (0 < h x)) (zs.take j)
          have e2 := List.length_take_le' j zs
          exact lt_sz (by omega)
        · rw [upd_same, take_snoc hx, List.filter_append, List.filter_cons_of_pos (p := fun x => decide (0 < h x)) (decide_eq_true hp), List.map_append]; rfl
      · refine ⟨false, bl_f hp, k, ?_⟩
        rw [take_snoc hx, List.filter_append, List.filter_cons_of_neg (p := fun x => decide (0 < h x)) (by simpa using hp)]
        simpa using hD
    rintro HA ⟨kA, hDA⟩
    rw [List.take_of_length_le (by rw [List.length_map]; exact Nat.le_refl _)] at hDA
    have hAl : ∀ x, x ∈ zs.filter (fun x => decide (0 < h x)) → x ∈ ns ∧ 0 < h x := fun x hx => by
      obtain ⟨e1, e2⟩ := List.mem_filter.mp hx
      exact ⟨pmz.mem_iff.mp e1, of_decide_eq_true e2⟩
    have hA1 := List.length_filter_le (fun x => decide (0 < h x)) zs
    generalize zs.filter (fun x => decide (0 < h x)) = al at hDA hAl hA1
    have kk : Kp [a] H HA := Kp.trans k5 (Same.kp kA)
    have hhA := hh5.same kA
    have hpzA := kA _ _ hpz5
    have hfoA := kA _ _ hfo5
    refine ⟨.ref D, rfl, Nat.zero_le _, fun z nz => ?_⟩
    have kz : Kp [a] H (upd HA z (.lst [])) := Kp.new kk nz
    have hhz := hhA.new (o := .lst []) nz
    have hpzz := new_get (u := .lst []) nz hpzA
    have hfoz := new_get (u := .lst []) nz hfoA
    have hDz := new_get (u := .lst []) nz hDA
    refine ⟨D, z, _, rfl, rfl, SqL.of hDz, SqL.of upd_same, strs_dats, ?_⟩
    generalize upd HA z (.lst []) = HZ at kz hhz hpzz hfoz hDz ⊢
    cases al with
    | nil => exact ⟨false, rfl, ⟨_, _, _, _, _, _, rfl⟩, kz, hhz, hpzz, h, hfoz, am, hsu⟩
    | cons a0 al0 =>
      refine ⟨true, rfl, ?_⟩
      refine ⟨.ref D, rfl, .ref a, rfl, .ref D, rfl, D, _, rfl, .inl (SqL.of hDz), a, c, _, rfl, hhz, by rw [List.length_map, List.length_cons]; omega, ?_, fun HC rC kC hhC rC0 rC1 => ?_⟩
      · exact Int.le_trans (show ((((a0 :: al0).map V.str).length : Nat) : Int) ≤ 24 by rw [List.length_map]; omega) (by decide)
      obtain ⟨vx, hvx⟩ := get_ex (l := (a0 :: al0).map V.str) rC0 rC1
      obtain ⟨x, hx, rfl⟩ := map_str_get hvx
      obtain ⟨hxn, hxp⟩ := hAl x (List.mem_of_getElem? hx)
      obtain ⟨mC, rfl⟩ : ∃ m : Nat, rC = m := ⟨rC.toNat, by omega⟩
      have hpzC := hhz.strs kC hpzz
      have hfoC := hhz.dict kC hfoz
      refine ⟨D, _, mC, .str x, rfl, rfl, SqL.of (hhz.strs kC hDz), atI_nat hvx, ?_⟩
      refine ⟨.ref pz, rfl, .ref a, rfl, .ref pz, rfl, pz, _, rfl, .inl (SqL.of hpzC), a, c, _, rfl, hhC, by rw [List.length_map]; omega, ?_, fun HE rE kE hhE rE0 rE1 => ?_⟩
      · exact Int.le_trans (show (((zs.map V.str).length : Nat) : Int) ≤ 24 by rw [List.length_map]; omega) (by decide)
      obtain ⟨vy, hvy⟩ := get_ex (l := zs.map V.str) rE0 rE1
      obtain ⟨y, hy, rfl⟩ := map_str_get hvy
      have hyn := pmz.mem_iff.mp (List.mem_of_getElem? hy)
      obtain ⟨mE, rfl⟩ : ∃ m : Nat, rE = m := ⟨rE.toNat, by omega⟩
      have hpzE := hhC.strs kE hpzC
      have hfoE := hhC.dict kE hfoC
      have kkE := Kp.trans kz (Kp.trans kC kE)
      refine ⟨pz, _, mE, .str y, rfl, rfl, SqL.of hpzE, atI_nat hvy, _, _, rfl, ?_⟩
      have hx30 := (am x hxn).2
      have hy30 := (am y hyn).2
      have hy0 := (am y hyn).1
      refine ⟨.ref fo, rfl, .str x, rfl, fo, _, rfl, dN_get hfoE hxn, .ref a, rfl, .ref fo, rfl, .str x, rfl, fo, _, rfl, dN_get hfoE hxn, a, c, h x, rfl, hhE, by omega, hx30, fun HG rG kG hhG rG0 rG1 => ⟨1, rG, rfl, rfl, by show 3 ≤ sizeLine; decide, fun l3 nl3 => ?_⟩⟩
      have hh7 := hhG.new (o := .lst [.int 1, .int (h x), .int (1 + rG)]) nl3
      have hl3 : upd HG l3 (.lst [.int 1, .int (h x), .int (1 + rG)]) l3 = some (.lst [.int 1, .int (h x), .int (1 + rG)]) := upd_same
      have kk7 : Kp [a] H (upd HG l3 (.lst [.int 1, .int (h x), .int (1 + rG)])) := Kp.new (Kp.trans kkE kG) nl3
      have hpz7 := new_get (u := .lst [.int 1, .int (h x), .int (1 + rG)]) nl3 (hhE.strs kG hpzE)
      have hfo7 := new_get (u := .lst [.int 1, .int (h x), .int (1 + rG)]) nl3 (hhE.dict kG hfoE)
      have nl3a : l3 ∉ [a] := fun m => (hhG.away nl3).1 (List.mem_singleton.mp m)
      refine ⟨.ref a, rfl, a, c, 3, rfl, hh7, by decide, by decide, fun H8 r8 k8 hh8 r80 r81 => ?_⟩
      obtain ⟨m, hm, hm1, hm2⟩ : ∃ m : Int, atI [V.int 1, V.int (h x), V.int (1 + rG)] r8 = some (.int m) ∧ 1 ≤ m ∧ m ≤ h x := by
        have : r8 = 0 ∨ r8 = 1 ∨ r8 = 2 := by omega
        rcases this with rfl | rfl | rfl
        · exact ⟨1, rfl, Int.le_refl _, by omega⟩
        · exact ⟨h x, rfl, by omega, Int.le_refl _⟩
        · exact ⟨1 + rG, rfl, by omega, by omega⟩
      refine ⟨l3, _, r8, .int m, rfl, rfl, SqL.of (k8 _ _ hl3 nl3a), hm, ?_⟩
      have kk8 := Kp.trans kk7 k8
      have hpz8 := hh7.strs k8 hpz7
      have hfo8 := hh7.dict k8 hfo7
      obtain ⟨j, hj, hjs⟩ : ∃ j : Int, (if (!decide (V.str x = V.str y)) = true then (1 : Int) else 0) = j ∧ ((x = y ∧ j = 0) ∨ (x ≠ y ∧ j = 1)) := by
        by_cases e : x = y
        · exact ⟨0, by rw [decide_eq_true (congrArg V.str e)]; rfl, .inl ⟨e, rfl⟩⟩
        · exact ⟨1, by rw [decide_eq_false (fun z => e (V.str.inj z))]; rfl, .inr ⟨e, rfl⟩⟩
      refine ⟨.int m, rfl, 10, 30, rfl, rfl, ⟨by decide, by decide, by decide⟩, .ref fo, rfl, .str y, rfl, fo, _, rfl, dN_get hfo8 hyn, .str x, rfl, .str y, rfl, rfl, .inr ⟨_, rfl, h y, _, rfl, rfl, .inr ?_, _, _, rfl, rfl, m, _, rfl, ?_⟩⟩
      · split <;> decide
      have e30 : ((10 : Int) ^ (30 : Int).toNat) = 10 ^ 30 := rfl
      rw [e30, hj]
      obtain ⟨m', hm', b1, b2, b3⟩ : ∃ m' : Int, (if 10 ^ 30 - h y * j < m then 10 ^ 30 - h y * j else m) = m' ∧ 0 ≤ m' ∧ m' ≤ h x ∧ (x ≠ y → h y + m' ≤ 10 ^ 30) := by
        rcases hjs with ⟨e, rfl⟩ | ⟨e, rfl⟩
        · rw [Int.mul_zero]
          exact ⟨_, rfl, by split <;> omega, by split <;> omega, fun z => absurd e z⟩
        · rw [Int.mul_one]
          exact ⟨_, rfl, by split <;> omega, by split <;> omega, fun _ => by split <;> omega⟩
      rw [hm']
      have nfo8 : H fo = none := nfo
      refine ⟨.ref fo, rfl, .str x, rfl, fo, _, rfl, dN_get hfo8 hxn, .int m', rfl, h x, m', rfl, rfl, .ref fo, rfl, .str x, rfl, fo, _, rfl, dI_put (n := h x - m') hfo8 hxn (lt_sz (by omega)), ?_⟩
      have hfo9 : upd H8 fo (dI ns (up h x (h x - m'))) fo = some (dI ns (up h x (h x - m'))) := upd_same
      have npf : pz ≠ fo := fun e => by rw [e, hfo8] at hpz8; cases hpz8
      refine ⟨.ref fo, rfl, .str y, rfl, fo, _, rfl, dN_get hfo9 hyn, .int m', rfl, _, m', rfl, rfl, .ref fo, rfl, .str y, rfl, fo, _, rfl, dI_put (n := up h x (h x - m') y + m') hfo9 hyn (lt_sz (by omega)), ⟨_, _, _, _, _, _, rfl⟩, Kp.wrN (Kp.wrN kk8 nfo) nfo, (hh8.wrN hh nfo).wrN hh nfo, by rw [upd_ne npf, upd_ne npf]; exact hpz8, _, upd_same, fun z hz => ?_, ?_⟩
      · have hz0 := am z hz
        by_cases e1 : z = y
        · rw [e1, up_self]
          by_cases e2 : y = x
          · rw [e2, up_self]
            have := am x hxn
            constructor <;> omega
          · rw [up_ne e2]
            have := b3 (fun e => e2 e.symm)
            constructor <;> omega
        · rw [up_ne e1]
          by_cases e2 : z = x
          · rw [e2, up_self]
            constructor <;> omega
          · rw [up_ne e2]
            exact hz0
      · rw [su_up _ _ nd hyn, su_up _ _ nd hxn]
        omega
  · rintro σ H5 ⟨⟨x4, x5, x6, x7, x8, x9, rfl⟩, k5, hh5, hpz5, h, hfo5, am, hsu⟩
    exact ⟨_, rfl, q _ fo h k5 hh5 hfo5 am hsu⟩
end
end Ep

set_option Elab.async false
set_option linter.all false
set_option maxRecDepth 100000
set_option maxHeartbeats 4000000
/-! ## the law: total_right, poor_right -/
namespace Ep
open PySem PySem.Spec PyProof.Rows L2
theorem not_poor {ns : List Str} {t : Str → Int} {ps : List (Str × Str)} {T : Str × Str → Int} (p : Playable ns t ps T) : ¬ Poor t ps := fun ⟨q, hq, h⟩ => by
  have := p.part q hq
  rcases h with h | h <;> omega
theorem perm_strs {ns ys : List Str} {h : Str → Int} (p : ys.Perm ns) : su ys h = su ns h := su_perm h p
section
variable {P : Program} {w : World} {K : PySem.W.Frag} {mg : Str → Option Value} {base : Heap} {f : Addr} {fd : FuncData}
def p_total_right (K : PySem.W.Frag) : Sp := fun vs H Q _ => ∃ a c pa la hd ns1 t ps T' ns h, vs = [.ref a, .ref pa, .ref la, .ref hd, .int (su ns1 t - su ps T')] ∧ HandAt H a c ∧ PurAt K H pa ns1 t ∧ NamesOk ns1 ∧ LotAt K H la ps T' ∧ LotOk ns1 ps T' ∧ Playable ns1 t ps T' ∧
  H hd = some (dI ns h) ∧ ns.Perm ns1 ∧ 1 ≤ ns.length ∧ AmOk ns h ∧ su ns h = su ns1 t - su ps T' ∧ ∀ H', Kp [a] H H' → HandAt H' a c → Q (.bl true) H'
abbrev s_l_total_right : Stmt := top 72
abbrev N_l_total_right : List Str := ["_law_hand_here", "_law_purses_here", "_law_lot_here", "_law_here", "_law_number", "_law_other", "_law_name"]
theorem sc_l_total_right : FnScope N_l_total_right ["_law_hand_here", "_law_purses_here", "_law_lot_here", "_law_here", "_law_number"] (defScope s_l_total_right) := ⟨rfl, rfl, rfl, by decide +kernel, rfl, by decide +kernel, by decide +kernel⟩
theorem ok_l_total_right (F : FnP K "_law_total_right" "_law_total_right" s_l_total_right f fd) (T : Txt K mg) (d_l_draw : Df P w K mg base CX0 3 "_law_draw" ["_law_hand_here", "_law_tally"] p_draw) (d_l_purses : Df P w K mg base CX0 5 "_law_purses" ["_law_hand_here", "_law_tickets"] (p_lpurses K))
    (d_leave : Df P w K mg base (L2.CX P w) 11 "leave" ["purses", "lot", "left"] (p_leave K)) : FnOk P w K mg base CX0 12 f fd ["_law_hand_here", "_law_purses_here", "_law_lot_here", "_law_here", "_law_number"] (p_total_right K) := by
  refine ok0 F sc_l_total_right (fun _ _ _ _ h => by obtain ⟨a, l, x, y, z, u, v, v2, v3, v4, v5, rfl, _⟩ := h; rfl) fun cdv A outer s H vs Q E hr h => ?_
  obtain ⟨a, c, pa, la, hd, ns1, t, ps, T', ns, h, rfl, hh, hpur, nok1, hlot, lok, play, hhd, pm, n1, am, hsum, q⟩ := h
  have hu := hu_of hr
  have nok : NamesOk ns := nok1.perm pm
  have n24 := nok.len
  refine ⟨_, (pss_cons (ps_par (i := 5) (j := 6) (by rfl) sc_l_total_right.nd rfl rfl (by decide) rfl rfl (pa_cons (pe_callTy call_dictD (by rfl) T.dict bt_dict (pa_cons (pv 3) pa_nil)) (pa_cons (pe_ix ix_list (pe_callB (call_sortedD rfl) (by rfl) T.sorted bt_sorted (pa_cons (pv 3) pa_nil)) (pe_df d_l_draw hr (pa_cons (pv 0) (pa_cons (pe_callB call_lenD (by rfl) T.len bt_len (pa_cons (pv 3) pa_nil)) pa_nil))) (fun _ _ => rfl)) pa_nil)) (by rfl))
    (pss_cons (ps_dput hu (pv 5) (pv 6) (pe_op op_add (pe_dget hu (pv 5) (pv 6) (fun _ _ => rfl)) (pe_ix ix_list (pe_lst (pa_cons pe_int (pa_cons (pe_un un_neg pe_int) pa_nil))) (pe_callTy call_int1 (by rfl) T.int bt_int (pa_cons (pe_mid (fun σ H0 v H' => ∃ k : Bool, v = .bl k ∧ Kp [a] H0 H' ∧ HandAt H' a c ∧ ∀ x, σ[6]? = some (some (V.str x)) → (k = true → 0 < h x) ∧ (k = false → h x < 10 ^ 30)) (pe_and (pe_cmpR op_gt (pe_dget hu (pv 5) (pv 6) (fun _ _ => rfl)) pe_int (nomark _)) (pe_one (pe_or (pe_cmpR op_eq (pe_dget hu (pv 5) (pv 6) (fun _ _ => rfl)) (pe_op op_pow pe_int pe_int) (nomark _)) (pe_one (pe_cmpR op_eq (pe_df d_l_draw hr (pa_cons (pv 0) (pa_cons pe_int pa_nil))) pe_int (nomark _))))))) pa_nil)) (fun _ _ => rfl))) rfl)
    (pss_one (ps_ret (pe_cmpR (op_eqP hr.units) (pe_dfL d_leave hr (pa_cons (pv 1) (pa_cons (pv 2) (pa_cons (pe_df d_l_purses hr (pa_cons (pv 0) (pa_cons (pv 5) pa_nil))) pa_nil)))) (pe_tup (pa_cons pe_str (pa_cons (pv 4) pa_nil))) (nomark _)))))), ?_⟩
  refine ⟨.ref hd, rfl, hd, _, rfl, .inl hhd, fun od nod => ?_⟩
  have hod1 : upd H od (dI ns h) od = some (dI ns h) := upd_same
  have hhd1 := new_get (u := dI ns h) nod hhd
  have hh1 := hh.new (o := dI ns h) nod
  have k1 : Kp [a] H (upd H od (dI ns h)) := Kp.new Kp.refl nod
  refine ⟨.ref hd, rfl, hd, _, ns, rfl, .inl hhd1, keys_mk, mkT_nd n24, fun zs pz pmz soz npz => ?_⟩
  have hzl : zs.length = ns.length := pmz.length_eq
  have hh2 := hh1.new (o := .lst (zs.map V.str)) npz
  have k2 := Kp.new (o := .lst (zs.map V.str)) k1 npz
  have hpz : upd (upd H od (dI ns h)) pz (.lst (zs.map V.str)) pz = some (.lst (zs.map V.str)) := upd_same
  have hod2 := new_get (u := .lst (zs.map V.str)) npz hod1
  refine ⟨.ref a, rfl, .ref hd, rfl, hd, _, rfl, new_get npz hhd1, a, c, _, rfl, hh2, by rw [length_mkT]; omega, ?_, fun H3 r k3 hh3 r0 r1 => ?_⟩
  · rw [length_mkT]
    exact Int.le_trans (show ((ns.length : Nat) : Int) ≤ 24 by omega) (by decide)
  rw [length_mkT] at r1
  obtain ⟨x, hx⟩ := get_ex (l := zs) r0 (by omega)
  have hxn : x ∈ ns := pmz.mem_iff.mp (List.mem_of_getElem? hx)
  obtain ⟨mr, rfl⟩ : ∃ m : Nat, r = m := ⟨r.toNat, by omega⟩
  have hod3 := hh2.dict k3 hod2
  have kk3 := Kp.trans k2 k3
  refine ⟨pz, _, mr, .str x, rfl, rfl, SqL.of (hh2.strs k3 hpz), atI_nat (str_get hx), _, _, rfl, ?_⟩
  obtain ⟨hx0, hx30⟩ := am x hxn
  refine ⟨.ref od, rfl, .str x, rfl, od, _, rfl, dN_get hod3 hxn, 1, rfl, two_sz, fun ll nll => ?_⟩
  have hll : upd H3 ll (.lst [.int 1, .int (-1)]) ll = some (.lst [.int 1, .int (-1)]) := upd_same
  have hh4 := hh3.new (o := .lst [.int 1, .int (-1)]) nll
  have hod4 := new_get (u := .lst [.int 1, .int (-1)]) nll hod3
  have k4 := Kp.new (o := .lst [.int 1, .int (-1)]) kk3 nll
  generalize upd H3 ll (.lst [.int 1, .int (-1)]) = H4 at hll hh4 hod4 k4 ⊢
  have nlla : ll ∉ [a] := fun m => by
    obtain ⟨n, h2, h3, h4, h5, zs, e, _⟩ := hh4
    rw [List.mem_singleton.mp m, e] at hll
    cases hll
  have inj6 : ∀ {z}, (some (some (V.str x)) : Option (Option V)) = some (some (V.str z)) → z = x := fun {z} e => (V.str.inj (Option.some.inj (Option.some.inj e))).symm
  refine ⟨?_, ?_⟩
  · by_cases hp : 0 < h x
    · refine ⟨.ref od, rfl, .str x, rfl, od, _, rfl, dN_get hod4 hxn, h x, 0, rfl, rfl, true, bl_t hp, ?_⟩
      refine ⟨.ref od, rfl, .str x, rfl, od, _, rfl, dN_get hod4 hxn, 10, 30, rfl, rfl, ⟨by decide, by decide, by decide⟩, rfl, ?_⟩
      by_cases he : h x = 10 ^ 30
      · refine ⟨true, bl_t (show V.int (h x) = V.int (10 ^ 30) by rw [he]), ?_⟩
        refine ⟨true, rfl, Kp.refl, hh4, fun z hz => ?_⟩
        rw [inj6 hz]
        exact ⟨fun _ => hp, fun e => absurd e (by decide)⟩
      · refine ⟨false, bl_f (fun e => he (V.int.inj e)), ?_⟩
        refine ⟨.ref a, rfl, a, c, 2, rfl, hh4, by decide, by decide, fun H5 r5 k5 hh5 r50 r51 => ⟨rfl, _, rfl, k5, hh5, fun z hz => ?_⟩⟩
        rw [inj6 hz]
        exact ⟨fun _ => hp, fun _ => by omega⟩
    · refine ⟨.ref od, rfl, .str x, rfl, od, _, rfl, dN_get hod4 hxn, h x, 0, rfl, rfl, false, bl_f hp, ?_⟩
      refine ⟨false, rfl, Kp.refl, hh4, fun z hz => ?_⟩
      rw [inj6 hz]
      have h30 : (0 : Int) < 10 ^ 30 := by decide
      exact ⟨fun e => absurd e (by decide), fun _ => by omega⟩
  rintro v H5 ⟨k, rfl, k5, hh5, hk⟩
  obtain ⟨hk1, hk2⟩ := hk x rfl
  have hod5 := hh4.dict k5 hod4
  have hll5 := k5 _ _ hll nlla
  have kk5 := Kp.trans k4 k5
  obtain ⟨dl, hdl, hdl2, hdl3⟩ : ∃ dl : Int, atI [V.int 1, V.int (-1)] (if k = true then 1 else 0) = some (.int dl) ∧ dl ≠ 0 ∧ 0 ≤ h x + dl ∧ h x + dl ≤ 10 ^ 30 := by
    cases k with
    | true => exact ⟨-1, rfl, by decide, by have := hk1 rfl; constructor <;> omega⟩
    | false => exact ⟨1, rfl, by decide, by have := hk2 rfl; constructor <;> omega⟩
  refine .inr ⟨k, rfl, ll, _, _, .int dl, rfl, rfl, SqL.of hll5, hdl, h x, dl, rfl, rfl, .ref od, rfl, .str x, rfl, od, _, rfl, dI_put (n := h x + dl) hod5 hxn (lt_sz (by omega)), ?_⟩
  have k6 := Kp.wrN (o := dI ns (up h x (h x + dl))) kk5 nod
  have hh6 := hh5.wrN (o := dI ns (up h x (h x + dl))) hh nod
  have hod6 : upd H5 od (dI ns (up h x (h x + dl))) od = some (dI ns (up h x (h x + dl))) := upd_same
  generalize upd H5 od (dI ns (up h x (h x + dl))) = H6 at k6 hh6 hod6 ⊢
  refine ⟨.ref pa, rfl, .ref la, rfl, .ref a, rfl, .ref od, rfl, a, c, od, ns, _, rfl, hh6, hod6, nok, fun y hy => ?_, fun H7 b ys k7 hh7 pmy nb hpb => ?_⟩
  · by_cases e : y = x
    · rw [e, up_self]; exact hdl3
    · rw [up_ne e]; exact am y hy
  have kk7 := Kp.trans k6 k7
  refine ⟨pa, la, b, ns1, t, ps, T', ys, up h x (h x + dl), rfl, hh.purse kk7 hpur, nok1, hh.lot kk7 hlot, lok, hpb, pmy.trans pm, .inl play, fun po => absurd po (not_poor play), fun _ _ H8 p k8 hp => ?_, fun _ e => ?_, fun _ e => ?_⟩
  · refine ⟨.int (su ns1 t - su ps T'), rfl, two_sz, fun p2 np2 => ?_⟩
    have d1 : Dat K (upd H8 p2 (.tup [.str "total", .int (su ns1 t - su ps T')])) (.ref p) (.tuple [.str "total", .int (su ns1 t - su ps T')]) := ⟨.tup (SqT.of (new_get np2 hp)) (.cons (.str _) (.cons (.int _) .nil)), rfl, by show 1 ≤ 8; decide⟩
    have d2 : Dat K (upd H8 p2 (.tup [.str "total", .int (su ns1 t - su ps T')])) (.ref p2) (.tuple [.str "total", .int (su ns1 t - su ps T')]) := ⟨.tup (SqT.of upd_same) (.cons (.str _) (.cons (.int _) .nil)), rfl, by show 1 ≤ 8; decide⟩
    refine ⟨_, _, d1, d2, ?_⟩
    rw [PySem.SeqAt.eqv_refl_plain _ d2.2.1]
    exact q _ (Kp.trans kk7 (Same.kp (Same.new k8 np2))) ((hh7.same k8).new np2)
  all_goals
    exfalso
    have e1 : su ns1 (up h x (h x + dl)) = su ns (up h x (h x + dl)) := (su_perm _ pm).symm
    rw [e1, su_up _ _ nok.nd hxn, hsum] at e
    omega
def p_poor_right (K : PySem.W.Frag) : Sp := fun vs H Q _ => ∃ a c td la hd ns t ps T' ns' h, vs = [.ref a, .ref td, .ref la, .ref hd] ∧ HandAt H a c ∧ H td = some (dI ns t) ∧ NamesOk ns ∧ AmOk ns t ∧ LotAt K H la ps T' ∧ LotOk ns ps T' ∧ H hd = some (dI ns' h) ∧ ns'.Perm ns ∧ AmOk ns' h ∧
  ∀ H', Kp [a] H H' → HandAt H' a c → Q (.bl true) H'
abbrev s_l_poor_right : Stmt := top 73
abbrev N_l_poor_right : List Str := ["_law_hand_here", "_law_tickets", "_law_lot_here", "_law_here", "_law_players", "_law_poorer"]
theorem sc_l_poor_right : FnScope N_l_poor_right ["_law_hand_here", "_law_tickets", "_law_lot_here", "_law_here"] (defScope s_l_poor_right) := ⟨rfl, rfl, rfl, by decide +kernel, rfl, by decide +kernel, by decide +kernel⟩
theorem ok_l_poor_right (F : FnP K "_law_poor_right" "_law_poor_right" s_l_poor_right f fd) (T : Txt K mg) (d_l_draw : Df P w K mg base CX0 3 "_law_draw" ["_law_hand_here", "_law_tally"] p_draw) (d_l_purses : Df P w K mg base CX0 5 "_law_purses" ["_law_hand_here", "_law_tickets"] (p_lpurses K))
    (d_leave : Df P w K mg base (L2.CX P w) 11 "leave" ["purses", "lot", "left"] (p_leave K)) (d_Lot_players : Dm P w K mg base 1 (cL K) "players" ["self"] (p_Lot_players K)) : FnOk P w K mg base CX0 12 f fd ["_law_hand_here", "_law_tickets", "_law_lot_here", "_law_here"] (p_poor_right K) := by
  refine ok0 F sc_l_poor_right (fun _ _ _ _ h => by obtain ⟨a, l, x, y, z, u, v, v2, v3, v4, v5, rfl, _⟩ := h; rfl) fun cdv A outer s H vs Q E hr h => ?_
  obtain ⟨a, c, td, la, hd, ns, t, ps, T', ns', h, rfl, hh, htd, nok, amt, hlot, lok, hhd, pm, amh, q⟩ := h
  have hu := hu_of hr
  obtain ⟨fl, fdl, Fl, hml, hkl, hbl⟩ := d_leave
  refine ⟨_, (pss_cons (ps_set (i := 4) sc_l_poor_right.nd rfl (Or.inl rfl) (pe_dm0 d_Lot_players hr (pv 2)))
    (pss_cons (ps_if (pt_cmpR (op_eq_nil hr.units) (pv 4) (pe_lst pa_nil) (nomark _))
      (pss_one (ps_ret pe_bl))
      pss_nil)
    (pss_cons (ps_set (i := 5) sc_l_poor_right.nd rfl (Or.inl rfl) (pe_callTy call_dictD (by rfl) T.dict bt_dict (pa_cons (pv 1) pa_nil)))
    (pss_cons (ps_dput hu (pv 5) (pe_ix ix_list (pv 4) (pe_df d_l_draw hr (pa_cons (pv 0) (pa_cons (pe_callB call_len_seq (by rfl) T.len bt_len (pa_cons (pv 4) pa_nil)) pa_nil))) (fun _ _ => rfl)) pe_int rfl)
    (pss_cons (ps_try_only (tb := fun W => tDrop (tCallS (p_leave K) (L2.WE W) (tCons (tCl (p_lpurses K) E0 (tCons (tVar 0) (tCons (tVar 5) tNil))) (tCons (tVar 2) (tCons (tCl (p_lpurses K) E0 (tCons (tVar 0) (tCons (tVar 3) tNil))) tNil))))) (ts := fun _ _ _ => tRet (tC (.bl true))) (Wout := fun _ _ _ _ => False) rfl rfl ⟨rfl, by decide, Or.inl T.mgU⟩ takes0
      (fun W pn xe tk _ => pss_one (ps_expr (pe_callS Fl hr (by rfl) hml hkl hbl (fun σ => passAt tk σ) (by exact (pa_cons (pe_df d_l_purses hr (pa_cons (pv 0) (pa_cons (pv 5) pa_nil))) (pa_cons (pv 2) (pa_cons (pe_df d_l_purses hr (pa_cons (pv 0) (pa_cons (pv 3) pa_nil))) pa_nil)))))))
      (fun _ _ _ _ _ _ _ => pss_one (ps_ret pe_bl)))
    (pss_one (ps_ret pe_bl))))))), ?_⟩
  have ⟨dx, dt, hla1, hla2⟩ := hlot
  refine ⟨.ref la, rfl, la, dx, _, rfl, hla1, rfl, la, ps, T', rfl, hlot, lok.len, fun H1 pl ys k1 hys hyl npl hpl => ?_⟩
  refine ⟨.ref pl, rfl, Nat.zero_le _, fun z nz => ?_⟩
  have hh1 := hh.same k1
  have hpl2 := new_get (u := .lst []) nz hpl
  have k2 : Kp [a] H (upd H1 z (.lst [])) := Kp.new (Same.kp k1) nz
  have hh2 := hh1.new (o := .lst []) nz
  refine ⟨pl, z, _, rfl, rfl, SqL.of hpl2, SqL.of upd_same, strs_dats, ?_⟩
  generalize upd H1 z (.lst []) = H2 at hpl2 k2 hh2 ⊢
  cases ys with
  | nil => exact ⟨true, rfl, q _ k2 hh2⟩
  | cons y0 ys0 =>
    refine ⟨false, rfl, ?_⟩
    have htd2 := hh.dict k2 htd
    refine ⟨.ref td, rfl, td, _, rfl, .inl htd2, fun pd npd => ?_⟩
    have k3 := Kp.new (o := dI ns t) k2 npd
    have hh3 := hh2.new (o := dI ns t) npd
    have hpd3 : upd H2 pd (dI ns t) pd = some (dI ns t) := upd_same
    have hpl3 := new_get (u := dI ns t) npd hpl2
    have npd0 : H pd = none := hh2.free k2 npd
    refine ⟨.ref pd, rfl, .ref pl, rfl, .ref a, rfl, .ref pl, rfl, pl, _, rfl, .inl (SqL.of hpl3), a, c, _, rfl, hh3, by rw [List.length_map, List.length_cons]; omega, ?_, fun H4 r k4 hh4 r0 r1 => ?_⟩
    · exact Int.le_trans (show ((((y0 :: ys0).map V.str).length : Nat) : Int) ≤ 1000 by rw [List.length_map]; omega) (by decide)
    obtain ⟨vx, hvx⟩ := get_ex (l := (y0 :: ys0).map V.str) r0 r1
    obtain ⟨x, hx, rfl⟩ := map_str_get hvx
    obtain ⟨p0, hp0, hpx⟩ := hys x (List.mem_of_getElem? hx)
    have hxn : x ∈ ns := by
      rcases hpx with e | e <;> rw [e]
      · exact lok.m1 p0 hp0
      · exact lok.m2 p0 hp0
    obtain ⟨mr, rfl⟩ : ∃ m : Nat, r = m := ⟨r.toNat, by omega⟩
    have hpd4 := hh3.dict k4 hpd3
    refine ⟨pl, _, mr, .str x, rfl, rfl, SqL.of (hh3.strs k4 hpl3), atI_nat hvx, pd, _, rfl, dI_put (n := 0) hpd4 hxn (lt_sz (by have := nok.len; omega)), ?_⟩
    have k5 := Kp.wrN (o := dI ns (up t x 0)) (Kp.trans k3 k4) npd0
    have hh5 := hh4.wrN (o := dI ns (up t x 0)) hh npd0
    have hpd5 : upd H4 pd (dI ns (up t x 0)) pd = some (dI ns (up t x 0)) := upd_same
    generalize upd H4 pd (dI ns (up t x 0)) = H5 at k5 hh5 hpd5 ⊢
    have po : Poor (up t x 0) ps := by
      rcases hpx with e | e
      · exact ⟨p0, hp0, .inl (by rw [← e, up_self])⟩
      · exact ⟨p0, hp0, .inr (by rw [← e, up_self])⟩
    refine ⟨.ref a, rfl, .ref pd, rfl, a, c, pd, ns, up t x 0, rfl, hh5, hpd5, nok, fun y hy => ?_, fun H6 b6 ys6 k6 hh6 pm6 nb6 hb6 => ?_⟩
    · by_cases e : y = x
      · rw [e, up_self]; exact ⟨Int.le_refl _, by decide⟩
      · rw [up_ne e]; exact amt y hy
    have kk6 := Kp.trans k5 k6
    refine ⟨.ref la, rfl, .ref a, rfl, .ref hd, rfl, a, c, hd, ns', h, rfl, hh6, hh.dict kk6 hhd, nok.perm pm, amh, fun H7 b7 ys7 k7 hh7 pm7 nb7 hb7 => ?_⟩
    have kk7 := Kp.trans kk6 k7
    have lok6 : LotOk ys6 ps T' := lok.perm pm6
    have np : ¬ Playable ys6 (up t x 0) ps T' := fun p => not_poor p po
    refine ⟨b6, la, b7, ys6, up t x 0, ps, T', ys7, h, rfl, hh6.purse k7 hb6, nok.perm pm6, hh.lot kk7 hlot, lok6, hb7, pm7.trans (pm.trans pm6.symm), .inr po, fun _ H8 k8 => ?_, fun p => absurd p np, fun p => absurd p np, fun p => absurd p np⟩
    refine ⟨true, T.emU, fun _ a8 _ => ?_, fun e => by cases e⟩
    exact q _ (Kp.trans kk7 (Same.kp k8)) (hh7.same k8)
end
end Ep

set_option Elab.async false
set_option linter.all false
set_option maxRecDepth 100000
set_option maxHeartbeats 4000000
/-! ## the law -/
namespace Ep
open PySem PySem.Spec PyProof.Rows L2
section
variable {ns ys : List Str} {t : Str → Int} {rs rs' rp : List Run}
theorem eR_spent {R : List Str} (nd : R.Nodup) (B : Built ns t rs) : eT (tabL rs) (totL rs) (inR R) ≤ su R (spentR rs) := by
  rw [eT_rs B.ne]
  have e : su R (spentR rs) = su rs fun r => if r.1 ∈ R then r.2.2 else 0 := su_swap nd rs (fun r => r.1) fun r => r.2.2
  rw [e]
  refine su_le fun r hr => ?_
  have := B.pos r hr
  by_cases h : r.1 ∈ R
  · rw [if_pos h]
    split
    · exact Int.le_refl _
    · omega
  · rw [if_neg h, if_neg (by unfold inR; rw [decide_eq_false h]; simp)]
    exact Int.le_refl _
theorem su_spent (B : Built ns t rs) : su ns (spentR rs) = su (tabL rs) (totL rs) := by
  have e : su ns (spentR rs) = su rs fun r => if r.1 ∈ ns then r.2.2 else 0 := su_swap B.nm.nd rs (fun r => r.1) fun r => r.2.2
  have e2 := eT_rs (S := fun _ => true) B.ne
  have e3 : eT (tabL rs) (totL rs) (fun _ => true) = su (tabL rs) (totL rs) := su_congr fun _ _ => if_pos rfl
  rw [e, ← e3, e2]
  exact su_congr fun r hr => by rw [if_pos (B.e1 r hr)]; exact (if_pos rfl).symm
/-- what stands while the law asks -/
structure LP (ns ys : List Str) (t : Str → Int) (rs rs' rp : List Run) : Prop where
  B : Built ns t rs
  top : ∀ x ∈ ns, t x ≤ 10 ^ 30 - 1
  tot : ∀ p, totL rs p ≤ 10 ^ 24
  mx : ∀ r ∈ rs, r.2.2 ≤ 10 ^ 24
  pm : ys.Perm ns
  eT : totL rs' = totL rs
  em : ∀ p, p ∈ tabL rs' ↔ p ∈ tabL rs
  pp : rp.Perm (asR rs)
theorem LP.lok (L : LP ns ys t rs rs' rp) : LotOk ys (tabL rs') (totL rs') := (L.B.names L.pm).lot L.tot L.eT L.em
theorem LP.play (L : LP ns ys t rs rs' rp) : Playable ys t (tabL rs') (totL rs') := (L.B.names L.pm).playable L.eT L.em
theorem LP.sp (L : LP ns ys t rs rs' rp) (x : Str) : spentR rp x = spentR rs x := by
  have e : spentR rp x = spentR (asR rs) x := su_perm _ L.pp
  rw [e, spent_asR]
theorem LP.am (L : LP ns ys t rs rs' rp) : AmOk ns t := fun x hx => ⟨L.B.nn x hx, by have := L.top x hx; omega⟩
theorem LP.rp1 (L : LP ns ys t rs rs' rp) {r : Run} (hr : r ∈ rp) : r.1 ∈ ns ∧ 0 ≤ r.2.2 := by
  obtain ⟨⟨r0, h0, e⟩, h⟩ := mem_asR (fun r hr => Int.le_trans (by decide) (L.B.pos r hr)) (L.pp.mem_iff.mp hr)
  refine ⟨?_, h⟩
  have : r0.1 = r.1 := congrArg (fun p : Str × Str => p.1) (show kRn r0 = kRn r from e)
  rw [← this]
  exact L.B.e1 r0 h0
theorem LP.rpl (L : LP ns ys t rs rs' rp) : rp.length ≤ 276 := by
  have e : rp.length = (asR rs).length := L.pp.length_eq
  have e2 : (asR rs).length = (tabK kRn rs).length := List.length_map _
  have := length_tabK (key := kRn) rs
  have := L.B.len
  omega
theorem spent_nn (h : ∀ r ∈ rs, 0 ≤ r.2.2) (x : Str) : 0 ≤ spentR rs x := su_nonneg fun r hr => by
  split
  · exact h r hr
  · exact Int.le_refl _
theorem LP.h0 (L : LP ns ys t rs rs' rp) : AmOk ns fun x => t x - spentR rp x := fun x hx => by
  have h1 := L.B.pay x hx
  have h2 := L.top x hx
  have h3 := spent_nn (rs := rp) (fun r hr => (L.rp1 hr).2) x
  have h4 := L.sp x
  show 0 ≤ t x - spentR rp x ∧ t x - spentR rp x ≤ 10 ^ 30
  constructor <;> omega
theorem LP.n (L : LP ns ys t rs rs' rp) : su ns (fun x => t x - spentR rp x) = su ys t - su (tabL rs') (totL rs') := by
  have e1 : su ns (fun x => t x - spentR rp x) = su ns fun x => t x - spentR rs x := su_congr fun x _ => by rw [L.sp x]
  have e2 : su (tabL rs') (totL rs') = su (tabL rs) (totL rs) := by rw [L.eT, su_perm _ (tab_perm L.em)]
  rw [e1, su_sub, su_spent L.B, e2, su_perm t L.pm]
theorem LP.noSet (L : LP ns ys t rs rs' rp) {h : Str → Int} (hh : ∀ x ∈ ns, h x = t x - spentR rp x) {R : List Str} (nd : R.Nodup) (sub : ∀ x ∈ R, x ∈ ys) : ¬ su R t - su R h < Ep.eT (tabL rs') (totL rs') (inR R) := by
  have e1 : su R h = su R t - su R (spentR rs) := by
    rw [← su_sub]
    exact su_congr fun x hx => by rw [hh x (L.pm.mem_iff.mp (sub x hx)), L.sp x]
  rw [L.eT, eT_perm (tab_perm L.em)]
  have := eR_spent nd L.B
  omega
theorem LP.payOk (L : LP ns ys t rs rs' rp) {h : Str → Int} {qs : List (Str × Str)} {g : Str × Str → Int} (P : Paid (tabL rs') (totL rs') qs g) (asc : qs.Pairwise LtP) (hs : ∀ x ∈ ys, spentQ qs g x = t x - h x) : PayOk ns rs t h (runsL qs g) := by
  have lok := L.lok
  refine ⟨runs_len lok P, fun r hr => ?_, ?_, fun p => (runs_tab lok P p).trans (L.em p), fun p hp => ?_, fun r hr => ?_, fun x hx => ?_⟩
  · obtain ⟨m1, m2, m3⟩ := mem_runs.mp hr
    exact ⟨P.ne lok m1, by rw [m3]; exact m2⟩
  · unfold runsL
    rw [List.map_map]
    have e : (kRn ∘ fun q : Str × Str => ((q.1, q.2, g q) : Run)) = id := rfl
    rw [e, List.map_id]
    exact List.Pairwise.filter _ asc
  · rw [runs_tot lok P ((runs_tab lok P p).mp hp), L.eT]
  · exact L.pm.mem_iff.mp (P.m1 lok (mem_runs.mp hr).1)
  · have := hs x (L.pm.mem_iff.mpr hx)
    rw [spent_runs P.nn]
    omega
theorem LP.setOk (L : LP ns ys t rs rs' rp) {h : Str → Int} {R : List Str} (a : Asc R) (ne : R ≠ []) (sub : ∀ x ∈ R, x ∈ ys) (lt : su R t - su R h < Ep.eT (tabL rs') (totL rs') (inR R)) : SetOk ns rs t h R := by
  refine ⟨a, ne, fun x hx => L.pm.mem_iff.mp (sub x hx), ?_⟩
  rw [L.eT, eT_perm (tab_perm L.em)] at lt
  exact lt
end
structure LF (K : PySem.W.Frag) (H : Hp) (a c d l pl pa la : Addr) (ns ys : List Str) (t : Str → Int) (rs rs' rp : List Run) : Prop where
  hh : HandAt H a c
  d : H d = some (dI ns t)
  l : RunsAt H l rs
  pl : RunsAt H pl rp
  pa : PurAt K H pa ys t
  la : LotAt K H la (tabL rs') (totL rs')
theorem LF.step {K : PySem.W.Frag} {H H' : Hp} {a c d l pl pa la : Addr} {ns ys : List Str} {t : Str → Int} {rs rs' rp : List Run} (f : LF K H a c d l pl pa la ns ys t rs rs' rp) (k : Kp [a] H H') (hh : HandAt H' a c) : LF K H' a c d l pl pa la ns ys t rs rs' rp :=
  ⟨hh, f.hh.dict k f.d, f.hh.runs k f.l, f.hh.runs k f.pl, f.hh.purse k f.pa, f.hh.lot k f.la⟩
theorem LF.same {K : PySem.W.Frag} {H H' : Hp} {a c d l pl pa la : Addr} {ns ys : List Str} {t : Str → Int} {rs rs' rp : List Run} (f : LF K H a c d l pl pa la ns ys t rs rs' rp) (k : Same H H') : LF K H' a c d l pl pa la ns ys t rs rs' rp := f.step (Same.kp k) (f.hh.same k)
section
variable {P : Program} {w : World} {K : PySem.W.Frag} {mg : Str → Option Value} {base : Heap} {f : Addr} {fd : FuncData}
def p_law (K : PySem.W.Frag) : Sp := fun vs H Q _ => ∃ l, ∃ ns : List Int, vs = [.ref l] ∧ SqL K H l (ns.map V.int) ∧ ∀ H', Q (.bl true) H'
abbrev s_law : Stmt := top 74
abbrev N_law : List Str := ["_law_script", "_law_hand_here", "_law_turn", "_law_tickets", "_law_runs", "_law_payments", "_law_purses_here", "_law_lot_here", "_law_spent_here", "_law_here", "_law_number", "_law_k", "_law_name"]
theorem sc_law : FnScope N_law ["_law_script"] (defScope s_law) := ⟨rfl, rfl, rfl, by decide +kernel, rfl, by decide +kernel, by decide +kernel⟩
theorem ok_law (F : FnP K "law" "law" s_law f fd) (T : Txt K mg) (d_l_hand : Df P w K mg base CX0 1 "_law_hand" ["_law_script"] (p_hand K)) (d_l_draw : Df P w K mg base CX0 3 "_law_draw" ["_law_hand_here", "_law_tally"] p_draw)
    (d_l_undone : Df P w K mg base CX0 5 "_law_undone" ["_law_hand_here", "_law_limit", "_law_tally"] p_undone) (d_l_dense_lot : Df P w K mg base CX0 5 "_law_dense_lot" ["_law_hand_here"] p_dense)
    (d_l_extra : Df P w K mg base CX0 4 "_law_extra" ["_law_hand_here", "_law_tickets"] p_extra) (d_l_greater : Df P w K mg base CX0 4 "_law_greater" ["_law_hand_here", "_law_tickets", "_law_items"] p_greater)
    (d_l_as_payments : Df P w K mg base CX0 1 "_law_as_payments" ["_law_runs"] p_as_payments) (d_l_purses : Df P w K mg base CX0 5 "_law_purses" ["_law_hand_here", "_law_tickets"] (p_lpurses K))
    (d_l_lot : Df P w K mg base CX0 6 "_law_lot" ["_law_hand_here", "_law_items"] (p_llot K)) (d_l_spent : Df P w K mg base CX0 1 "_law_spent" ["_law_names_here", "_law_payments"] p_lspent)
    (d_after : Df P w K mg base CX0 6 "after" ["purses", "payments"] (p_after K)) (d_leave : Df P w K mg base (L2.CX P w) 11 "leave" ["purses", "lot", "left"] (p_leave K))
    (d_Purses___eq__ : Dm P w K mg base 1 (cP K) "__eq__" ["self", "other"] (p_eqP K)) (d_l_right : Df P w K mg base CX0 3 "_law_right" ["_law_tickets", "_law_runs", "_law_here", "_law_found"] p_right)
    (d_l_moved : Df P w K mg base CX0 4 "_law_moved" ["_law_hand_here", "_law_here"] p_moved) (d_l_total_right : Df P w K mg base CX0 12 "_law_total_right" ["_law_hand_here", "_law_purses_here", "_law_lot_here", "_law_here", "_law_number"] (p_total_right K))
    (d_l_poor_right : Df P w K mg base CX0 12 "_law_poor_right" ["_law_hand_here", "_law_tickets", "_law_lot_here", "_law_here"] (p_poor_right K)) : FnOk P w K mg base CX0 13 f fd ["_law_script"] (p_law K) := by
  refine ok0 F sc_law (fun _ _ _ _ h => by obtain ⟨a, l, rfl, _⟩ := h; rfl) fun cdv A outer s H vs Q E hr h => ?_
  obtain ⟨sl, zs0, rfl, hsl, q⟩ := h
  have hu := hu_of hr
  refine ⟨_, (pss_cons (ps_set (i := 1) sc_law.nd rfl (Or.inl rfl) (pe_df d_l_hand hr (pa_cons (pv 0) pa_nil)))
    (pss_cons (ps_for PassesOwn.never rfl (pi_range1 (by rfl) T.range (pa_cons pe_int pa_nil)) (pg_name (i := 2) sc_law.nd rfl (Or.inl rfl))
      (pss_cons (ps_asg (g := gTup K 2 (gCons (gName 3) (gCons (gName 4) gNil))) (pe_df d_l_undone hr (pa_cons (pv 1) (pa_cons pe_int (pa_cons pe_int pa_nil)))) (pg_tup rfl (pgs_cons (pg_name (i := 3) sc_law.nd rfl (Or.inr rfl)) (pgs_cons (pg_name (i := 4) sc_law.nd rfl (Or.inl rfl)) pgs_nil))))
      (C8.pss_cut (ps_if (PW.pt (pw_and (pt_cmpR op_eq (pv 2) pe_int (nomark _)) (pw_and1 (pt_cmpR op_eq (pe_df d_l_draw hr (pa_cons (pv 1) (pa_cons pe_int pa_nil))) pe_int (nomark _)))))
        (pss_one (ps_asg (g := gTup K 2 (gCons (gName 3) (gCons (gName 4) gNil))) (pe_df d_l_dense_lot hr (pa_cons (pv 1) pa_nil)) (pg_tup rfl (pgs_cons (pg_name (i := 3) sc_law.nd rfl (Or.inr rfl)) (pgs_cons (pg_name (i := 4) sc_law.nd rfl (Or.inl rfl)) pgs_nil)))))
        pss_nil)
      (pss_cons (ps_asg (g := gTup K 2 (gCons (gName 3) (gCons (gName 4) gNil))) (pe_df d_l_greater hr (pa_cons (pv 1) (pa_cons (pe_df d_l_extra hr (pa_cons (pv 1) (pa_cons (pv 3) pa_nil))) (pa_cons (pv 4) pa_nil)))) (pg_tup rfl (pgs_cons (pg_name (i := 3) sc_law.nd rfl (Or.inr rfl)) (pgs_cons (pg_name (i := 4) sc_law.nd rfl (Or.inl rfl)) pgs_nil))))
      (pss_cons (ps_set (i := 5) sc_law.nd rfl (Or.inl rfl) (pe_df d_l_as_payments hr (pa_cons (pv 4) pa_nil)))
      (pss_cons (ps_par (i := 6) (j := 7) (by rfl) sc_law.nd rfl rfl (by decide) rfl rfl (pa_cons (pe_df d_l_purses hr (pa_cons (pv 1) (pa_cons (pv 3) pa_nil))) (pa_cons (pe_df d_l_lot hr (pa_cons (pv 1) (pa_cons (pv 4) pa_nil))) pa_nil)) (by rfl))
      (pss_cons (ps_set (i := 8) sc_law.nd rfl (Or.inr rfl) (pe_df d_l_spent hr (pa_cons (pe_callB (call_sortedD rfl) (by rfl) T.sorted bt_sorted (pa_cons (pv 3) pa_nil)) (pa_cons (pv 5) pa_nil))))
      (pss_cons (ps_set (i := 9) sc_law.nd rfl (Or.inl rfl) (pe_callTy (call_dictP rfl) (by rfl) T.dict bt_dict (pa_cons (pe_lock (pe_lc (own := [("_law_name", 12)]) (g := gName 12) (tt := tYes) rfl sc_law.nd (pi_keys (pv 3)) (blkOk_by (own := [("_law_name", 12)]) (N := N_law) (sc := defScope s_law) (by decide +kernel)) (fun _ _ _ _ _ => (pg_name (i := 12) sc_law.nd rfl (Or.inl rfl))) (fun _ _ _ _ _ => pts_nil) (fun _ _ _ _ _ => (pe_tup (pa_cons (pv 12) (pa_cons (pe_op op_sub (pe_dget hu (pv 3) (pv 12) (fun _ _ => rfl)) (pe_dget hu (pv 8) (pv 12) (fun _ _ => rfl))) pa_nil)))))) pa_nil)))
      (pss_cons (ps_if (pt_cmpR (op_neI d_Purses___eq__ T.neP T.isP.hm hr) (pe_df d_after hr (pa_cons (pv 6) (pa_cons (pv 5) pa_nil))) (pe_df d_l_purses hr (pa_cons (pv 1) (pa_cons (pv 9) pa_nil))) (nomark _))
        (pss_one (ps_ret pe_bl))
        pss_nil)
      (pss_cons (ps_if (pt_cmpR op_ne (pe_ix ix_tup (pe_dfL d_leave hr (pa_cons (pv 6) (pa_cons (pv 7) (pa_cons (pe_df d_after hr (pa_cons (pv 6) (pa_cons (pv 5) pa_nil))) pa_nil)))) pe_int (fun _ _ => rfl)) pe_str (nomark _))
        (pss_one (ps_ret pe_bl))
        pss_nil)
      (pss_cons (ps_set (i := 10) sc_law.nd rfl (Or.inl rfl) (pe_callB (cr_sum rfl) (by rfl) T.sum bt_sum (pa_cons (pe_callTy (call_list_vals rfl) (by rfl) T.list bt_list (pa_cons (pe_bm0 PySem.F.plainAttrs_dict PySem.F.slot_dict_values PySem.F.type_dict_values mt_values (pv 9)) pa_nil)) pa_nil)))
      (pss_cons (ps_for PassesOwn.never rfl (pi_range1 (by rfl) T.range (pa_cons pe_int pa_nil)) (pg_name (i := 11) sc_law.nd rfl (Or.inl rfl))
        (pss_cons (ps_if (pt_not (pt_val (pe_df d_l_right hr (pa_cons (pv 3) (pa_cons (pv 4) (pa_cons (pv 9) (pa_cons (pe_dfL d_leave hr (pa_cons (pv 6) (pa_cons (pv 7) (pa_cons (pe_df d_l_purses hr (pa_cons (pv 1) (pa_cons (pv 9) pa_nil))) pa_nil)))) pa_nil)))))))
          (pss_one (ps_ret pe_bl))
          pss_nil)
        (pss_one (ps_set (i := 9) sc_law.nd rfl (Or.inl rfl) (pe_df d_l_moved hr (pa_cons (pv 1) (pa_cons (pv 9) pa_nil)))))))
      (pss_one (ps_if (PW.pt (pw_or (pt_not (pt_val (pe_df d_l_total_right hr (pa_cons (pv 1) (pa_cons (pv 6) (pa_cons (pv 7) (pa_cons (pv 9) (pa_cons (pv 10) pa_nil)))))))) (pw_or1 (pt_not (pt_val (pe_df d_l_poor_right hr (pa_cons (pv 1) (pa_cons (pv 3) (pa_cons (pv 7) (pa_cons (pv 9) pa_nil))))))))))
        (pss_one (ps_ret pe_bl))
        pss_nil))))))))))))))
    (pss_one (ps_ret pe_bl)))), ?_⟩
  refine ⟨.ref sl, rfl, sl, zs0, rfl, hsl, fun H0 a c k0 hh0 => ?_⟩
  refine ⟨2, rfl, by decide, by decide, ?_⟩
  refine for_it walk_range (fun i σ H' => (∃ x2 x3 x4 x5 x6 x7 x8 x9 x10 x11 x12, σ = [some (.ref sl), some (.ref a), x2, x3, x4, x5, x6, x7, x8, x9, x10, x11, x12]) ∧ HandAt H' a c) ?_ ?_ ?_ ?_
  · exact ⟨⟨_, _, _, _, _, _, _, _, _, _, _, rfl⟩, hh0⟩
  · rintro i σ H1 _ _
    trivial
  · rintro i v σ H1 H2 hi ⟨⟨x2, x3, x4, x5, x6, x7, x8, x9, x10, x11, x12, rfl⟩, hh1⟩ ⟨rfl, rfl⟩
    refine ⟨.ref a, rfl, a, c, rfl, hh1, fun H3 p d l ns t rs k3 hh3 hp hd nd hruns FN => ?_⟩
    refine ⟨p, _, rfl, SqT.of hp, rfl, _, _, rfl, _, _, rfl, rfl, ?_⟩
    refine ⟨fun σ H' => ∃ d l ns t rs, σ = [some (.ref sl), some (.ref a), some (.int (0 + (i : Int))), some (.ref d), some (.ref l), x5, x6, x7, x8, x9, x10, x11, x12] ∧ HandAt H' a c ∧ H' d = some (dI ns t) ∧ RunsAt H' l rs ∧ Fine ns t rs, ?_, ?_⟩
    · by_cases e1 : V.int (0 + (i : Int)) = V.int 1
      · refine ⟨_, rfl, rfl, true, bl_t e1, ?_⟩
        refine ⟨.ref a, rfl, a, c, 8, rfl, hh3, by decide, by decide, fun H4 r k4 hh4 r0 r1 => ⟨rfl, ?_⟩⟩
        by_cases hz : r = 0
        · refine ⟨true, by rw [hz]; rfl, .ref a, rfl, a, c, rfl, hh4, fun H5 p5 d5 l5 ns5 t5 rs5 k5 hh5 hp5 hd5 nd5 hruns5 F5 => ?_⟩
          exact ⟨p5, _, rfl, SqT.of hp5, rfl, _, _, rfl, _, _, rfl, rfl, d5, l5, ns5, t5, rs5, rfl, hh5, hd5, hruns5, F5⟩
        · exact ⟨false, bl_f (fun e => hz (V.int.inj e)), d, l, ns, t, rs, rfl, hh4, hh3.dict k4 hd, hh3.runs k4 hruns, FN⟩
      · exact ⟨_, rfl, rfl, false, bl_f e1, d, l, ns, t, rs, rfl, hh3, hd, hruns, FN⟩
    clear hp hd hruns FN nd k3 hh3
    rintro σ H4 ⟨d, l, ns, t, rs, rfl, hh4, hd4, hr4, FN⟩
    have n24 := FN.B.nm.len
    refine ⟨.ref a, rfl, .ref a, rfl, .ref d, rfl, a, c, d, ns, t, rfl, hh4, hd4, n24, FN.B.nm.nd, fun H5 t5 k5 hh5 hd5 ht5 => ?_⟩
    have hr5 : RunsAt H5 l rs := by
      have hla : l ≠ a := by
        obtain ⟨ts, e1, _⟩ := hr4
        exact hh4.neRefs e1
      have hld : l ≠ d := fun e => by
        obtain ⟨ts, e1, _⟩ := hr4
        rw [e, hd4] at e1; cases e1
      refine RunsAt.kp k5 (fun b hb xs e => ?_) (fun m => ?_) hr4
      · rcases List.mem_cons.mp hb with z | z
        · obtain ⟨ys, e2⟩ := hh4.some1
          rw [z, e2] at e; cases e
        · rw [List.mem_singleton.mp z, hd4] at e; cases e
      · rcases List.mem_cons.mp m with z | z
        · exact hla z
        · exact hld (List.mem_singleton.mp z)
    refine ⟨.ref l, rfl, a, c, d, l, ns, t5, rs, rfl, hh5, hd5, hr5, FN.B.mono fun x hx => (ht5 x hx).1, fun x hx => ?_, FN.mx, fun H6 p6 d6 l6 ns6 t6 rs6 k6 hh6 hp6 hd6 hr6 B6 top6 tot6 mx6 => ?_⟩
    · have h1 := FN.top x hx
      have h2 := (ht5 x hx).2
      omega
    clear hd4 hr4 k5 hh5 hd5 ht5 hr5 FN hh4
    refine ⟨p6, _, rfl, SqT.of hp6, rfl, _, _, rfl, _, _, rfl, rfl, ?_⟩
    have n24 := B6.nm.len
    have hlen6 := B6.len
    refine ⟨.ref l6, rfl, l6, rs6, rfl, hr6, by omega, fun H7 pl rp k7 npl hrp pmp => ?_⟩
    have hh7 := hh6.same k7
    have am6 : AmOk ns6 t6 := fun x hx => ⟨B6.nn x hx, by have := top6 x hx; omega⟩
    have hd7 := k7 _ _ hd6
    have hr7 := hr6.same k7
    refine ⟨.ref a, rfl, .ref d6, rfl, a, c, d6, ns6, t6, rfl, hh7, hd7, B6.nm, am6, fun H8 pa ys k8 hh8 pmy npa hpa => ?_⟩
    have hr8 := hh7.runs k8 hr7
    have nla8 : l6 ≠ a := by
      obtain ⟨ts, e1, _⟩ := hr8
      exact hh8.neRefs e1
    refine ⟨.ref a, rfl, .ref l6, rfl, a, c, l6, rs6, rfl, hh8, hr8, nla8, by omega, fun r hr => ⟨B6.nm.ok _ (B6.e1 r hr), B6.nm.ok _ (B6.e2 r hr), B6.ne r hr, B6.pos r hr, mx6 r hr⟩, tot6, fun H9 la rs' k9 hh9 eT em el nla hla => ?_⟩
    refine ⟨_, _, rfl, ?_⟩
    have L : LP ns6 ys t6 rs6 rs' rp := ⟨B6, top6, tot6, mx6, pmy, eT, em, pmp⟩
    have k79 := Kp.trans k8 k9
    have f9 : LF K H9 a c d6 l6 pl pa la ns6 ys t6 rs6 rs' rp := ⟨hh9, hh7.dict k79 hd7, hh7.runs k79 hr7, hh7.runs k79 hrp, hh8.purse k9 hpa, hla⟩
    clear hd7 hr7 hr8 hh7 hh8 k7 k8 k9 k79 hd6 hr6 hp6 hrp hpa hla hh9 nla nla8 npa npl
    -- what was spent
    refine ⟨.ref d6, rfl, d6, _, ns6, rfl, .inl f9.d, keys_mk, mkT_nd n24, fun zs pz pmz soz npz => ?_⟩
    have fA := f9.same (Same.new (o := .lst (zs.map V.str)) Same.rfl npz)
    have hpz : upd H9 pz (.lst (zs.map V.str)) pz = some (.lst (zs.map V.str)) := upd_same
    generalize upd H9 pz (.lst (zs.map V.str)) = HA at fA hpz ⊢
    have hrpl := L.rpl
    refine ⟨.ref pl, rfl, pz, pl, zs, rp, rfl, hpz, pmz.nodup_iff.mpr B6.nm.nd, by rw [pmz.length_eq]; exact n24, fA.pl, by omega, fun r hr => pmz.mem_iff.mpr (L.rp1 hr).1, fun HB sd kB nsd hsd => ?_⟩
    have fB := fA.same kB
    -- what is left
    refine ⟨d6, _, fB.d, trivial, fun od => ?_⟩
    refine ⟨.ref d6, rfl, d6, od, rfl, .inl ⟨_, upd_same, fun D nD => ?_⟩⟩
    have hdz : upd HB d6 (.frz od (dI ns6 t6)) d6 = some (.frz od (dI ns6 t6)) := upd_same
    have nDt : D ≠ d6 := fun z => by rw [z, upd_same] at nD; cases nD
    have nst : sd ≠ d6 := fun z => by rw [z, fA.d] at nsd; cases nsd
    have hsz : upd HB d6 (.frz od (dI ns6 t6)) sd = some (dI zs (spentR rp)) := by rw [upd_ne nst]; exact hsd
    refine lc_it walk_keys (fun i H' => Same (upd HB d6 (.frz od (dI ns6 t6))) H' ∧ ∃ us : List Addr, H' D = some (.lst (us.map V.ref)) ∧ Paired (fun u x => H' u = some (.tup (cE (fun x => t6 x - spentR rp x) x))) us (ns6.take i)) ?_ ?_ ?_ ?_
    · exact ⟨Same.new Same.rfl nD, [], upd_same, .nil⟩
    · rintro i HC _ ⟨k, _⟩
      exact k _ _ hdz
    · rintro i v HC HD hi ⟨k, us, hD, hus⟩ ⟨rfl, key, v2, hkv, rfl⟩
      obtain ⟨x, hx, rfl, rfl⟩ := nm_at hkv
      have hxn := List.mem_of_getElem? hx
      refine ⟨rfl, .str x, rfl, .ref d6, rfl, .str x, rfl, d6, _, rfl, dN_getZ (k _ _ hdz) hxn, .ref sd, rfl, .str x, rfl, sd, _, rfl, dN_get (k _ _ hsz) (pmz.mem_iff.mpr hxn), _, _, rfl, rfl, two_sz, fun u nu => ?_⟩
      obtain ⟨g1, g2, g3⟩ := grow (c := cE fun x => t6 x - spentR rp x) x hD hus nu
      refine ⟨_, g1, ?_, Same.wrN (Same.new k nu) nD, us ++ [u], g2, by rw [take_snoc hx]; exact g3⟩
      rw [List.length_map]
      have := Paired.length hus
      rw [List.length_take] at this
      exact lt_sz (by omega)
    rintro HC ⟨k, us, hD, hus⟩
    rw [List.take_of_length_le (by rw [length_mkT]; exact Nat.le_refl _)] at hus
    have kk := lock_same fB.d k
    refine ⟨k _ _ hdz, D, us, mkT kS ns6 fun x => .int (t6 x - spentR rp x), rfl, SqL.of (by rw [upd_ne nDt]; exact hD), ents_pairs (Paired.mapP hus fun u y z => ?_), fun h8 nh8 => ?_⟩
    · rw [upd_ne (fun e => by rw [e, k _ _ hdz] at z; cases z)]; exact z
    rw [merge_nil B6.nm.nd]
    have fC := fB.same (Same.new (o := dI ns6 fun x => t6 x - spentR rp x) kk nh8)
    have hh8C : upd (upd HC d6 (dI ns6 t6)) h8 (dI ns6 fun x => t6 x - spentR rp x) h8 = some (dI ns6 fun x => t6 x - spentR rp x) := upd_same
    have hN := L.n
    have amh := L.h0
    have hpay : ∀ x ∈ ys, spentR rp x ≤ t6 x := fun x hx => by rw [L.sp x]; exact B6.pay x (pmy.mem_iff.mp hx)
    have hrp1 : ∀ r ∈ rp, r.1 ∈ ys ∧ 0 ≤ r.2.2 := fun r hr => ⟨pmy.mem_iff.mpr (L.rp1 hr).1, (L.rp1 hr).2⟩
    have nmY : NamesOk ys := B6.nm.perm pmy
    have amY : AmOk ys t6 := am6.perm pmy
    have lok := L.lok
    have play := L.play
    clear hsz hdz hus hD k kk fB fA f9 hsd hpz nh8 nDt nst
    -- after
    refine ⟨.ref pa, rfl, .ref pl, rfl, pa, pl, ys, t6, rp, rfl, fC.pa, nmY, amY, fC.pl, hrp1, hpay, fun HD b1 ys1 kD pm1 nb1 hb1 => ?_⟩
    have fD := fC.same kD
    have hh8D := kD _ _ hh8C
    refine ⟨.ref a, rfl, .ref h8, rfl, a, c, h8, ns6, _, rfl, fD.hh, hh8D, B6.nm, amh, fun HE b2 ys2 kE hhE pm2 nb2 hb2 => ?_⟩
    have fE := fD.step kE hhE
    have hb1E := fD.hh.purse kE hb1
    have ⟨ex, ed, i1, i2⟩ := hb1E
    have ⟨gx, gd, j1, j2⟩ := hb2
    refine ⟨b1, b2, ex, gx, _, _, rfl, rfl, i1, j1, b1, b2, ys1, _, ys2, _, rfl, hb1E, hb2, (pm1.trans pmy).trans pm2.symm, fun _ _ => rfl, true, rfl, false, rfl, ?_⟩
    have hh8E := fD.hh.dict kE hh8D
    clear hb1E hb2 i1 i2 j1 j2 hb1 nb1 nb2 kD fC hh8C hh8D fD
    -- leave, after
    refine ⟨.ref pa, rfl, .ref la, rfl, .ref pa, rfl, .ref pl, rfl, pa, pl, ys, t6, rp, rfl, fE.pa, nmY, amY, fE.pl, hrp1, hpay, fun HF b3 ys3 kF pm3 nb3 hb3 => ?_⟩
    have fF := fE.same kF
    have hh8F := kF _ _ hh8E
    have nextF : ∀ HG, Same HF HG → LF K HG a c d6 l6 pl pa la ns6 ys t6 rs6 rs' rp ∧ HG h8 = some (dI ns6 fun x => t6 x - spentR rp x) := fun HG kG => ⟨fF.same kG, kG _ _ hh8F⟩
    have hNy : su ys (fun x => t6 x - spentR rp x) = su ys t6 - su (tabL rs') (totL rs') := by rw [← hN]; exact su_perm _ pmy
    refine ⟨pa, la, b3, ys, t6, tabL rs', totL rs', ys3, _, rfl, fF.pa, nmY, fF.la, lok, hb3, pm3, .inl play, fun po => absurd po (not_poor play), fun _ e => absurd hNy e, fun _ _ HG p7 l7 qs g kG hp7 hl7 asc P0 hsp => ?_, fun _ _ HG p7 l7 R kG hp7 hl7 asc hne hsub hlt => absurd hlt (L.noSet (fun _ _ => rfl) (asc_nodup asc) hsub)⟩
    refine ⟨p7, _, 0, _, rfl, rfl, SqT.of hp7, rfl, rfl, false, rfl, ?_⟩
    obtain ⟨fG, hh8G⟩ := nextF HG kG
    clear nextF hp7 hl7 asc P0 hsp kG hb3 nb3 fF hh8F kF fE hh8E kE hhE
    -- the number
    refine ⟨.ref h8, rfl, .inr (.inr (.inl ⟨rfl, .inl ⟨_, hh8G⟩⟩)), h8, _, rfl, rfl, .dK _ hh8G, fun pw npw => ⟨pw, h8, _, rfl, upd_same, .dK _ (new_get npw hh8G), fun ql nql => ?_⟩⟩
    have e5 : ((mkT kS ns6 fun x => V.int (t6 x - spentR rp x)).map Prod.snd) = (ns6.map fun x => t6 x - spentR rp x).map V.int := by
      unfold mkT
      rw [List.map_map, List.map_map]
      rfl
    rw [e5]
    have fH := fG.same (Same.new (o := .lst ((ns6.map fun x => t6 x - spentR rp x).map V.int)) (Same.new (o := valsO pw h8) Same.rfl npw) nql)
    have hh8H := new_get (u := .lst ((ns6.map fun x => t6 x - spentR rp x).map V.int)) nql (new_get (u := valsO pw h8) npw hh8G)
    refine ⟨ql, _, rfl, SqL.of upd_same, ?_⟩
    have e6 : (ns6.map fun x => t6 x - spentR rp x).sum = su ys t6 - su (tabL rs') (totL rs') := hN
    rw [e6]
    generalize upd (upd HG pw (valsO pw h8)) ql (.lst ((ns6.map fun x => t6 x - spentR rp x).map V.int)) = HH at fH hh8H ⊢
    refine ⟨4, rfl, by decide, by decide, ?_⟩
    refine for_it walk_range (fun j σ H' => (∃ hx h x11 x12, σ = [some (.ref sl), some (.ref a), some (.int (0 + (i : Int))), some (.ref d6), some (.ref l6), some (.ref pl), some (.ref pa), some (.ref la), some (.ref sd), some (.ref hx), some (.int (su ys t6 - su (tabL rs') (totL rs'))), x11, x12] ∧ H' hx = some (dI ns6 h) ∧ AmOk ns6 h ∧ su ns6 h = su ys t6 - su (tabL rs') (totL rs')) ∧ LF K H' a c d6 l6 pl pa la ns6 ys t6 rs6 rs' rp) ?_ ?_ ?_ ?_
    · exact ⟨⟨h8, _, _, _, rfl, hh8H, amh, hN⟩, fH⟩
    · rintro j σ HI _ _
      trivial
    · clear fH hh8H fG hh8G
      rintro j v σ HI HJ hj ⟨⟨hx, h, z11, z12, rfl, hhx, amx, hNx⟩, fI⟩ ⟨rfl, rfl⟩
      have hNxy : su ys h = su ys t6 - su (tabL rs') (totL rs') := by rw [← hNx]; exact su_perm _ pmy
      refine ⟨.ref d6, rfl, .ref l6, rfl, .ref hx, rfl, .ref pa, rfl, .ref la, rfl, .ref a, rfl, .ref hx, rfl, a, c, hx, ns6, h, rfl, fI.hh, hhx, B6.nm, amx, fun HK b4 ys4 kK hhK pm4 nb4 hb4 => ?_⟩
      have fK := fI.step kK hhK
      have hhxK := fI.hh.dict kK hhx
      have tail : ∀ HM, Same HK HM → ∃ t0 : Bool, V.bl true = V.bl t0 ∧ t0 = true ∧ LF K HM a c d6 l6 pl pa la ns6 ys t6 rs6 rs' rp ∧ HM hx = some (dI ns6 h) := fun HM kM => ⟨true, rfl, rfl, fK.same kM, kM _ _ hhxK⟩
      refine ⟨pa, la, b4, ys, t6, tabL rs', totL rs', ys4, h, rfl, fK.pa, nmY, fK.la, lok, hb4, pm4.trans pmy.symm, .inl play, fun po => absurd po (not_poor play), fun _ e => absurd hNxy e, fun _ _ HM p8 l8 qs g kM hp8 hl8 asc P0 hsp => ?_, fun _ _ HM p8 l8 R kM hp8 hl8 asc hne hsub hlt => ?_⟩
      · have fM := fK.same kM
        have hhxM := kM _ _ hhxK
        refine ⟨d6, l6, hx, p8, l8, ns6, t6, h, rs6, rfl, fM.d, hhxM, B6.nm.nd, n24, fM.l, by omega, .inl ⟨_, hp8, hl8, L.payOk P0 asc hsp⟩, fun HN kN => ⟨true, rfl, ?_⟩⟩
        have fN := fM.same kN
        refine ⟨.ref a, rfl, .ref hx, rfl, a, c, hx, ns6, h, rfl, fN.hh, kN _ _ hhxM, B6.nm.nd, n24, by have := B6.two; omega, amx, fun HO h9 h10 kO hhO hh9 am9 su9 => ?_⟩
        exact ⟨⟨h9, h10, _, _, rfl, hh9, am9, su9.trans hNx⟩, fN.step kO hhO⟩
      · have fM := fK.same kM
        have hhxM := kM _ _ hhxK
        refine ⟨d6, l6, hx, p8, l8, ns6, t6, h, rs6, rfl, fM.d, hhxM, B6.nm.nd, n24, fM.l, by omega, .inr ⟨R, hp8, hl8, L.setOk asc hne hsub hlt⟩, fun HN kN => ⟨true, rfl, ?_⟩⟩
        have fN := fM.same kN
        refine ⟨.ref a, rfl, .ref hx, rfl, a, c, hx, ns6, h, rfl, fN.hh, kN _ _ hhxM, B6.nm.nd, n24, by have := B6.two; omega, amx, fun HO h9 h10 kO hhO hh9 am9 su9 => ?_⟩
        exact ⟨⟨h9, h10, _, _, rfl, hh9, am9, su9.trans hNx⟩, fN.step kO hhO⟩
    · clear fH hh8H fG hh8G
      rintro σ HI ⟨⟨hx, h, z11, z12, rfl, hhx, amx, hNx⟩, fI⟩
      refine ⟨.ref a, rfl, .ref pa, rfl, .ref la, rfl, .ref hx, rfl, .int _, rfl, a, c, pa, la, hx, ys, t6, tabL rs', totL rs', ns6, h, rfl, fI.hh, fI.pa, nmY, fI.la, lok, play, hhx, pmy.symm, by have := B6.two; omega, amx, hNx, fun HJ kJ hhJ => ⟨true, rfl, ?_⟩⟩
      have fJ := fI.step kJ hhJ
      refine ⟨.ref a, rfl, .ref d6, rfl, .ref la, rfl, .ref hx, rfl, a, c, d6, la, hx, ns6, t6, tabL rs', totL rs', ns6, h, rfl, fJ.hh, fJ.d, B6.nm, am6, fJ.la, lok.perm pmy.symm, fI.hh.dict kJ hhx, .refl _, amx, fun HK kK hhK => ⟨true, rfl, ?_⟩⟩
      exact ⟨⟨_, _, _, _, _, _, _, _, _, _, _, rfl⟩, hhK⟩
  · rintro σ H1 ⟨⟨x2, x3, x4, x5, x6, x7, x8, x9, x10, x11, x12, rfl⟩, hh1⟩
    exact q _
end
end Ep

set_option Elab.async false
set_option linter.all false
set_option maxRecDepth 100000
set_option maxHeartbeats 0
/-! ## the head, the end -/
namespace Ep
open PySem PySem.Spec PyProof.Rows L2
def dd (f : Str × Option Str) (nm q : Str) (st : Stmt) : He.DefD := ⟨f, nm, q, defArgs st, defBody st, defScope st, [], []⟩

def fn0 : List He.DefD := [
  dd ("is_integer", none) "is_integer" "is_integer" (top 15),
  dd ("is_name", none) "is_name" "is_name" (top 16),
  dd ("is_amount", none) "is_amount" "is_amount" (top 17),
  dd ("is_count", none) "is_count" "is_count" (top 18),
  dd ("is_run", none) "is_run" "is_run" (top 19),
  dd ("pair_of", none) "pair_of" "pair_of" (top 22),
  dd ("with_table", none) "with_table" "with_table" (top 23),
  dd ("Lot", some "__init__") "__init__" "Lot.__init__" (inClass (top 24) 0),
  dd ("Lot", some "entries") "entries" "Lot.entries" (inClass (top 24) 1),
  dd ("Lot", some "players") "players" "Lot.players" (inClass (top 24) 2),
  dd ("Lot", some "__eq__") "__eq__" "Lot.__eq__" (inClass (top 24) 9),
  dd ("purses_with", none) "purses_with" "purses_with" (top 27),
  dd ("Purses", some "__init__") "__init__" "Purses.__init__" (inClass (top 28) 0),
  dd ("Purses", some "players") "players" "Purses.players" (inClass (top 28) 1)]
def fn1 : List He.DefD := [
  dd ("Purses", some "entries") "entries" "Purses.entries" (inClass (top 28) 2),
  dd ("Purses", some "tickets") "tickets" "Purses.tickets" (inClass (top 28) 3),
  dd ("Purses", some "total") "total" "Purses.total" (inClass (top 28) 4),
  dd ("Purses", some "__eq__") "__eq__" "Purses.__eq__" (inClass (top 28) 7),
  dd ("lot_of", none) "lot_of" "lot_of" (top 30),
  dd ("loads", none) "loads" "loads" (top 32),
  dd ("partners", none) "partners" "partners" (top 33),
  dd ("path_from", none) "path_from" "path_from" (top 34),
  dd ("hand_over", none) "hand_over" "hand_over" (top 35),
  dd ("least_on", none) "least_on" "least_on" (top 36),
  dd ("first_payments", none) "first_payments" "first_payments" (top 37),
  dd ("spread_table", none) "spread_table" "spread_table" (top 38),
  dd ("runs_of", none) "runs_of" "runs_of" (top 39),
  dd ("left_by", none) "left_by" "left_by" (top 40)]
def fn2 : List He.DefD := [
  dd ("order", none) "order" "order" (top 41),
  dd ("decide", none) "decide" "decide" (top 43),
  dd ("payments_of", none) "payments_of" "payments_of" (top 44),
  dd ("after", none) "after" "after" (top 46),
  dd ("settled", none) "settled" "settled" (top 47),
  dd ("leave", none) "leave" "leave" (top 48),
  dd ("_law_hand", none) "_law_hand" "_law_hand" (top 50),
  dd ("_law_step", none) "_law_step" "_law_step" (top 51),
  dd ("_law_take", none) "_law_take" "_law_take" (top 52),
  dd ("_law_draw", none) "_law_draw" "_law_draw" (top 53),
  dd ("_law_shuffled", none) "_law_shuffled" "_law_shuffled" (top 54),
  dd ("_law_names", none) "_law_names" "_law_names" (top 55),
  dd ("_law_count", none) "_law_count" "_law_count" (top 56),
  dd ("_law_undone", none) "_law_undone" "_law_undone" (top 57)]
def fn3 : List He.DefD := [
  dd ("_law_table", none) "_law_table" "_law_table" (top 58),
  dd ("_law_spent", none) "_law_spent" "_law_spent" (top 59),
  dd ("_law_between", none) "_law_between" "_law_between" (top 60),
  dd ("_law_purses", none) "_law_purses" "_law_purses" (top 61),
  dd ("_law_lot", none) "_law_lot" "_law_lot" (top 62),
  dd ("_law_is_names", none) "_law_is_names" "_law_is_names" (top 63),
  dd ("_law_as_payments", none) "_law_as_payments" "_law_as_payments" (top 64),
  dd ("_law_is_run", none) "_law_is_run" "_law_is_run" (top 65),
  dd ("_law_pays", none) "_law_pays" "_law_pays" (top 66),
  dd ("_law_extra", none) "_law_extra" "_law_extra" (top 67),
  dd ("_law_greater", none) "_law_greater" "_law_greater" (top 68),
  dd ("_law_dense_lot", none) "_law_dense_lot" "_law_dense_lot" (top 69),
  dd ("_law_moved", none) "_law_moved" "_law_moved" (top 70),
  dd ("_law_right", none) "_law_right" "_law_right" (top 71)]
def fn4 : List He.DefD := [
  dd ("_law_total_right", none) "_law_total_right" "_law_total_right" (top 72),
  dd ("_law_poor_right", none) "_law_poor_right" "_law_poor_right" (top 73),
  dd ("law", none) "law" "law" (top 74)]
def fn : List He.DefD := fn0 ++ (fn1 ++ (fn2 ++ (fn3 ++ (fn4))))
def fa0 : List He.Fa := [
  .glo "ClubError",
  .glo "Wrong",
  .glo "BadItem",
  .glo "NoPlayer",
  .glo "Over",
  .glo "Unplayable",
  .glo "Unlike",
  .glo "TooMany",
  .glo "is_integer",
  .glo "is_name",
  .glo "is_amount",
  .glo "is_count",
  .glo "is_run",
  .glo "pair_of"]
def fa1 : List He.Fa := [
  .glo "with_table",
  .glo "Lot",
  .glo "purses_with",
  .glo "Purses",
  .glo "lot_of",
  .glo "loads",
  .glo "partners",
  .glo "path_from",
  .glo "hand_over",
  .glo "least_on",
  .glo "first_payments",
  .glo "spread_table",
  .glo "runs_of",
  .glo "left_by"]
def fa2 : List He.Fa := [
  .glo "order",
  .glo "decide",
  .glo "payments_of",
  .glo "after",
  .glo "settled",
  .glo "leave",
  .glo "_law_hand",
  .glo "_law_step",
  .glo "_law_take",
  .glo "_law_draw",
  .glo "_law_shuffled",
  .glo "_law_names",
  .glo "_law_count",
  .glo "_law_undone"]
def fa3 : List He.Fa := [
  .glo "_law_table",
  .glo "_law_spent",
  .glo "_law_between",
  .glo "_law_purses",
  .glo "_law_lot",
  .glo "_law_is_names",
  .glo "_law_as_payments",
  .glo "_law_is_run",
  .glo "_law_pays",
  .glo "_law_extra",
  .glo "_law_greater",
  .glo "_law_dense_lot",
  .glo "_law_moved",
  .glo "_law_right"]
def fa4 : List He.Fa := [
  .glo "_law_total_right",
  .glo "_law_poor_right",
  .glo "law",
  .free "isinstance",
  .free "int",
  .free "bool",
  .free "str",
  .free "tuple",
  .free "list",
  .free "dict",
  .free "len",
  .free "all",
  .free "any",
  .free "min"]
def fa5 : List He.Fa := [
  .free "max",
  .free "sorted",
  .free "sum",
  .free "enumerate",
  .free "range",
  .free "abs",
  .str "LETTERS" "abcdefghijklmnopqrstuvwxyz",
  .int "LONGEST_NAME" 8,
  .int "MOST_TICKETS" 1000000000000000000000000000000,
  .int "MOST_TIMES" 1000000000000000000000000,
  .int "MOST_ITEMS" 500,
  .int "MOST_PLAYERS" 24,
  .cls "Lot",
  .noat "Lot" "table"]
def fa6 : List He.Fa := [
  .mkr "Lot",
  .meth "Lot" "entries",
  .meth "Lot" "players",
  .meth "Lot" "__eq__",
  .cls "Purses",
  .noat "Purses" "table",
  .mkr "Purses",
  .meth "Purses" "entries",
  .meth "Purses" "players",
  .meth "Purses" "tickets",
  .meth "Purses" "total",
  .meth "Purses" "__eq__",
  .exc "Unplayable",
  .exm "Unplayable" "Unplayable" true]
def fa : List He.Fa := fa0 ++ (fa1 ++ (fa2 ++ (fa3 ++ (fa4 ++ (fa5 ++ (fa6))))))
def loose0 : List Str := ["_wall", "ClubError", "Wrong", "BadItem", "NoPlayer", "Over", "Unplayable", "Unlike", "TooMany", "LETTERS", "LONGEST_NAME", "MOST_TICKETS", "MOST_TIMES", "is_integer", "is_name", "is_amount"]
def loose1 : List Str := ["is_count", "is_run", "MOST_ITEMS", "pair_of", "with_table", "Lot", "MOST_PLAYERS", "purses_with", "Purses", "lot_of", "loads", "partners", "path_from", "hand_over", "least_on", "first_payments"]
def loose2 : List Str := ["spread_table", "runs_of", "left_by", "order", "decide", "payments_of", "after", "settled", "leave", "_law_hand", "_law_step", "_law_take", "_law_draw", "_law_shuffled", "_law_names", "_law_count"]
def loose3 : List Str := ["_law_undone", "_law_table", "_law_spent", "_law_between", "_law_purses", "_law_lot", "_law_is_names", "_law_as_payments", "_law_is_run", "_law_pays", "_law_extra", "_law_greater", "_law_dense_lot", "_law_moved", "_law_right", "_law_total_right"]
def loose4 : List Str := ["_law_poor_right"]
def loose : List Str := loose0 ++ loose1 ++ loose2 ++ loose3 ++ loose4
/-! ### some more of the class Purses -/
def xB (K : PySem.W.Frag) : Bool := He.eqO (PySem.W.findIn K (.ref (cP K)) "__class__") (some (some (.builtin "object.__class__"))) && (decide (PySem.W.specialIn K (.builtin "object.__class__") "__get__" = some (some (.builtin "getset_descriptor.__get__"))) &&
  (decide (PySem.W.takesIn K (.builtin "object.__class__") = some true) && (decide (PySem.W.mroIn K (cP K) (.type "object") = some true) && (decide (PySem.W.kitOne K (.ref (cP K)) (.ref (cP K)) = some true) && He.eqO (PySem.W.findIn K (.ref (cP K)) "__ne__") (some (some (.builtin "object.__ne__")))))))
def obsX (K : PySem.W.Frag) : He.AlD := (xB K && (He.obsD fa fn K).1, (He.obsD fa fn K).2)
def SaysX (K : PySem.W.Frag) : Prop := obsX K = He.valD fn
theorem SaysX.says {K : PySem.W.Frag} (c : SaysX K) : He.SaysD fa fn K := by
  have h1 : (xB K && (He.obsD fa fn K).1) = true := congrArg (fun z : He.AlD => z.1) c
  have h2 := congrArg (fun z : He.AlD => z.2) (show obsX K = He.valD fn from c)
  exact Prod.ext (He.ba h1).2 h2
theorem SaysX.xB {K : PySem.W.Frag} (c : SaysX K) : Ep.xB K = true := by
  have h1 : (Ep.xB K && (He.obsD fa fn K).1) = true := congrArg (fun z : He.AlD => z.1) c
  exact (He.ba h1).1
def obsXG (n : Nat) (g : Addr → Option Obj) : He.AlD := obsX (He.frG g (He.asD g n))
def hk : PySem.W.Hook where
  α := He.AlD
  obs := fun s => obsXG 5 s.heap.get?
  val := fun _ => He.valD fn
  says := fun _ h => ∃ K : PySem.W.Frag, K.In h ∧ SaysX K
  of := fun _ _ e => ⟨_, He.frG_in, e⟩
  keeps := fun _ _ _ ⟨K, hK, c⟩ k => ⟨K, PySem.W.Frag.In.keeps hK k, c⟩
abbrev R : PySem.W.OpenRow := PySem.W.OpenLaw.row PySem.Challenge.rw_eitherpays_k72_whole_leave_great
def ob (s : PySem.W.SharedT) : He.AlD := obsXG 5 (HandSHeadRun.getT s)
theorem ob_eq (s : PySem.W.SharedT) : ob s = hk.obs s.abs := by
  have e : HandSHeadRun.getT s = s.abs.heap.get? := funext (HandSHeadRun.getT_eq s)
  show obsXG 5 (HandSHeadRun.getT s) = obsXG 5 s.abs.heap.get?
  rw [e]
theorem run (w : World) : HandSHeadRun.RunEq R (PySem.W.view R.prog [74]) hk ob 6000 loose w := by
  intro os
  kernel_rfl
/-! ### the facts -/
section
variable {K : PySem.W.Frag} {h : Heap} {mg : Str → Option Value}
theorem txt_of (X : K.In h) (G : h.Ns mainGlobals mg) (c : SaysX K) : Txt K mg := by
  obtain ⟨x1, x2⟩ := He.ba (show (_ && _) = true from c.xB)
  obtain ⟨x2, x3⟩ := He.ba x2
  obtain ⟨x3, x4⟩ := He.ba x3
  obtain ⟨x4, x5⟩ := He.ba x4
  obtain ⟨x5, x6⟩ := He.ba x5
  have ex := He.exc_ok (c.says.fact 96 (f := .exc "Unplayable") rfl)
  have clP := He.cls_ok (c.says.fact 88 (f := .cls "Purses") rfl)
  exact ⟨He.free_ok X G (c.says.fact 59 (f := .free "isinstance") rfl),
    He.free_ok X G (c.says.fact 60 (f := .free "int") rfl),
    He.free_ok X G (c.says.fact 61 (f := .free "bool") rfl),
    He.free_ok X G (c.says.fact 62 (f := .free "str") rfl),
    He.free_ok X G (c.says.fact 63 (f := .free "tuple") rfl),
    He.free_ok X G (c.says.fact 64 (f := .free "list") rfl),
    He.free_ok X G (c.says.fact 65 (f := .free "dict") rfl),
    He.free_ok X G (c.says.fact 66 (f := .free "len") rfl),
    He.free_ok X G (c.says.fact 67 (f := .free "all") rfl),
    He.free_ok X G (c.says.fact 68 (f := .free "any") rfl),
    He.free_ok X G (c.says.fact 69 (f := .free "min") rfl),
    He.free_ok X G (c.says.fact 70 (f := .free "max") rfl),
    He.free_ok X G (c.says.fact 71 (f := .free "sorted") rfl),
    He.free_ok X G (c.says.fact 72 (f := .free "sum") rfl),
    He.free_ok X G (c.says.fact 73 (f := .free "enumerate") rfl),
    He.free_ok X G (c.says.fact 74 (f := .free "range") rfl),
    He.free_ok X G (c.says.fact 75 (f := .free "abs") rfl),
    He.str_ok X G (c.says.fact 76 (f := .str "LETTERS" "abcdefghijklmnopqrstuvwxyz") rfl),
    He.int_ok X G (c.says.fact 77 (f := .int "LONGEST_NAME" 8) rfl),
    He.int_ok X G (c.says.fact 78 (f := .int "MOST_TICKETS" 1000000000000000000000000000000) rfl),
    He.int_ok X G (c.says.fact 79 (f := .int "MOST_TIMES" 1000000000000000000000000) rfl),
    He.int_ok X G (c.says.fact 80 (f := .int "MOST_ITEMS" 500) rfl),
    He.int_ok X G (c.says.fact 81 (f := .int "MOST_PLAYERS" 24) rfl),
    He.cls_ok (c.says.fact 82 (f := .cls "Lot") rfl),
    He.noat_ok (c.says.fact 83 (f := .noat "Lot" "table") rfl),
    He.mkr_ok (c.says.fact 84 (f := .mkr "Lot") rfl),
    He.glo_ok X G (c.says.fact 15 (f := .glo "Lot") rfl),
    clP,
    He.noat_ok (c.says.fact 89 (f := .noat "Purses" "table") rfl),
    He.mkr_ok (c.says.fact 90 (f := .mkr "Purses") rfl),
    He.glo_ok X G (c.says.fact 17 (f := .glo "Purses") rfl),
    ⟨clP, He.eqO_ok x1, of_decide_eq_true x2, of_decide_eq_true x3, of_decide_eq_true x4, of_decide_eq_true x5⟩,
    He.eqO_ok x6,
    He.meth_ok (c.says.fact 95 (f := .meth "Purses" "__eq__") rfl),
    He.glo_ok X G (c.says.fact 5 (f := .glo "Unplayable") rfl),
    ex.1,
    ex.2.1,
    ex.2.2.1,
    ex.2.2.2,
    He.exm_ok (c.says.fact 97 (f := .exm "Unplayable" "Unplayable" true) rfl)⟩
theorem facts {P : Program} {w : World} {f : Addr} (X : K.In h) (G : h.Ns mainGlobals mg) (hfa : mg ("law" : Str) = some (.ref f)) (c : SaysX K) :
    ∃ fd : FuncData, (∀ (s : Shared) (v : Value), BindsTo s fd ⟨[v], []⟩ [("_law_script", v)]) ∧ ∀ base : Heap, K.In base → base.Ns mainGlobals mg → FnOk P w K mg base CX0 13 f fd ["_law_script"] (p_law K) := by
  have T := txt_of X G c
  obtain ⟨fd_l_hand, F_l_hand⟩ := c.says.def_ 34 (d := dd ("_law_hand", none) "_law_hand" "_law_hand" (top 50)) rfl
  obtain ⟨fd_l_step, F_l_step⟩ := c.says.def_ 35 (d := dd ("_law_step", none) "_law_step" "_law_step" (top 51)) rfl
  obtain ⟨fd_l_take, F_l_take⟩ := c.says.def_ 36 (d := dd ("_law_take", none) "_law_take" "_law_take" (top 52)) rfl
  obtain ⟨fd_l_draw, F_l_draw⟩ := c.says.def_ 37 (d := dd ("_law_draw", none) "_law_draw" "_law_draw" (top 53)) rfl
  obtain ⟨fd_l_names, F_l_names⟩ := c.says.def_ 39 (d := dd ("_law_names", none) "_law_names" "_law_names" (top 55)) rfl
  obtain ⟨fd_l_count, F_l_count⟩ := c.says.def_ 40 (d := dd ("_law_count", none) "_law_count" "_law_count" (top 56)) rfl
  obtain ⟨fd_l_undone, F_l_undone⟩ := c.says.def_ 41 (d := dd ("_law_undone", none) "_law_undone" "_law_undone" (top 57)) rfl
  obtain ⟨fd_l_dense_lot, F_l_dense_lot⟩ := c.says.def_ 53 (d := dd ("_law_dense_lot", none) "_law_dense_lot" "_law_dense_lot" (top 69)) rfl
  obtain ⟨fd_l_extra, F_l_extra⟩ := c.says.def_ 51 (d := dd ("_law_extra", none) "_law_extra" "_law_extra" (top 67)) rfl
  obtain ⟨fd_l_table, F_l_table⟩ := c.says.def_ 42 (d := dd ("_law_table", none) "_law_table" "_law_table" (top 58)) rfl
  obtain ⟨fd_l_greater, F_l_greater⟩ := c.says.def_ 52 (d := dd ("_law_greater", none) "_law_greater" "_law_greater" (top 68)) rfl
  obtain ⟨fd_l_as_payments, F_l_as_payments⟩ := c.says.def_ 48 (d := dd ("_law_as_payments", none) "_law_as_payments" "_law_as_payments" (top 64)) rfl
  obtain ⟨fd_l_shuffled, F_l_shuffled⟩ := c.says.def_ 38 (d := dd ("_law_shuffled", none) "_law_shuffled" "_law_shuffled" (top 54)) rfl
  obtain ⟨fd_is_name, F_is_name⟩ := c.says.def_ 1 (d := dd ("is_name", none) "is_name" "is_name" (top 16)) rfl
  obtain ⟨fd_is_integer, F_is_integer⟩ := c.says.def_ 0 (d := dd ("is_integer", none) "is_integer" "is_integer" (top 15)) rfl
  obtain ⟨fd_is_amount, F_is_amount⟩ := c.says.def_ 2 (d := dd ("is_amount", none) "is_amount" "is_amount" (top 17)) rfl
  obtain ⟨fd_Purses___init__, F_Purses___init__⟩ := c.says.def_ 12 (d := dd ("Purses", some "__init__") "__init__" "Purses.__init__" (inClass (top 28) 0)) rfl
  obtain ⟨fd_l_purses, F_l_purses⟩ := c.says.def_ 45 (d := dd ("_law_purses", none) "_law_purses" "_law_purses" (top 61)) rfl
  obtain ⟨fd_is_count, F_is_count⟩ := c.says.def_ 3 (d := dd ("is_count", none) "is_count" "is_count" (top 18)) rfl
  obtain ⟨fd_is_run, F_is_run⟩ := c.says.def_ 4 (d := dd ("is_run", none) "is_run" "is_run" (top 19)) rfl
  obtain ⟨fd_pair_of, F_pair_of⟩ := c.says.def_ 5 (d := dd ("pair_of", none) "pair_of" "pair_of" (top 22)) rfl
  obtain ⟨fd_Lot___init__, F_Lot___init__⟩ := c.says.def_ 7 (d := dd ("Lot", some "__init__") "__init__" "Lot.__init__" (inClass (top 24) 0)) rfl
  obtain ⟨fd_l_lot, F_l_lot⟩ := c.says.def_ 46 (d := dd ("_law_lot", none) "_law_lot" "_law_lot" (top 62)) rfl
  obtain ⟨fd_l_spent, F_l_spent⟩ := c.says.def_ 43 (d := dd ("_law_spent", none) "_law_spent" "_law_spent" (top 59)) rfl
  obtain ⟨fd_purses_with, F_purses_with⟩ := c.says.def_ 11 (d := dd ("purses_with", none) "purses_with" "purses_with" (top 27)) rfl
  obtain ⟨fd_Purses_entries, F_Purses_entries⟩ := c.says.def_ 14 (d := dd ("Purses", some "entries") "entries" "Purses.entries" (inClass (top 28) 2)) rfl
  obtain ⟨fd_left_by, F_left_by⟩ := c.says.def_ 27 (d := dd ("left_by", none) "left_by" "left_by" (top 40)) rfl
  obtain ⟨fd_after, F_after⟩ := c.says.def_ 31 (d := dd ("after", none) "after" "after" (top 46)) rfl
  obtain ⟨fd_Lot_entries, F_Lot_entries⟩ := c.says.def_ 8 (d := dd ("Lot", some "entries") "entries" "Lot.entries" (inClass (top 24) 1)) rfl
  obtain ⟨fd_first_payments, F_first_payments⟩ := c.says.def_ 24 (d := dd ("first_payments", none) "first_payments" "first_payments" (top 37)) rfl
  obtain ⟨fd_loads, F_loads⟩ := c.says.def_ 19 (d := dd ("loads", none) "loads" "loads" (top 32)) rfl
  obtain ⟨fd_partners, F_partners⟩ := c.says.def_ 20 (d := dd ("partners", none) "partners" "partners" (top 33)) rfl
  obtain ⟨fd_path_from, F_path_from⟩ := c.says.def_ 21 (d := dd ("path_from", none) "path_from" "path_from" (top 34)) rfl
  obtain ⟨fd_least_on, F_least_on⟩ := c.says.def_ 23 (d := dd ("least_on", none) "least_on" "least_on" (top 36)) rfl
  obtain ⟨fd_hand_over, F_hand_over⟩ := c.says.def_ 22 (d := dd ("hand_over", none) "hand_over" "hand_over" (top 35)) rfl
  obtain ⟨fd_spread_table, F_spread_table⟩ := c.says.def_ 25 (d := dd ("spread_table", none) "spread_table" "spread_table" (top 38)) rfl
  obtain ⟨fd_with_table, F_with_table⟩ := c.says.def_ 6 (d := dd ("with_table", none) "with_table" "with_table" (top 23)) rfl
  obtain ⟨fd_lot_of, F_lot_of⟩ := c.says.def_ 18 (d := dd ("lot_of", none) "lot_of" "lot_of" (top 30)) rfl
  obtain ⟨fd_Lot_players, F_Lot_players⟩ := c.says.def_ 9 (d := dd ("Lot", some "players") "players" "Lot.players" (inClass (top 24) 2)) rfl
  obtain ⟨fd_order, F_order⟩ := c.says.def_ 28 (d := dd ("order", none) "order" "order" (top 41)) rfl
  obtain ⟨fd_runs_of, F_runs_of⟩ := c.says.def_ 26 (d := dd ("runs_of", none) "runs_of" "runs_of" (top 39)) rfl
  obtain ⟨fd_decide, F_decide⟩ := c.says.def_ 29 (d := dd ("decide", none) "decide" "decide" (top 43)) rfl
  obtain ⟨fd_payments_of, F_payments_of⟩ := c.says.def_ 30 (d := dd ("payments_of", none) "payments_of" "payments_of" (top 44)) rfl
  obtain ⟨fd_settled, F_settled⟩ := c.says.def_ 32 (d := dd ("settled", none) "settled" "settled" (top 47)) rfl
  obtain ⟨fd_Purses_players, F_Purses_players⟩ := c.says.def_ 13 (d := dd ("Purses", some "players") "players" "Purses.players" (inClass (top 28) 1)) rfl
  obtain ⟨fd_Purses_total, F_Purses_total⟩ := c.says.def_ 16 (d := dd ("Purses", some "total") "total" "Purses.total" (inClass (top 28) 4)) rfl
  obtain ⟨fd_Purses_tickets, F_Purses_tickets⟩ := c.says.def_ 15 (d := dd ("Purses", some "tickets") "tickets" "Purses.tickets" (inClass (top 28) 3)) rfl
  obtain ⟨fd_leave, F_leave⟩ := c.says.def_ 33 (d := dd ("leave", none) "leave" "leave" (top 48)) rfl
  obtain ⟨fd_Purses___eq__, F_Purses___eq__⟩ := c.says.def_ 17 (d := dd ("Purses", some "__eq__") "__eq__" "Purses.__eq__" (inClass (top 28) 7)) rfl
  obtain ⟨fd_l_is_run, F_l_is_run⟩ := c.says.def_ 49 (d := dd ("_law_is_run", none) "_law_is_run" "_law_is_run" (top 65)) rfl
  obtain ⟨fd_l_pays, F_l_pays⟩ := c.says.def_ 50 (d := dd ("_law_pays", none) "_law_pays" "_law_pays" (top 66)) rfl
  obtain ⟨fd_l_is_names, F_l_is_names⟩ := c.says.def_ 47 (d := dd ("_law_is_names", none) "_law_is_names" "_law_is_names" (top 63)) rfl
  obtain ⟨fd_l_between, F_l_between⟩ := c.says.def_ 44 (d := dd ("_law_between", none) "_law_between" "_law_between" (top 60)) rfl
  obtain ⟨fd_l_right, F_l_right⟩ := c.says.def_ 55 (d := dd ("_law_right", none) "_law_right" "_law_right" (top 71)) rfl
  obtain ⟨fd_l_moved, F_l_moved⟩ := c.says.def_ 54 (d := dd ("_law_moved", none) "_law_moved" "_law_moved" (top 70)) rfl
  obtain ⟨fd_l_total_right, F_l_total_right⟩ := c.says.def_ 56 (d := dd ("_law_total_right", none) "_law_total_right" "_law_total_right" (top 72)) rfl
  obtain ⟨fd_l_poor_right, F_l_poor_right⟩ := c.says.def_ 57 (d := dd ("_law_poor_right", none) "_law_poor_right" "_law_poor_right" (top 73)) rfl
  obtain ⟨fd_law, F_law⟩ := c.says.def_ 58 (d := dd ("law", none) "law" "law" (top 74)) rfl
  have e := hfa.symm.trans (He.glo_ok X G (c.says.fact 58 (f := .glo "law") rfl))
  cases e
  have b := FunD.bindsA (ps := ["_law_script"]) F_law fun _ _ _ _ _ _ us hl => match us, hl with | [_], _ => rfl
  refine ⟨fd_law, fun s v => b s [v] rfl, fun base _ _ => ?_⟩
  have d_l_hand : Df P w K mg base CX0 1 "_law_hand" ["_law_script"] (p_hand K) := ⟨_, _, ok_l_hand F_l_hand T, He.glo_ok X G (c.says.fact 34 (f := .glo "_law_hand") rfl), F_l_hand.kp, FunD.bindsN F_l_hand fun _ _ _ _ _ _ us hl => match us, hl with | [_], _ => rfl⟩
  have d_l_step : Df P w K mg base CX0 1 "_law_step" ["_law_hand_here"] p_step := ⟨_, _, ok_l_step F_l_step T, He.glo_ok X G (c.says.fact 35 (f := .glo "_law_step") rfl), F_l_step.kp, FunD.bindsN F_l_step fun _ _ _ _ _ _ us hl => match us, hl with | [_], _ => rfl⟩
  have d_l_take : Df P w K mg base CX0 2 "_law_take" ["_law_hand_here"] p_take := ⟨_, _, ok_l_take F_l_take T d_l_step, He.glo_ok X G (c.says.fact 36 (f := .glo "_law_take") rfl), F_l_take.kp, FunD.bindsN F_l_take fun _ _ _ _ _ _ us hl => match us, hl with | [_], _ => rfl⟩
  have d_l_draw : Df P w K mg base CX0 3 "_law_draw" ["_law_hand_here", "_law_tally"] p_draw := ⟨_, _, ok_l_draw F_l_draw T d_l_step d_l_take, He.glo_ok X G (c.says.fact 37 (f := .glo "_law_draw") rfl), F_l_draw.kp, FunD.bindsN F_l_draw fun _ _ _ _ _ _ us hl => match us, hl with | [_, _], _ => rfl⟩
  have d_l_names : Df P w K mg base CX0 4 "_law_names" ["_law_hand_here", "_law_many"] p_l_names := ⟨_, _, ok_l_names F_l_names T d_l_draw, He.glo_ok X G (c.says.fact 39 (f := .glo "_law_names") rfl), F_l_names.kp, FunD.bindsN F_l_names fun _ _ _ _ _ _ us hl => match us, hl with | [_, _], _ => rfl⟩
  have d_l_count : Df P w K mg base CX0 4 "_law_count" ["_law_hand_here"] p_count := ⟨_, _, ok_l_count F_l_count T d_l_draw, He.glo_ok X G (c.says.fact 40 (f := .glo "_law_count") rfl), F_l_count.kp, FunD.bindsN F_l_count fun _ _ _ _ _ _ us hl => match us, hl with | [_], _ => rfl⟩
  have d_l_undone : Df P w K mg base CX0 5 "_law_undone" ["_law_hand_here", "_law_limit", "_law_tally"] p_undone := ⟨_, _, ok_l_undone F_l_undone T d_l_draw d_l_names d_l_count, He.glo_ok X G (c.says.fact 41 (f := .glo "_law_undone") rfl), F_l_undone.kp, FunD.bindsN F_l_undone fun _ _ _ _ _ _ us hl => match us, hl with | [_, _, _], _ => rfl⟩
  have d_l_dense_lot : Df P w K mg base CX0 5 "_law_dense_lot" ["_law_hand_here"] p_dense := ⟨_, _, ok_l_dense_lot F_l_dense_lot T d_l_draw d_l_names d_l_count, He.glo_ok X G (c.says.fact 53 (f := .glo "_law_dense_lot") rfl), F_l_dense_lot.kp, FunD.bindsN F_l_dense_lot fun _ _ _ _ _ _ us hl => match us, hl with | [_], _ => rfl⟩
  have d_l_extra : Df P w K mg base CX0 4 "_law_extra" ["_law_hand_here", "_law_tickets"] p_extra := ⟨_, _, ok_l_extra F_l_extra T d_l_draw, He.glo_ok X G (c.says.fact 51 (f := .glo "_law_extra") rfl), F_l_extra.kp, FunD.bindsN F_l_extra fun _ _ _ _ _ _ us hl => match us, hl with | [_, _], _ => rfl⟩
  have d_l_table : Df P w K mg base CX0 1 "_law_table" ["_law_items"] p_table := ⟨_, _, ok_l_table F_l_table T, He.glo_ok X G (c.says.fact 42 (f := .glo "_law_table") rfl), F_l_table.kp, FunD.bindsN F_l_table fun _ _ _ _ _ _ us hl => match us, hl with | [_], _ => rfl⟩
  have d_l_greater : Df P w K mg base CX0 4 "_law_greater" ["_law_hand_here", "_law_tickets", "_law_items"] p_greater := ⟨_, _, ok_l_greater F_l_greater T d_l_draw d_l_table, He.glo_ok X G (c.says.fact 52 (f := .glo "_law_greater") rfl), F_l_greater.kp, FunD.bindsN F_l_greater fun _ _ _ _ _ _ us hl => match us, hl with | [_, _, _], _ => rfl⟩
  have d_l_as_payments : Df P w K mg base CX0 1 "_law_as_payments" ["_law_runs"] p_as_payments := ⟨_, _, ok_l_as_payments F_l_as_payments T, He.glo_ok X G (c.says.fact 48 (f := .glo "_law_as_payments") rfl), F_l_as_payments.kp, FunD.bindsN F_l_as_payments fun _ _ _ _ _ _ us hl => match us, hl with | [_], _ => rfl⟩
  have d_l_shuffled : Df P w K mg base CX0 4 "_law_shuffled" ["_law_hand_here", "_law_some"] p_shuffled := ⟨_, _, ok_l_shuffled F_l_shuffled T d_l_draw, He.glo_ok X G (c.says.fact 38 (f := .glo "_law_shuffled") rfl), F_l_shuffled.kp, FunD.bindsN F_l_shuffled fun _ _ _ _ _ _ us hl => match us, hl with | [_, _], _ => rfl⟩
  have d_is_name : Df P w K mg base CX0 1 "is_name" ["thing"] p_is_name := ⟨_, _, ok_is_name F_is_name T, He.glo_ok X G (c.says.fact 9 (f := .glo "is_name") rfl), F_is_name.kp, FunD.bindsN F_is_name fun _ _ _ _ _ _ us hl => match us, hl with | [_], _ => rfl⟩
  have d_is_integer : Df P w K mg base CX0 1 "is_integer" ["thing"] p_is_integer := ⟨_, _, ok_is_integer F_is_integer T, He.glo_ok X G (c.says.fact 8 (f := .glo "is_integer") rfl), F_is_integer.kp, FunD.bindsN F_is_integer fun _ _ _ _ _ _ us hl => match us, hl with | [_], _ => rfl⟩
  have d_is_amount : Df P w K mg base CX0 2 "is_amount" ["thing"] p_is_amount := ⟨_, _, ok_is_amount F_is_amount T d_is_integer, He.glo_ok X G (c.says.fact 10 (f := .glo "is_amount") rfl), F_is_amount.kp, FunD.bindsN F_is_amount fun _ _ _ _ _ _ us hl => match us, hl with | [_], _ => rfl⟩
  have d_Purses : Dk P w K mg base 3 "Purses" (cP K) ["self", "items"] (p_Purses_init K) := ⟨_, _, ok_Purses___init__ F_Purses___init__ T d_is_name d_is_amount, T.mkP, T.mgP, FunD.bindsN F_Purses___init__ fun _ _ _ _ _ _ us hl => match us, hl with | [_, _], _ => rfl⟩
  have d_l_purses : Df P w K mg base CX0 5 "_law_purses" ["_law_hand_here", "_law_tickets"] (p_lpurses K) := ⟨_, _, ok_l_purses F_l_purses T d_l_shuffled d_Purses, He.glo_ok X G (c.says.fact 45 (f := .glo "_law_purses") rfl), F_l_purses.kp, FunD.bindsN F_l_purses fun _ _ _ _ _ _ us hl => match us, hl with | [_, _], _ => rfl⟩
  have d_is_count : Df P w K mg base CX0 2 "is_count" ["thing"] p_is_count := ⟨_, _, ok_is_count F_is_count T d_is_integer, He.glo_ok X G (c.says.fact 11 (f := .glo "is_count") rfl), F_is_count.kp, FunD.bindsN F_is_count fun _ _ _ _ _ _ us hl => match us, hl with | [_], _ => rfl⟩
  have d_is_run : Df P w K mg base CX0 3 "is_run" ["thing"] p_is_run := ⟨_, _, ok_is_run F_is_run T d_is_name d_is_count, He.glo_ok X G (c.says.fact 12 (f := .glo "is_run") rfl), F_is_run.kp, FunD.bindsN F_is_run fun _ _ _ _ _ _ us hl => match us, hl with | [_], _ => rfl⟩
  have d_pair_of : Df P w K mg base CX0 1 "pair_of" ["one", "other"] p_pair_of := ⟨_, _, ok_pair_of F_pair_of T, He.glo_ok X G (c.says.fact 13 (f := .glo "pair_of") rfl), F_pair_of.kp, FunD.bindsN F_pair_of fun _ _ _ _ _ _ us hl => match us, hl with | [_, _], _ => rfl⟩
  have d_Lot : Dk P w K mg base 4 "Lot" (cL K) ["self", "items"] (p_Lot_init K) := ⟨_, _, ok_Lot___init__ F_Lot___init__ T d_is_run d_pair_of, T.mkL, T.mgL, FunD.bindsN F_Lot___init__ fun _ _ _ _ _ _ us hl => match us, hl with | [_, _], _ => rfl⟩
  have d_l_lot : Df P w K mg base CX0 6 "_law_lot" ["_law_hand_here", "_law_items"] (p_llot K) := ⟨_, _, ok_l_lot F_l_lot T d_l_shuffled d_l_draw d_Lot, He.glo_ok X G (c.says.fact 46 (f := .glo "_law_lot") rfl), F_l_lot.kp, FunD.bindsN F_l_lot fun _ _ _ _ _ _ us hl => match us, hl with | [_, _], _ => rfl⟩
  have d_l_spent : Df P w K mg base CX0 1 "_law_spent" ["_law_names_here", "_law_payments"] p_lspent := ⟨_, _, ok_l_spent F_l_spent T, He.glo_ok X G (c.says.fact 43 (f := .glo "_law_spent") rfl), F_l_spent.kp, FunD.bindsN F_l_spent fun _ _ _ _ _ _ us hl => match us, hl with | [_, _], _ => rfl⟩
  have d_purses_with : Df P w K mg base CX0 5 "purses_with" ["table"] (p_purses_with K) := ⟨_, _, ok_purses_with F_purses_with T d_Purses, He.glo_ok X G (c.says.fact 16 (f := .glo "purses_with") rfl), F_purses_with.kp, FunD.bindsN F_purses_with fun _ _ _ _ _ _ us hl => match us, hl with | [_], _ => rfl⟩
  have d_Purses_entries : Dm P w K mg base 1 (cP K) "entries" ["self"] (p_entries K) := ⟨T.clP, _, _, ok_Purses_entries F_Purses_entries T, He.meth_ok (c.says.fact 91 (f := .meth "Purses" "entries") rfl), FunD.bindsN F_Purses_entries fun _ _ _ _ _ _ us hl => match us, hl with | [_], _ => rfl⟩
  have d_left_by : Df P w K mg base CX0 2 "left_by" ["purses", "payments"] (p_left_by K) := ⟨_, _, ok_left_by F_left_by T d_Purses_entries, He.glo_ok X G (c.says.fact 27 (f := .glo "left_by") rfl), F_left_by.kp, FunD.bindsN F_left_by fun _ _ _ _ _ _ us hl => match us, hl with | [_, _], _ => rfl⟩
  have d_after : Df P w K mg base CX0 6 "after" ["purses", "payments"] (p_after K) := ⟨_, _, ok_after F_after T d_purses_with d_left_by, He.glo_ok X G (c.says.fact 31 (f := .glo "after") rfl), F_after.kp, FunD.bindsN F_after fun _ _ _ _ _ _ us hl => match us, hl with | [_, _], _ => rfl⟩
  have d_Lot_entries : Dm P w K mg base 1 (cL K) "entries" ["self"] (p_Lot_entries K) := ⟨T.clL, _, _, ok_Lot_entries F_Lot_entries T, He.meth_ok (c.says.fact 85 (f := .meth "Lot" "entries") rfl), FunD.bindsN F_Lot_entries fun _ _ _ _ _ _ us hl => match us, hl with | [_], _ => rfl⟩
  have d_first_payments : Df P w K mg base CX0 2 "first_payments" ["tickets", "lot"] (p_first K) := ⟨_, _, ok_first_payments F_first_payments T d_Lot_entries, He.glo_ok X G (c.says.fact 24 (f := .glo "first_payments") rfl), F_first_payments.kp, FunD.bindsN F_first_payments fun _ _ _ _ _ _ us hl => match us, hl with | [_, _], _ => rfl⟩
  have d_loads : Df P w K mg base CX0 1 "loads" ["players", "paid"] p_loads := ⟨_, _, ok_loads F_loads T, He.glo_ok X G (c.says.fact 19 (f := .glo "loads") rfl), F_loads.kp, FunD.bindsN F_loads fun _ _ _ _ _ _ us hl => match us, hl with | [_, _], _ => rfl⟩
  have d_partners : Df P w K mg base CX0 1 "partners" ["paid"] p_partners := ⟨_, _, ok_partners F_partners T, He.glo_ok X G (c.says.fact 20 (f := .glo "partners") rfl), F_partners.kp, FunD.bindsN F_partners fun _ _ _ _ _ _ us hl => match us, hl with | [_], _ => rfl⟩
  have d_path_from : Df P w K mg base CX0 1 "path_from" ["paid", "links", "sources", "is_goal"] p_path_from := ⟨_, _, ok_path_from F_path_from T, He.glo_ok X G (c.says.fact 21 (f := .glo "path_from") rfl), F_path_from.kp, FunD.bindsN F_path_from fun _ _ _ _ _ _ us hl => match us, hl with | [_, _, _, _], _ => rfl⟩
  have d_least_on : Df P w K mg base CX0 1 "least_on" ["paid", "path"] p_least_on := ⟨_, _, ok_least_on F_least_on T, He.glo_ok X G (c.says.fact 23 (f := .glo "least_on") rfl), F_least_on.kp, FunD.bindsN F_least_on fun _ _ _ _ _ _ us hl => match us, hl with | [_, _], _ => rfl⟩
  have d_hand_over : Df P w K mg base CX0 1 "hand_over" ["paid", "path", "many"] p_hand_over := ⟨_, _, ok_hand_over F_hand_over T, He.glo_ok X G (c.says.fact 22 (f := .glo "hand_over") rfl), F_hand_over.kp, FunD.bindsN F_hand_over fun _ _ _ _ _ _ us hl => match us, hl with | [_, _, _], _ => rfl⟩
  have d_spread_table : Df P w K mg base CX0 3 "spread_table" ["tickets", "lot"] (p_spread K) := ⟨_, _, ok_spread_table F_spread_table T d_first_payments d_loads d_partners d_path_from d_least_on d_hand_over, He.glo_ok X G (c.says.fact 25 (f := .glo "spread_table") rfl), F_spread_table.kp, FunD.bindsN F_spread_table fun _ _ _ _ _ _ us hl => match us, hl with | [_, _], _ => rfl⟩
  have d_with_table : Df P w K mg base CX0 6 "with_table" ["table"] (p_with_table K) := ⟨_, _, ok_with_table F_with_table T d_Lot, He.glo_ok X G (c.says.fact 14 (f := .glo "with_table") rfl), F_with_table.kp, FunD.bindsN F_with_table fun _ _ _ _ _ _ us hl => match us, hl with | [_], _ => rfl⟩
  have d_lot_of : Df P w K mg base CX0 7 "lot_of" ["timetable"] (p_lot_of K) := ⟨_, _, ok_lot_of F_lot_of T d_pair_of d_with_table, He.glo_ok X G (c.says.fact 18 (f := .glo "lot_of") rfl), F_lot_of.kp, FunD.bindsN F_lot_of fun _ _ _ _ _ _ us hl => match us, hl with | [_], _ => rfl⟩
  have d_Lot_players : Dm P w K mg base 1 (cL K) "players" ["self"] (p_Lot_players K) := ⟨T.clL, _, _, ok_Lot_players F_Lot_players T, He.meth_ok (c.says.fact 86 (f := .meth "Lot" "players") rfl), FunD.bindsN F_Lot_players fun _ _ _ _ _ _ us hl => match us, hl with | [_], _ => rfl⟩
  have d_order : Df P w K mg base CX0 8 "order" ["purses", "payments"] (p_order K) := ⟨_, _, ok_order F_order T d_left_by d_lot_of d_Lot_players, He.glo_ok X G (c.says.fact 28 (f := .glo "order") rfl), F_order.kp, FunD.bindsN F_order fun _ _ _ _ _ _ us hl => match us, hl with | [_, _], _ => rfl⟩
  have d_runs_of : Df P w K mg base CX0 1 "runs_of" ["paid"] p_runs_of := ⟨_, _, ok_runs_of F_runs_of T, He.glo_ok X G (c.says.fact 26 (f := .glo "runs_of") rfl), F_runs_of.kp, FunD.bindsN F_runs_of fun _ _ _ _ _ _ us hl => match us, hl with | [_], _ => rfl⟩
  have d_decide : Df P w K mg base CX0 9 "decide" ["purses", "lot"] (p_decide K) := ⟨_, _, ok_decide F_decide T d_spread_table d_order d_runs_of d_Purses_entries, He.glo_ok X G (c.says.fact 29 (f := .glo "decide") rfl), F_decide.kp, FunD.bindsN F_decide fun _ _ _ _ _ _ us hl => match us, hl with | [_, _], _ => rfl⟩
  have d_payments_of : Df P w K mg base (L2.CX P w) 10 "payments_of" ["purses", "lot"] (p_pay K) := ⟨_, _, ok_payments_of F_payments_of T d_decide d_spread_table d_Purses_entries, He.glo_ok X G (c.says.fact 30 (f := .glo "payments_of") rfl), F_payments_of.kp, FunD.bindsN F_payments_of fun _ _ _ _ _ _ us hl => match us, hl with | [_, _], _ => rfl⟩
  have d_settled : Df P w K mg base CX0 2 "settled" ["paid", "gaps"] p_settled := ⟨_, _, ok_settled F_settled T d_partners d_path_from d_least_on d_hand_over, He.glo_ok X G (c.says.fact 32 (f := .glo "settled") rfl), F_settled.kp, FunD.bindsN F_settled fun _ _ _ _ _ _ us hl => match us, hl with | [_, _], _ => rfl⟩
  have d_Purses_players : Dm P w K mg base 1 (cP K) "players" ["self"] (p_players K) := ⟨T.clP, _, _, ok_Purses_players F_Purses_players T, He.meth_ok (c.says.fact 92 (f := .meth "Purses" "players") rfl), FunD.bindsN F_Purses_players fun _ _ _ _ _ _ us hl => match us, hl with | [_], _ => rfl⟩
  have d_Purses_total : Dm P w K mg base 1 (cP K) "total" ["self", "players"] (p_total K) := ⟨T.clP, _, _, ok_Purses_total F_Purses_total T, He.meth_ok (c.says.fact 94 (f := .meth "Purses" "total") rfl), FunD.bindsN F_Purses_total fun _ _ _ _ _ _ us hl => match us, hl with | [_, _], _ => rfl⟩
  have d_Purses_tickets : Dm P w K mg base 1 (cP K) "tickets" ["self", "player"] (p_tickets K) := ⟨T.clP, _, _, ok_Purses_tickets F_Purses_tickets T, He.meth_ok (c.says.fact 93 (f := .meth "Purses" "tickets") rfl), FunD.bindsN F_Purses_tickets fun _ _ _ _ _ _ us hl => match us, hl with | [_, _], _ => rfl⟩
  have d_leave : Df P w K mg base (L2.CX P w) 11 "leave" ["purses", "lot", "left"] (p_leave K) := ⟨_, _, ok_leave F_leave T d_payments_of d_settled d_runs_of d_Purses_players d_Purses_total d_Purses_tickets, He.glo_ok X G (c.says.fact 33 (f := .glo "leave") rfl), F_leave.kp, FunD.bindsN F_leave fun _ _ _ _ _ _ us hl => match us, hl with | [_, _, _], _ => rfl⟩
  have d_Purses___eq__ : Dm P w K mg base 1 (cP K) "__eq__" ["self", "other"] (p_eqP K) := ⟨T.clP, _, _, ok_Purses___eq__ F_Purses___eq__ T, He.meth_ok (c.says.fact 95 (f := .meth "Purses" "__eq__") rfl), FunD.bindsN F_Purses___eq__ fun _ _ _ _ _ _ us hl => match us, hl with | [_, _], _ => rfl⟩
  have d_l_is_run : Df P w K mg base CX0 1 "_law_is_run" ["_law_thing"] p_l_is_run := ⟨_, _, ok_l_is_run F_l_is_run T, He.glo_ok X G (c.says.fact 49 (f := .glo "_law_is_run") rfl), F_l_is_run.kp, FunD.bindsN F_l_is_run fun _ _ _ _ _ _ us hl => match us, hl with | [_], _ => rfl⟩
  have d_l_pays : Df P w K mg base CX0 2 "_law_pays" ["_law_items", "_law_thing"] p_l_pays := ⟨_, _, ok_l_pays F_l_pays T d_l_is_run d_l_table, He.glo_ok X G (c.says.fact 50 (f := .glo "_law_pays") rfl), F_l_pays.kp, FunD.bindsN F_l_pays fun _ _ _ _ _ _ us hl => match us, hl with | [_, _], _ => rfl⟩
  have d_l_is_names : Df P w K mg base CX0 1 "_law_is_names" ["_law_thing", "_law_names_here"] p_is_names := ⟨_, _, ok_l_is_names F_l_is_names T, He.glo_ok X G (c.says.fact 47 (f := .glo "_law_is_names") rfl), F_l_is_names.kp, FunD.bindsN F_l_is_names fun _ _ _ _ _ _ us hl => match us, hl with | [_, _], _ => rfl⟩
  have d_l_between : Df P w K mg base CX0 1 "_law_between" ["_law_table_here", "_law_some"] p_between := ⟨_, _, ok_l_between F_l_between T, He.glo_ok X G (c.says.fact 44 (f := .glo "_law_between") rfl), F_l_between.kp, FunD.bindsN F_l_between fun _ _ _ _ _ _ us hl => match us, hl with | [_, _], _ => rfl⟩
  have d_l_right : Df P w K mg base CX0 3 "_law_right" ["_law_tickets", "_law_runs", "_law_here", "_law_found"] p_right := ⟨_, _, ok_l_right F_l_right T d_l_pays d_l_spent d_l_is_names d_l_between d_l_table, He.glo_ok X G (c.says.fact 55 (f := .glo "_law_right") rfl), F_l_right.kp, FunD.bindsN F_l_right fun _ _ _ _ _ _ us hl => match us, hl with | [_, _, _, _], _ => rfl⟩
  have d_l_moved : Df P w K mg base CX0 4 "_law_moved" ["_law_hand_here", "_law_here"] p_moved := ⟨_, _, ok_l_moved F_l_moved T d_l_draw, He.glo_ok X G (c.says.fact 54 (f := .glo "_law_moved") rfl), F_l_moved.kp, FunD.bindsN F_l_moved fun _ _ _ _ _ _ us hl => match us, hl with | [_, _], _ => rfl⟩
  have d_l_total_right : Df P w K mg base CX0 12 "_law_total_right" ["_law_hand_here", "_law_purses_here", "_law_lot_here", "_law_here", "_law_number"] (p_total_right K) := ⟨_, _, ok_l_total_right F_l_total_right T d_l_draw d_l_purses d_leave, He.glo_ok X G (c.says.fact 56 (f := .glo "_law_total_right") rfl), F_l_total_right.kp, FunD.bindsN F_l_total_right fun _ _ _ _ _ _ us hl => match us, hl with | [_, _, _, _, _], _ => rfl⟩
  have d_l_poor_right : Df P w K mg base CX0 12 "_law_poor_right" ["_law_hand_here", "_law_tickets", "_law_lot_here", "_law_here"] (p_poor_right K) := ⟨_, _, ok_l_poor_right F_l_poor_right T d_l_draw d_l_purses d_leave d_Lot_players, He.glo_ok X G (c.says.fact 57 (f := .glo "_law_poor_right") rfl), F_l_poor_right.kp, FunD.bindsN F_l_poor_right fun _ _ _ _ _ _ us hl => match us, hl with | [_, _, _, _], _ => rfl⟩
  exact ok_law F_law T d_l_hand d_l_draw d_l_undone d_l_dense_lot d_l_extra d_l_greater d_l_as_payments d_l_purses d_l_lot d_l_spent d_after d_leave d_Purses___eq__ d_l_right d_l_moved d_l_total_right d_l_poor_right
end
end Ep
open PySem PySem.W PySem.Calls PyProof.Rows
theorem PySem.Challenge.cw_eitherpays_k72_whole_leave_great_holds : PySem.Challenge.rw_eitherpays_k72_whole_leave_great.Holds := by
  w_on; o_law
  refine HandSHeadRun.head_any (r := OpenLaw.row PySem.Challenge.rw_eitherpays_k72_whole_leave_great) (q := view (OpenLaw.row PySem.Challenge.rw_eitherpays_k72_whole_leave_great).prog [74]) (H := Ep.hk) (ob := Ep.ob) (M := 6000) (loose := Ep.loose) (d := HandSHeadRun.topDef (OpenLaw.row PySem.Challenge.rw_eitherpays_k72_whole_leave_great).prog 74) (kwd := []) Ep.ob_eq
    (by kernel_rfl) (fun s => by kernel_rfl) Ep.run (by kernel_rfl) (by kernel_rfl) (by kernel_rfl) (by rfl) (by first | assumption | decide +kernel) (by decide +kernel) ⟨rfl, rfl, rfl, rfl, rfl, by decide +kernel⟩ ?hw ?hc
  case hw => w_witness2
  case hc =>
    refine L2.walk_ofE (l := PySem.Challenge.rw_eitherpays_k72_whole_leave_great) (n := 63) (k := 13) (x := "_law_script") (CX := L2.CX0) rfl (by decide) (by kernel_rfl) ⟨rfl, by decide, by decide⟩ ?F (fun _ _ _ _ z => z)
    intro w mg fa h Y G hmg0
    obtain ⟨K, KX, c⟩ := Y
    have hmg : mg ("law" : PySem.Str) = some (.ref fa) := by
      have e : (HandSHeadRun.topDef (OpenLaw.row PySem.Challenge.rw_eitherpays_k72_whole_leave_great).prog 74).name = ("law" : PySem.Str) := by kernel_rfl
      rw [← e]
      exact hmg0
    obtain ⟨fd, hb, hF⟩ := Ep.facts (P := (PySem.Challenge.rw_eitherpays_k72_whole_leave_great).prog) (w := w) KX G hmg c
    exact ⟨K, fd, Ep.p_law K, KX, hb, fun H a ns hl _ hS => ⟨a, ns, rfl, hS, fun _ => rfl⟩, hF⟩

