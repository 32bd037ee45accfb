import PyProof.Rows.All
import Wide.All
import OpenK.AllK
import Wide.FinOn
import KE.KStateDown
import HandS.Base
import HandS.Call
import HandS.List
import HandS.Dict
import HandS.More
import HandS.Exc
import HandS.Defaults
import HandS.Words
import HandS.ForMost
import HandS.Head0
import HandS.Head1
import HandS.Head2
import HandS.HeadEnd
import HandS.HeadHook1
import HandS.HeadHook2
import HandS.HeadHook3
import HandS.ExcField
import HandS.ForExc
import HandS.Deep
import HandS.IsInst
import HandS.HotCalls
import HandS.ExcIs
import HandS.TryMany
import HandS.ExcCtx
import HandS.SuiteRaise
import HandS.TupAny
import HandS.ExcValue
import HandS.Wide
import HandS.Style
import KE.DataFind
import KE.KExcIs
import HandS.Strs
import HandS.SetFor
import HandS.SetBool
import KE.SortData
import KE.KRevSl
import HandS.Conv
import KE.DataMinMax
import HandS.DictTup
import PyProof.DictMoreH
import HandS.Iter
import PyProof.DictUpdate
import HandS.DictComp
import HandS.Finally
import HandS.Flow
import KE.KDictCopyH
import HandS.Zip
import HandS.Text
import HandS.TupLe
import PyProof.DictFindH
import PyProof.Rows.TupTab
import HandS.TupLen
import HandS.RaiseMore
import HandS.ExcInit
import KE.GoesEnum
import KE.KIntText
import HandS.Ends
import PyProof.ReprRoads
import PyProof.StrLawsIn
import PySem.Challenge.RW_treeright_k82_lines_and_books_as_texts
set_option Elab.async false
set_option linter.all false
set_option autoImplicit false
set_option maxRecDepth 100000
set_option maxHeartbeats 2000000
/-! the head by kernel runs, each of which tells a part of what the top leaves: facts of a Hook, told part by part -/
namespace DL
end DL
namespace DH
open PySem PySem.Spec PyProof.Rows L2 He HandSHeadRun
abbrev FB : Type := PySem.W.Frag → Bool
/-! ### a def as a datum: where it stands, its names, its statement -/
structure DD where
  at_ : Str × Option Str
  name : Str
  qual : Str
  st : Stmt
abbrev dg (x : Str) (s : Stmt) : DD := ⟨(x, none), x, x, s⟩
abbrev dm (C m q : Str) (s : Stmt) : DD := ⟨(C, some m), m, q, s⟩
def DD.fn (d : DD) : FnD := ⟨d.at_, d.name, d.qual, defArgs d.st, defBody d.st, defScope d.st⟩
def DD.ok (K : PySem.W.Frag) (d : DD) : Bool := (Fa.code d.at_ d.qual).ok K && match d.at_.2 with
  | none => (Fa.glo d.at_.1).ok K && (Fa.keep d.at_.1).ok K
  | some m => (Fa.meth d.at_.1 m).ok K
abbrev AlH : Type := Bool × Bool × List FnV × List (Option (List (Option (Str × Int))))
def kA (fa : List Fa) (xs : List FB) (K : PySem.W.Frag) : Bool := (fa.all fun f => f.ok K) && xs.all fun f => f K
def kD (dd : List DD) (K : PySem.W.Frag) : Bool := dd.all fun d => d.ok K
def kO (dd : List DD) (K : PySem.W.Frag) : List FnV := dd.map fun d => fnObs K d.at_
def kT (ts : List Tab) (K : PySem.W.Frag) : List (Option (List (Option (Str × Int)))) := ts.map fun t => dicW K (t.1 K)
def vO (dd : List DD) : List FnV := dd.map fun d => d.fn.val
def vT (ts : List Tab) (w : World) : List (Option (List (Option (Str × Int)))) := ts.map fun t => some (keysIn w.params t.2)
structure Facts where
  fa : List Fa
  xs : List FB
  dd : List DD
  ts : List Tab
def obsH (F : Facts) (K : PySem.W.Frag) : AlH := (kA F.fa F.xs K, kD F.dd K, kO F.dd K, kT F.ts K)
def valH (F : Facts) (w : World) : AlH := (true, true, vO F.dd, vT F.ts w)
def obsHG (as : List Addr) (F : Facts) (g : Addr → Option Obj) : AlH := obsH F (frG g as)
def SaysH (F : Facts) (w : World) (K : PySem.W.Frag) : Prop := obsH F K = valH F w
def hookH (as : List Addr) (F : Facts) : PySem.W.Hook where
  α := AlH
  obs := fun s => obsHG as F s.heap.get?
  val := fun w => valH F w
  says := fun w h => ∃ K : PySem.W.Frag, K.In h ∧ SaysH F w K
  of := fun _ _ e => ⟨_, frG_in, e⟩
  keeps := fun _ _ _ ⟨K, hK, c⟩ k => ⟨K, PySem.W.Frag.In.keeps hK k, c⟩
theorem obsHG_eq {as : List Addr} {F : Facts} {g : Addr → Option Obj} {s : Shared} (h : ∀ a, g a = s.heap.get? a) : obsHG as F g = (hookH as F).obs s := by
  have e : g = s.heap.get? := funext h
  rw [e] <;> rfl
section
variable {F : Facts} {w : World} {K : PySem.W.Frag}
theorem SaysH.a (c : SaysH F w K) (i : Nat) {f : Fa} (h : F.fa[i]? = some f := by rfl) : f.ok K = true :=
  List.all_eq_true.mp (ba (show kA F.fa F.xs K = true from congrArg (fun z : AlH => z.1) c)).1 f (List.mem_of_getElem? h)
theorem SaysH.x (c : SaysH F w K) (i : Nat) {f : FB} (h : F.xs[i]? = some f := by rfl) : f K = true :=
  List.all_eq_true.mp (ba (show kA F.fa F.xs K = true from congrArg (fun z : AlH => z.1) c)).2 f (List.mem_of_getElem? h)
theorem SaysH.d (c : SaysH F w K) (i : Nat) {d : DD} (h : F.dd[i]? = some d) : d.ok K = true ∧ fnObs K d.at_ = d.fn.val := by
  refine ⟨List.all_eq_true.mp (show kD F.dd K = true from congrArg (fun z : AlH => z.2.1) c) d (List.mem_of_getElem? h), ?_⟩
  have e : kO F.dd K = vO F.dd := congrArg (fun z : AlH => z.2.2.1) c
  have e2 : (kO F.dd K)[i]? = (vO F.dd)[i]? := by rw [e]
  unfold kO vO at e2
  rw [List.getElem?_map, List.getElem?_map, h] at e2
  exact Option.some.inj e2
theorem fun_at {d : DD} (e : fnObs K d.at_ = d.fn.val) (c : (Fa.code d.at_ d.qual).ok K = true) (k : PySem.W.keepIn K (.ref (fAd K d.at_)) = true) : ∃ fd, Fun K d.name d.qual d.st (fAd K d.at_) fd := by
  obtain ⟨oc, od, osl, kV, doc, pm, an, cdv, ct, l, hc⟩ := fn_ok (d := d.fn) e c
  exact ⟨_, fun_mk (st := d.st) l hc k⟩
theorem SaysH.g (c : SaysH F w K) {h : Heap} {mg : Str → Option Value} (X : K.In h) (G : h.Ns mainGlobals mg) (i : Nat) {x : Str} {st : Stmt} (hi : F.dd[i]? = some (dg x st) := by rfl) : ∃ fd, Fun K x x st (ga K x) fd ∧ mg x = some (.ref (ga K x)) := by
  obtain ⟨c1, c2⟩ := c.d i hi
  obtain ⟨k1, k2⟩ := ba c1
  obtain ⟨k3, k4⟩ := ba (show ((Fa.glo x).ok K && (Fa.keep x).ok K) = true from k2)
  obtain ⟨fd, F1⟩ := fun_at c2 k1 (show PySem.W.keepIn K (.ref (ga K x)) = true from keep_ok k4)
  exact ⟨fd, F1, glo_ok X G k3⟩
theorem SaysH.m (c : SaysH F w K) (i : Nat) {C m q : Str} {st : Stmt} (hi : F.dd[i]? = some (dm C m q st) := by rfl) : ∃ fd, Fun K m q st (ma K (ga K C) m) fd ∧ Meth K (ga K C) m (ma K (ga K C) m) := by
  obtain ⟨c1, c2⟩ := c.d i hi
  obtain ⟨k1, k2⟩ := ba c1
  have M : Meth K (ga K C) m (ma K (ga K C) m) := meth_ok (show (Fa.meth C m).ok K = true from k2)
  obtain ⟨fd, F1⟩ := fun_at c2 k1 (show PySem.W.keepIn K (.ref (ma K (ga K C) m)) = true from M.kp)
  exact ⟨fd, F1, M⟩
theorem SaysH.t (c : SaysH F w K) (i : Nat) {t : Tab} (h : F.ts[i]? = some t) : ∃ es n, KDict K w (t.1 K) es n := by
  have e : kT F.ts K = vT F.ts w := congrArg (fun z : AlH => z.2.2.2) c
  have e2 : (kT F.ts K)[i]? = (vT F.ts w)[i]? := by rw [e]
  unfold kT vT at e2
  rw [List.getElem?_map, List.getElem?_map, h] at e2
  exact dicW_ok (Option.some.inj e2)
end
/-- the whole numbers of a written dict -/
def tabI : List DictEntry → List (Str × Int) → Bool
  | [], [] => true
  | e :: r, (x, i) :: t => Value.isStrOf x e.key && ((match e.val with
    | .int j _ => i == j
    | _ => false) && tabI r t)
  | _, _ => false
def tabB (K : PySem.W.Frag) (a : Addr) (tbl : List (Str × Int)) : Bool := match K.lookup a with
  | some ⟨_, _, .dict es _, _⟩ => tabI es.toList tbl
  | _ => false
theorem tabB_ok0 {K : PySem.W.Frag} {a : Addr} {tbl : List (Str × Int)} {c : Value} {dd : Option Addr} {es : Array DictEntry} {n : Nat} {sl : Array (Option Value)} (h : tabB K a tbl = true) (e : K.lookup a = some ⟨c, dd, .dict es n, sl⟩) : tabI es.toList tbl = true := by
  unfold tabB at h
  rw [e] at h; exact h
/-- texts in a written tuple -/
def strsB : List Value → List Str → Bool
  | [], [] => true
  | v :: r, x :: t => Value.isStrOf x v && strsB r t
  | _, _ => false
/-- the written object at a is this tuple of texts -/
def tupB (K : PySem.W.Frag) (a : Addr) (ts : List Str) : Bool := match K.lookup a with
  | some o => decide (o.cls = .type "tuple") && match o.data with
    | .seq its _ => strsB its.toList ts && decide (ts.length ≤ 1000)
    | _ => false
  | none => false
/-- the tuples of texts of a written dict -/
def tabTI (K : PySem.W.Frag) : List DictEntry → List (Str × List Str) → Bool
  | [], [] => true
  | e :: r, (x, ts) :: t => Value.isStrOf x e.key && ((match e.val with
    | .ref b => tupB K b ts && ts.all PyData.strOk
    | _ => false) && tabTI K r t)
  | _, _ => false
def tabTB (K : PySem.W.Frag) (a : Addr) (tbl : List (Str × List Str)) : Bool := match K.lookup a with
  | some ⟨_, _, .dict es _, _⟩ => tabTI K es.toList tbl
  | _ => false
theorem tabTB_ok {K : PySem.W.Frag} {a : Addr} {tbl : List (Str × List Str)} {c : Value} {dd : Option Addr} {es : Array DictEntry} {n : Nat} {sl : Array (Option Value)} (h : tabTB K a tbl = true) (e : K.lookup a = some ⟨c, dd, .dict es n, sl⟩) : tabTI K es.toList tbl = true := by
  unfold tabTB at h
  rw [e] at h; exact h
/-- the classes of errors, told at once: the first is the one above all -/
def errB (K : PySem.W.Frag) (Cs : List Addr) : Bool :=
  (Cs.all fun D => PySem.W.findIn K (.ref D) "__getattribute__" == some (some (.builtin "BaseException.__getattribute__")) && (PySem.W.findIn K (.ref D) "__getattr__" == some none && (PySem.W.subIn K (.ref D) (.type "BaseException") == some true &&
    (PySem.W.hasDictIn K D && (PySem.W.findIn K (.ref D) "__class__" == some (some (.builtin "object.__class__")) && (PySem.W.specialIn K (.builtin "object.__class__") "__get__" == some (some (.builtin "getset_descriptor.__get__")) &&
    (PySem.W.takesIn K (.builtin "object.__class__") == some true && (PySem.W.mroIn K D (.type "object") == some true && (PySem.W.subIn K (.ref D) (.type "ValueError") == some true && ((PySem.W.clsIn K D).isSome && PySem.W.typeIn K (.ref D) == some (.type "type"))))))))))) &&
  (List.range Cs.length).all fun n => (List.range Cs.length).all fun m => PySem.W.subIn K (.ref (Cs.getD n 0)) (.ref (Cs.getD m 0)) == some (n == m || m == 0)
/-- what isinstance asks of a class -/
def clsB (x : Str) (K : PySem.W.Frag) : Bool := eqO (PySem.W.findIn K (.ref (ga K x)) "__class__") (some (some (.builtin "object.__class__"))) && (decide (PySem.W.specialIn K (.builtin "object.__class__") "__get__" = some (some (.builtin "getset_descriptor.__get__"))) &&
  (decide (PySem.W.takesIn K (.builtin "object.__class__") = some true) && decide (PySem.W.mroIn K (ga K x) (.type "object") = some true)))
theorem clsB_ok {x : Str} {K : PySem.W.Frag} (c : clsB x K = true) : PySem.W.findIn K (.ref (ga K x)) "__class__" = some (some (.builtin "object.__class__")) ∧ PySem.W.specialIn K (.builtin "object.__class__") "__get__" = some (some (.builtin "getset_descriptor.__get__")) ∧
    PySem.W.takesIn K (.builtin "object.__class__") = some true ∧ PySem.W.mroIn K (ga K x) (.type "object") = some true := by
  obtain ⟨c1, c⟩ := ba c
  obtain ⟨c2, c⟩ := ba c
  obtain ⟨c3, c4⟩ := ba c
  exact ⟨eqO_ok c1, of_decide_eq_true c2, of_decide_eq_true c3, of_decide_eq_true c4⟩
/-- an own error class x over y whose __init__ is its own and keeps a line -/
def oexB (x y : Str) (K : PySem.W.Frag) : Bool := (match K.lookup (ga K x) with
  | some ⟨.type "type", _, .cls cd, sl⟩ => (match cd.mro, sl.toList with
    | .ref C' :: bm, [_, _, _, _, some (.builtin n), _] => decide (C' = ga K x) && (decide (n = "ValueError.__new__") && (cd.hasDict && (!cd.hasDel && PySem.HandSPX.refsVE bm)))
    | _, _ => false)
  | _ => false) && (eqO (PySem.W.findIn K (.ref (ga K x)) "__setattr__") (some (some (.builtin "object.__setattr__"))) && (decide (PySem.W.subIn K (.ref (ga K x)) (.type "BaseException") = some true) &&
  (decide (PySem.W.typeIn K (.ref (ga K x)) = some (.type "type")) && (PySem.W.keepIn K (.ref (ga K x)) && (eqO (PySem.W.findIn K (.ref (ga K x)) "line") (some none) && (xfB K (ga K x) &&
  (eqO (PySem.W.specialIn K (.ref (ga K y)) "__getattribute__") (some (some (.builtin "type.__getattribute__"))) && (PySem.W.readsIn K (ga K y) (.type "type") &&
  (match PySem.W.findCls K (.ref (ga K y)) (.type "type") "__init__" with
    | some (.val (.builtin n)) => decide (n = "ValueError.__init__")
    | _ => false)))))))))
/-! ### the run, told by parts -/
def Tells (r : PySem.W.OpenRow) (M : Nat) (w : World) {α : Type} (f : PySem.W.SharedT → α) (v : α) : Prop := ∀ os : OsState, (endF (stepQ (denQ tabQ) r.prog w) M r.prog w os).map f = some v
theorem Tells.pair {r : PySem.W.OpenRow} {M : Nat} {w : World} {α β : Type} {f : PySem.W.SharedT → α} {g : PySem.W.SharedT → β} {a : α} {b : β} (x : Tells r M w f a) (y : Tells r M w g b) : Tells r M w (fun s => (f s, g s)) (a, b) := fun os => by
  have p := x os
  have q := y os
  obtain ⟨s, es, ea⟩ := Option.map_eq_some_iff.mp p
  rw [es] at q ⊢
  exact congrArg some (Prod.ext ea (Option.some.inj q))
theorem Tells.map {r : PySem.W.OpenRow} {M : Nat} {w : World} {α β : Type} {f : PySem.W.SharedT → α} {a : α} (x : Tells r M w f a) (g : α → β) : Tells r M w (fun s => g (f s)) (g a) := fun os => by
  obtain ⟨s, es, ea⟩ := Option.map_eq_some_iff.mp (x os)
  rw [es]
  exact congrArg some (congrArg g ea)
/-- the part that a head needs whatever the facts are -/
noncomputable abbrev baseF (r : PySem.W.OpenRow) (q : Program) (loose : List Str) (w : World) (s : PySem.W.SharedT) := (looksF r.prog (PySem.W.boot_heap w.params) s.abs, seenQ q loose (importedModules r.prog.main.body) (fun s => PySem.W.xlAt q [] s && PySem.W.recOk r.toRowW.records s) s.abs)
abbrev fragS (as : List Addr) (s : PySem.W.SharedT) : PySem.W.Frag := frG (getT s) as
/-- the run, told three times: what the head needs, the tables and the plain facts; the defs; where they stand -/
theorem run_of {r : PySem.W.OpenRow} {q : Program} {M : Nat} {loose : List Str} {as : List Addr} {F : Facts} {ob : PySem.W.SharedT → AlH} {w : World} (eo : ∀ s, ob s = obsHG as F (getT s))
    (h0 : Tells r M w (fun s => (baseF r q loose w s, kT F.ts (fragS as s), kA F.fa F.xs (fragS as s))) ((true, PySem.W.openGood q loose), vT F.ts w, true))
    (h1 : Tells r M w (fun s => kO F.dd (fragS as s)) (vO F.dd)) (h2 : Tells r M w (fun s => kD F.dd (fragS as s)) true) : RunEq r q (hookH as F) ob M loose w := by
  have z := (h0.pair (h1.pair h2)).map fun z => (z.1.1.1, z.1.1.2, (z.1.2.2, z.2.2, z.2.1, z.1.2.1))
  intro os
  have e : ob = fun s => obsHG as F (getT s) := funext eo
  rw [e]
  exact z os
end DH
namespace G
open PySem L2 DL
set_option maxHeartbeats 4000000
def top (i : Nat) : Stmt := PySem.Challenge.pw_treeright_k82_lines_and_books_as_texts.main.body.getD i (.Pass ⟨0, 0, 0, 0⟩)
abbrev s_NoText_init : Stmt := inClass (top 2) 0
abbrev s_l_digits : Stmt := top 25
abbrev s_l_mixed : Stmt := top 24
abbrev s_l_next : Stmt := top 26
abbrev s_l_right_number : Stmt := top 29
abbrev s_l_line : Stmt := top 30
abbrev s_l_line_text : Stmt := top 31
abbrev s_l_word : Stmt := top 27
abbrev s_l_namesx : Stmt := top 28
abbrev s_l_same : Stmt := top 32
abbrev s_l_spoil : Stmt := top 33
abbrev s_is_name : Stmt := top 6
abbrev s_number_in : Stmt := top 13
abbrev s_fits : Stmt := top 14
abbrev s_mend_in : Stmt := top 19
abbrev s_part_in : Stmt := top 15
abbrev s_line_in : Stmt := top 20
abbrev s_read_book : Stmt := top 22
abbrev s_read_line : Stmt := top 21
abbrev s_word_of : Stmt := top 16
abbrev s_show_line : Stmt := top 17
abbrev s_show_book : Stmt := top 18
abbrev s_law : Stmt := top 34
end G
namespace G
open PySem L2 DL
set_option maxHeartbeats 4000000
def hF : DH.Facts := ⟨[
  .free "all", .free "bool", .free "enumerate", .free "int", .free "isinstance", .free "len", .free "list", .free "range", .free "str", .free "tuple", .free "zip", .str "LETTERS" "abcdefghijklmnopqrstuvwxyz", .int "MOST_LETTERS" 8, .str "FIGURES" "0123456789", .int "MOST_FIGURES" 6, .glo "LETTER_WORDS", .str "ANY" "any", .glo "FORMS", .glo "TreeError", .exc "TreeError", .glo "NoText"], [
  fun K => DH.tupB K (He.ga K "LETTER_WORDS") ["ask", "right", "back"],
  fun K => DH.tabTB K (He.ga K "FORMS") [("want", ["name", "name", "wish"]), ("leave", ["name", "name"]), ("done", ["name", "name"]), ("come", ["name", "name"]), ("fall", ["name"]), ("cut", ["name", "name"]), ("given", ["name", "name", "number"]), ("sends", ["name", "name", "number", "letter"]), ("lost", ["name", "name", "number", "letter"]), ("anew", ["number", "name"])],
  DH.oexB "NoText" "TreeError"], [
  DH.dg "_law_digits" s_l_digits,
  DH.dg "_law_mixed" s_l_mixed,
  DH.dg "_law_next" s_l_next,
  DH.dg "_law_right_number" s_l_right_number,
  DH.dg "_law_line" s_l_line,
  DH.dg "_law_line_text" s_l_line_text,
  DH.dg "_law_word" s_l_word,
  DH.dg "_law_names" s_l_namesx,
  DH.dg "_law_same" s_l_same,
  DH.dg "_law_spoil" s_l_spoil,
  DH.dg "is_name" s_is_name,
  DH.dg "number_in" s_number_in,
  DH.dg "fits" s_fits,
  DH.dg "mend_in" s_mend_in,
  DH.dg "part_in" s_part_in,
  DH.dg "line_in" s_line_in,
  DH.dg "read_book" s_read_book,
  DH.dg "read_line" s_read_line,
  DH.dg "word_of" s_word_of,
  DH.dg "show_line" s_show_line,
  DH.dg "show_book" s_show_book,
  DH.dg "law" s_law,
  DH.dm "NoText" "__init__" "NoText.__init__" s_NoText_init], [
  ((fun K => He.ga K "FORMS"), ["want", "leave", "done", "come", "fall", "cut", "given", "sends", "lost", "anew"])]⟩
def hnm0 : List PySem.Str := ["TreeError", "NoText", "LETTERS", "MOST_LETTERS", "is_name", "FIGURES", "MOST_FIGURES", "LETTER_WORDS", "ANY", "FORMS", "number_in", "fits", "part_in", "word_of", "show_line", "show_book", "mend_in", "line_in", "read_line", "read_book"]
def hnm1 : List PySem.Str := ["_law_mixed", "_law_digits", "_law_next", "_law_word", "_law_names", "_law_right_number", "_law_line", "_law_line_text", "_law_same", "_law_spoil"]
def hnm : List PySem.Str := hnm0 ++ hnm1
abbrev HR : PySem.W.OpenRow := PySem.W.OpenLaw.row PySem.Challenge.rw_treeright_k82_lines_and_books_as_texts
abbrev HV : Program := PySem.W.view HR.prog [34]
abbrev has0 : List Addr := [3, 24, 44, 0, 1, 2, 6, 17, 23, 30, 43, 53, 39, 40, 41, 49, 50, 51, 66, 67, 68, 73, 74, 75, 80, 81, 82, 87, 88, 89, 92, 93, 94, 97, 98, 99, 104, 105, 106, 109]
abbrev has1 : List Addr := [110, 111, 116, 117, 118, 123, 124, 125, 130, 131, 132, 137, 138, 139, 144, 145, 146, 149, 150, 151, 154, 155, 156, 161, 162, 163, 166, 167, 168, 171, 172, 173, 176, 177, 178, 183, 184, 185, 188, 189]
abbrev has2 : List Addr := [190, 37, 42, 52, 54, 55, 56, 57, 58, 59, 60, 61, 62, 63, 71, 78, 85, 102, 114, 121, 128, 135, 142, 159, 181]
abbrev has : List Addr := has0 ++ (has1 ++ (has2))
abbrev hhk : PySem.W.Hook := DH.hookH has hF
def hob (s : PySem.W.SharedT) : DH.AlH := DH.obsHG has hF (HandSHeadRun.getT s)
theorem hob_eq (s : PySem.W.SharedT) : hob s = hhk.obs s.abs := DH.obsHG_eq (HandSHeadRun.getT_eq s)
set_option maxHeartbeats 0 in
theorem hr0_f (w : World) : DH.Tells HR 30000 (w.withFollow "special-get-raises" false) (fun s => (DH.baseF HR HV hnm (w.withFollow "special-get-raises" false) s, DH.kT hF.ts (DH.fragS has s), DH.kA hF.fa hF.xs (DH.fragS has s))) ((true, PySem.W.openGood HV hnm), DH.vT hF.ts (w.withFollow "special-get-raises" false), true) := by
  intro os
  kernel_rfl
set_option maxHeartbeats 0 in
theorem hr1_f (w : World) : DH.Tells HR 30000 (w.withFollow "special-get-raises" false) (fun s => DH.kO hF.dd (DH.fragS has s)) (DH.vO hF.dd) := by
  intro os
  kernel_rfl
set_option maxHeartbeats 0 in
theorem hr2_f (w : World) : DH.Tells HR 30000 (w.withFollow "special-get-raises" false) (fun s => DH.kD hF.dd (DH.fragS has s)) true := by
  intro os
  kernel_rfl
set_option maxHeartbeats 0 in
theorem hr0_t (w : World) : DH.Tells HR 30000 (w.withFollow "special-get-raises" true) (fun s => (DH.baseF HR HV hnm (w.withFollow "special-get-raises" true) s, DH.kT hF.ts (DH.fragS has s), DH.kA hF.fa hF.xs (DH.fragS has s))) ((true, PySem.W.openGood HV hnm), DH.vT hF.ts (w.withFollow "special-get-raises" true), true) := by
  intro os
  kernel_rfl
set_option maxHeartbeats 0 in
theorem hr1_t (w : World) : DH.Tells HR 30000 (w.withFollow "special-get-raises" true) (fun s => DH.kO hF.dd (DH.fragS has s)) (DH.vO hF.dd) := by
  intro os
  kernel_rfl
set_option maxHeartbeats 0 in
theorem hr2_t (w : World) : DH.Tells HR 30000 (w.withFollow "special-get-raises" true) (fun s => DH.kD hF.dd (DH.fragS has s)) true := by
  intro os
  kernel_rfl
theorem hrun (w : World) : HandSHeadRun.RunEq HR HV hhk hob 30000 hnm w := PySem.W.byRow2 "special-get-raises" (P := fun w => HandSHeadRun.RunEq HR HV hhk hob 30000 hnm w) (fun w => DH.run_of (fun s => rfl) (hr0_f w) (hr1_f w) (hr2_f w)) (fun w => DH.run_of (fun s => rfl) (hr0_t w) (hr1_t w) (hr2_t w)) w
end G
/-! An own layer over the hand layer: values as trees, mutable objects by number in a store, each construct read by a plain function. -/
namespace DL
open PySem L2

/-- a value as a tree; ref: a mutable object's number; obj: an instance that changes no more, by its class's number -/
inductive D where
  | non | bl (b : Bool) | int (i : Int) | str (s : Str)
  | tup (xs : List D) | lst (xs : List D) | dct (kvs : List (D × D))
  | obj (c : Nat) (fs : List (Str × D))
  | ref (n : Nat)
  /-- the script: known to the object, read alone -/
  | scr (ns : List Int)
  /-- a tuple of the module's own -/
  | ktup (xs : List D)
  /-- a dict that is locked for good -/
  | fdct (kvs : List (D × D))
  /-- an error made and not raised, by its class's number -/
  | err (c : Nat)
  deriving Inhabited
mutual
def D.beq : D → D → Bool
  | .non, .non => true
  | .bl a, .bl b => a == b
  | .int a, .int b => a == b
  | .str a, .str b => a == b
  | .tup a, .tup b => D.beqL a b
  | .lst a, .lst b => D.beqL a b
  | .dct a, .dct b => D.beqK a b
  | .obj c a, .obj d b => c == d && D.beqF a b
  | .ref a, .ref b => a == b
  | .scr a, .scr b => a == b
  | .err a, .err b => a == b
  | .ktup a, .ktup b => D.beqL a b
  | .fdct a, .fdct b => D.beqK a b
  | _, _ => false
def D.beqL : List D → List D → Bool
  | [], [] => true
  | a :: r, b :: s => D.beq a b && D.beqL r s
  | _, _ => false
def D.beqK : List (D × D) → List (D × D) → Bool
  | [], [] => true
  | (k, a) :: r, (l, b) :: s => D.beq k l && (D.beq a b && D.beqK r s)
  | _, _ => false
def D.beqF : List (Str × D) → List (Str × D) → Bool
  | [], [] => true
  | (k, a) :: r, (l, b) :: s => k == l && (D.beq a b && D.beqF r s)
  | _, _ => false
end
mutual
theorem D.beq_iff : ∀ a b : D, D.beq a b = true ↔ a = b
  | .non, b => by cases b <;> simp [D.beq]
  | .bl _, b => by cases b <;> simp [D.beq]
  | .int _, b => by cases b <;> simp [D.beq]
  | .str _, b => by cases b <;> simp [D.beq]
  | .tup a, b => by cases b <;> simp [D.beq]; exact D.beqL_iff a _
  | .lst a, b => by cases b <;> simp [D.beq]; exact D.beqL_iff a _
  | .dct a, b => by cases b <;> simp [D.beq]; exact D.beqK_iff a _
  | .obj _ a, b => by cases b <;> simp [D.beq]; exact fun _ => D.beqF_iff a _
  | .ref _, b => by cases b <;> simp [D.beq]
  | .scr _, b => by cases b <;> simp [D.beq]
  | .err _, b => by cases b <;> simp [D.beq]
  | .ktup a, b => by cases b <;> simp [D.beq]; exact D.beqL_iff a _
  | .fdct a, b => by cases b <;> simp [D.beq]; exact D.beqK_iff a _
theorem D.beqL_iff : ∀ a b : List D, D.beqL a b = true ↔ a = b
  | [], b => by cases b <;> simp [D.beqL]
  | x :: r, b => by
    cases b with
    | nil => simp [D.beqL]
    | cons y s => simp [D.beqL, D.beq_iff x y, D.beqL_iff r s]
theorem D.beqK_iff : ∀ a b : List (D × D), D.beqK a b = true ↔ a = b
  | [], b => by cases b <;> simp [D.beqK]
  | (k, x) :: r, b => by
    cases b with
    | nil => simp [D.beqK]
    | cons y s => obtain ⟨l, y⟩ := y; simp [D.beqK, D.beq_iff x y, D.beq_iff k l, D.beqK_iff r s, and_assoc]
theorem D.beqF_iff : ∀ a b : List (Str × D), D.beqF a b = true ↔ a = b
  | [], b => by cases b <;> simp [D.beqF]
  | (k, x) :: r, b => by
    cases b with
    | nil => simp [D.beqF]
    | cons y s => obtain ⟨l, y⟩ := y; simp [D.beqF, D.beq_iff x y, D.beqF_iff r s, and_assoc]
end
instance : DecidableEq D := fun a b => decidable_of_iff _ (D.beq_iff a b)
/-- a mutable object: a list, a dict (tk: its keys are tuples), an instance -/
inductive O where
  | lst (xs : List D) | dct (tk : Bool) (kvs : List (D × D)) | ins (c : Nat) (fs : List (Str × D))
  /-- a dict with tuple keys that is locked for a while -/
  | fz (kvs : List (D × D))
  deriving Inhabited, DecidableEq
abbrev Store := List O
structure Exc where
  c : Nat
  fld : Option Int
  deriving Inhabited
/-- a slot: nothing, a value, a caught error -/
inductive Sl where
  | no | val (d : D) | exc (e : Exc)
  deriving Inhabited
abbrev Env' := List Sl
inductive Res where
  | ok (d : D) (S : Store) (fr : Bool)
  | exc (e : Exc) (S : Store)
  | stuck
  deriving Inhabited
inductive FR where
  | nx (env : Env') (S : Store)
  | rt (d : D) (S : Store) (fr : Bool)
  | bk (env : Env') (S : Store)
  | ct (env : Env') (S : Store)
  | exc (e : Exc) (env : Env') (S : Store)
  | stuck
  deriving Inhabited
abbrev ME := Env' → Store → Res
abbrev MS := Env' → Store → FR
abbrev MF := List D → Store → Res

structure Gam where
  K : PySem.W.Frag
  cl : Nat → Addr
  xi : Option (Addr × Exc)

/-- a value as a key -/
def keyOf : D → Option Key
  | .int i => some (.inl i)
  | .str s => if PyData.strOk s = true then some (.inr s) else none
  | _ => none
def keysOf : List D → Option (List Key)
  | [] => some []
  | d :: r => match keyOf d, keysOf r with
    | some k, some ks => some (k :: ks)
    | _, _ => none
def tkeyOf : D → Option (List Key)
  | .tup xs => keysOf xs
  | _ => none

/-- a tuple of the written part -/
def SqK (K : PySem.W.Frag) (a : Addr) (xs : List V) : Prop :=
  ∃ (o : Obj) (its : Array Value) (n : Nat), K.lookup a = some o ∧ o.cls = .type "tuple" ∧ o.data = .seq its n ∧ its.size ≤ sizeLine ∧ Vals xs its.toList
/-- a list that stands still for good: locked, or of the module -/
def SqF (K : PySem.W.Frag) (H : Hp) (a : Addr) (xs : List V) : Prop :=
  (∃ o, H a = some (.frz o (.lst xs))) ∨
    ∃ (o : Obj) (its : Array Value) (n : Nat), K.lookup a = some o ∧ o.cls = .type "list" ∧ o.dict = none ∧ o.data = .seq its n ∧ its.size ≤ sizeLine ∧ Vals xs its.toList
theorem SqF.sq {K : PySem.W.Frag} {H : Hp} {a : Addr} {xs : List V} (h : SqF K H a xs) : SqL K H a xs := h.elim (fun h => .inl (.inr h)) .inr
mutual
inductive RV (G : Gam) (H : Hp) (pi rho : List Addr) : V → D → Prop
  | non : RV G H pi rho .non .non
  | bl (b : Bool) : RV G H pi rho (.bl b) (.bl b)
  | int (i : Int) : RV G H pi rho (.int i) (.int i)
  | str {s : Str} : PyData.strOk s = true → RV G H pi rho (.str s) (.str s)
  | tup {a : Addr} {vs : List V} {ds : List D} : H a = some (.tup vs) → vs.length ≤ sizeLine → RVs G H pi rho vs ds → RV G H pi rho (.ref a) (.tup ds)
  | ktup {a : Addr} {vs : List V} {ds : List D} : SqK G.K a vs → vs.length ≤ sizeLine → RVs G H pi rho vs ds → RV G H pi rho (.ref a) (.ktup ds)
  | lst {a : Addr} {vs : List V} {ds : List D} : H a = some (.lst vs) → a ∉ pi → a ∉ rho → vs.length ≤ sizeLine → RVs G H pi rho vs ds → RV G H pi rho (.ref a) (.lst ds)
  | dct {a : Addr} {ks : List (Key × V)} {kvs : List (D × D)} : H a = some (.dK ks) → a ∉ pi → a ∉ rho → ks.length ≤ sizeLine → RKs G H pi rho ks kvs → RV G H pi rho (.ref a) (.dct kvs)
  | obj {a dx : Addr} {c : Nat} {fs : List (Str × V)} {ds : List (Str × D)} : H a = some (.ins (G.cl c) dx fs) → a ∉ pi → a ∉ rho → RFs G H pi rho fs ds → RV G H pi rho (.ref a) (.obj c ds)
  | ref {a : Addr} {n : Nat} : pi[n]? = some a → RV G H pi rho (.ref a) (.ref n)
  | fdct {a : Addr} {o : Obj} {ks : List (Key × V)} {kvs : List (D × D)} : H a = some (.frz o (.dK ks)) → ks.length ≤ sizeLine → RKs G H pi rho ks kvs → RV G H pi rho (.ref a) (.fdct kvs)
  | scr {a : Addr} {ns : List Int} : SqF G.K H a (ns.map V.int) → ns.length ≤ sizeLine → RV G H pi rho (.ref a) (.scr ns)
  | err {a : Addr} {c : Nat} : H a = some (L2.ExO (.ref (G.cl c)) a) → a ∉ pi → a ∉ rho → RV G H pi rho (.ref a) (.err c)
inductive RVs (G : Gam) (H : Hp) (pi rho : List Addr) : List V → List D → Prop
  | nil : RVs G H pi rho [] []
  | cons {v : V} {vs : List V} {d : D} {ds : List D} : RV G H pi rho v d → RVs G H pi rho vs ds → RVs G H pi rho (v :: vs) (d :: ds)
inductive RKs (G : Gam) (H : Hp) (pi rho : List Addr) : List (Key × V) → List (D × D) → Prop
  | nil : RKs G H pi rho [] []
  | cons {k : Key} {kd : D} {v : V} {d : D} {ks : List (Key × V)} {ds : List (D × D)} : keyOf kd = some k → RV G H pi rho v d → RKs G H pi rho ks ds → RKs G H pi rho ((k, v) :: ks) ((kd, d) :: ds)
inductive RFs (G : Gam) (H : Hp) (pi rho : List Addr) : List (Str × V) → List (Str × D) → Prop
  | nil : RFs G H pi rho [] []
  | cons {f : Str} {v : V} {d : D} {fs : List (Str × V)} {ds : List (Str × D)} : RV G H pi rho v d → RFs G H pi rho fs ds → RFs G H pi rho ((f, v) :: fs) ((f, d) :: ds)
end
/-- pairs of a dict with tuple keys -/
inductive RTs (G : Gam) (H : Hp) (pi rho : List Addr) : List (List Key × V) → List (D × D) → Prop
  | nil : RTs G H pi rho [] []
  | cons {k : List Key} {kd : D} {v : V} {d : D} {ks : List (List Key × V)} {ds : List (D × D)} : tkeyOf kd = some k → RV G H pi rho v d → RTs G H pi rho ks ds → RTs G H pi rho ((k, v) :: ks) ((kd, d) :: ds)

/-- how a heap may go on, for values -/
structure Ext (H : Hp) (pi rho : List Addr) (H' : Hp) (pi' rho' : List Addr) : Prop where
  tup : ∀ a xs, H a = some (.tup xs) → H' a = some (.tup xs)
  frz : ∀ a o u, H a = some (.frz o u) → H' a = some (.frz o u)
  keep : ∀ a o, H a = some o → a ∉ pi → a ∉ rho → H' a = some o ∧ a ∉ pi' ∧ a ∉ rho'
  ref : ∀ (n : Nat) (a : Addr), pi[n]? = some a → pi'[n]? = some a
  dom : ∀ a, H a ≠ none → H' a ≠ none

section
variable {G : Gam} {H H1 H' : Hp} {pi pi1 pi' rho rho1 rho' : List Addr}
theorem Ext.refl : Ext H pi rho H pi rho := ⟨fun _ _ e => e, fun _ _ _ e => e, fun _ _ e n m => ⟨e, n, m⟩, fun _ _ e => e, fun _ e => e⟩
theorem Ext.trans (a : Ext H pi rho H1 pi1 rho1) (b : Ext H1 pi1 rho1 H' pi' rho') : Ext H pi rho H' pi' rho' :=
  ⟨fun x xs e => b.tup x xs (a.tup x xs e), fun x o u e => b.frz x o u (a.frz x o u e), fun x o e n m => b.keep x o (a.keep x o e n m).1 (a.keep x o e n m).2.1 (a.keep x o e n m).2.2,
    fun n x e => b.ref n x (a.ref n x e), fun x e => b.dom x (a.dom x e)⟩
mutual
theorem RV.mono (x : Ext H pi rho H' pi' rho') : ∀ {v : V} {d : D}, RV G H pi rho v d → RV G H' pi' rho' v d
  | _, _, .non => .non
  | _, _, .bl b => .bl b
  | _, _, .int i => .int i
  | _, _, .str s => .str s
  | _, _, .tup h z r => .tup (x.tup _ _ h) z (RVs.mono x r)
  | _, _, .ktup h z r => .ktup h z (RVs.mono x r)
  | _, _, .lst h n m z r => .lst (x.keep _ _ h n m).1 (x.keep _ _ h n m).2.1 (x.keep _ _ h n m).2.2 z (RVs.mono x r)
  | _, _, .dct h n m z r => .dct (x.keep _ _ h n m).1 (x.keep _ _ h n m).2.1 (x.keep _ _ h n m).2.2 z (RKs.mono x r)
  | _, _, .obj h n m r => .obj (x.keep _ _ h n m).1 (x.keep _ _ h n m).2.1 (x.keep _ _ h n m).2.2 (RFs.mono x r)
  | _, _, .ref h => .ref (x.ref _ _ h)
  | _, _, .fdct h z r => .fdct (x.frz _ _ _ h) z (RKs.mono x r)
  | _, _, .scr h z => .scr (h.elim (fun ⟨o, h⟩ => .inl ⟨o, x.frz _ _ _ h⟩) .inr) z
  | _, _, .err h n m => .err (x.keep _ _ h n m).1 (x.keep _ _ h n m).2.1 (x.keep _ _ h n m).2.2
theorem RVs.mono (x : Ext H pi rho H' pi' rho') : ∀ {v : List V} {d : List D}, RVs G H pi rho v d → RVs G H' pi' rho' v d
  | _, _, .nil => .nil
  | _, _, .cons h r => .cons (RV.mono x h) (RVs.mono x r)
theorem RKs.mono (x : Ext H pi rho H' pi' rho') : ∀ {v : List (Key × V)} {d : List (D × D)}, RKs G H pi rho v d → RKs G H' pi' rho' v d
  | _, _, .nil => .nil
  | _, _, .cons k h r => .cons k (RV.mono x h) (RKs.mono x r)
theorem RFs.mono (x : Ext H pi rho H' pi' rho') : ∀ {v : List (Str × V)} {d : List (Str × D)}, RFs G H pi rho v d → RFs G H' pi' rho' v d
  | _, _, .nil => .nil
  | _, _, .cons h r => .cons (RV.mono x h) (RFs.mono x r)
end
theorem RTs.mono (x : Ext H pi rho H' pi' rho') : ∀ {v : List (List Key × V)} {d : List (D × D)}, RTs G H pi rho v d → RTs G H' pi' rho' v d
  | _, _, .nil => .nil
  | _, _, .cons k h r => .cons k (RV.mono x h) (RTs.mono x r)
/-- the context's caught error is no matter for values -/
theorem RVs.length : ∀ {v : List V} {d : List D}, RVs G H pi rho v d → v.length = d.length
  | _, _, .nil => rfl
  | _, _, .cons _ r => by simp [RVs.length r]
theorem RVs.get : ∀ {v : List V} {d : List D} {i : Nat} {y : D}, RVs G H pi rho v d → d[i]? = some y → ∃ x, v[i]? = some x ∧ RV G H pi rho x y
  | _, _, i, _, .nil, e => by simp at e
  | _, _, 0, _, .cons h _, e => by simp at e; subst e; exact ⟨_, rfl, h⟩
  | _, _, i + 1, y, .cons _ r, e => by
    obtain ⟨x, h1, h2⟩ := RVs.get (i := i) (y := y) r (by simpa using e)
    exact ⟨x, by simpa using h1, h2⟩
theorem RVs.get' : ∀ {v : List V} {d : List D} {i : Nat} {x : V}, RVs G H pi rho v d → v[i]? = some x → ∃ y, d[i]? = some y ∧ RV G H pi rho x y
  | _, _, i, _, .nil, e => by simp at e
  | _, _, 0, _, .cons h _, e => by simp at e; subst e; exact ⟨_, rfl, h⟩
  | _, _, i + 1, y, .cons _ r, e => by
    obtain ⟨x, h1, h2⟩ := RVs.get' (i := i) (x := y) r (by simpa using e)
    exact ⟨x, by simpa using h1, h2⟩
theorem RVs.append : ∀ {v v' : List V} {d d' : List D}, RVs G H pi rho v d → RVs G H pi rho v' d' → RVs G H pi rho (v ++ v') (d ++ d')
  | _, _, _, _, .nil, r => r
  | _, _, _, _, .cons h r, r' => .cons h (RVs.append r r')
theorem RVs.take : ∀ {v : List V} {d : List D} (n : Nat), RVs G H pi rho v d → RVs G H pi rho (v.take n) (d.take n)
  | _, _, 0, _ => .nil
  | _, _, _ + 1, .nil => .nil
  | _, _, n + 1, .cons h r => .cons h (RVs.take n r)
theorem RVs.drop : ∀ {v : List V} {d : List D} (n : Nat), RVs G H pi rho v d → RVs G H pi rho (v.drop n) (d.drop n)
  | _, _, 0, r => r
  | _, _, _ + 1, .nil => .nil
  | _, _, n + 1, .cons h r => RVs.drop n r
theorem RVs.set : ∀ {v : List V} {d : List D} (n : Nat) {x : V} {y : D}, RVs G H pi rho v d → RV G H pi rho x y → RVs G H pi rho (v.set n x) (d.set n y)
  | _, _, _, _, _, .nil, _ => .nil
  | _, _, 0, _, _, .cons _ r, h => .cons h r
  | _, _, n + 1, _, _, .cons q r, h => .cons q (RVs.set n r h)
end

def RO (G : Gam) (H : Hp) (pi rho : List Addr) (a : Addr) : O → Prop
  | .lst ds => ∃ vs, H a = some (.lst vs) ∧ vs.length ≤ sizeLine ∧ RVs G H pi rho vs ds
  | .dct false kvs => ∃ ks, H a = some (.dK ks) ∧ ks.length ≤ sizeLine ∧ RKs G H pi rho ks kvs
  | .dct true kvs => ∃ ks, H a = some (.dT ks) ∧ ks.length ≤ sizeLine ∧ RTs G H pi rho ks kvs
  | .ins c fs => ∃ dx fs', H a = some (.ins (G.cl c) dx fs') ∧ RFs G H pi rho fs' fs
  | .fz kvs => ∃ od ks, H a = some (.frz od (.dT ks)) ∧ ks.length ≤ sizeLine ∧ RTs G H pi rho ks kvs
structure Rel (G : Gam) (H : Hp) (pi rho : List Addr) (S : Store) : Prop where
  len : pi.length = S.length
  nd : pi.Nodup
  dis : ∀ a ∈ pi, a ∉ rho
  trk : ∀ a ∈ rho, H a ≠ none
  at_ : ∀ (n : Nat) (o : O), S[n]? = some o → ∃ a, pi[n]? = some a ∧ RO G H pi rho a o
/-- a mutable thing -/
def Muta : HO → Prop
  | .lst _ => True
  | .dK _ => True
  | .dT _ => True
  | .ins _ _ _ => True
  | _ => False
theorem RO.there {G : Gam} {H : Hp} {pi rho : List Addr} {a : Addr} : ∀ {o : O}, RO G H pi rho a o → ∃ ho, H a = some ho
  | .lst _, ⟨_, h, _⟩ => ⟨_, h⟩
  | .dct false _, ⟨_, h, _⟩ => ⟨_, h⟩
  | .dct true _, ⟨_, h, _⟩ => ⟨_, h⟩
  | .ins _ _, ⟨_, _, h, _⟩ => ⟨_, h⟩
  | .fz _, ⟨_, _, h, _⟩ => ⟨_, h⟩
section
variable {G : Gam} {H H1 H' : Hp} {pi pi1 pi' rho rho1 rho' : List Addr} {S S' : Store} {a : Addr}
theorem RO.mono (x : Ext H pi rho H' pi' rho') (e : H' a = H a) : ∀ {o : O}, RO G H pi rho a o → RO G H' pi' rho' a o
  | .lst _, ⟨vs, h, z, r⟩ => ⟨vs, e.trans h, z, r.mono x⟩
  | .dct false _, ⟨vs, h, z, r⟩ => ⟨vs, e.trans h, z, r.mono x⟩
  | .dct true _, ⟨vs, h, z, r⟩ => ⟨vs, e.trans h, z, r.mono x⟩
  | .ins _ _, ⟨dx, vs, h, r⟩ => ⟨dx, vs, e.trans h, r.mono x⟩
  | .fz _, ⟨od, vs, h, z, r⟩ => ⟨od, vs, e.trans h, z, r.mono x⟩
theorem Rel.addr (R : Rel G H pi rho S) {n : Nat} (h : pi[n]? = some a) : ∃ o, S[n]? = some o ∧ RO G H pi rho a o := by
  have hn : n < pi.length := (List.getElem?_eq_some_iff.mp h).1
  have hn' : n < S.length := R.len ▸ hn
  obtain ⟨b, hb, r⟩ := R.at_ n S[n] (List.getElem?_eq_getElem hn')
  have : b = a := Option.some.inj (hb.symm.trans h)
  subst this
  exact ⟨_, List.getElem?_eq_getElem hn', r⟩
theorem Rel.mem (R : Rel G H pi rho S) (h : a ∈ pi) : ∃ ho, H a = some ho := by
  obtain ⟨n, hn⟩ := List.getElem?_of_mem h
  obtain ⟨o, _, r⟩ := R.addr hn
  exact r.there
/-- what stands at a number is one address -/
theorem Rel.inj (R : Rel G H pi rho S) {m n : Nat} (h : pi[m]? = some a) (h' : pi[n]? = some a) : m = n :=
  List.getElem?_inj (List.getElem?_eq_some_iff.mp h).1 R.nd |>.mp (h.trans h'.symm)
/-- a new thing is laid that nobody changes -/
theorem Ext.new {p : Addr} {o : HO} (hp : H p = none) : Ext H pi rho (upd H p o) pi rho :=
  ⟨fun b xs e => by rw [upd_ne (ne_of_none e hp)]; exact e, fun b o u e => by rw [upd_ne (ne_of_none e hp)]; exact e, fun b u e n m => ⟨by rw [upd_ne (ne_of_none e hp)]; exact e, n, m⟩, fun _ _ e => e,
    fun b e => by
      by_cases hb : b = p
      · subst hb; rw [upd_same]; exact fun q => by cases q
      · rw [upd_ne hb]; exact e⟩
theorem Ext.newR {p : Addr} {o : HO} (hp : H p = none) : Ext H pi rho (upd H p o) pi (p :: rho) :=
  ⟨(Ext.new (pi := pi) (rho := rho) hp).tup, (Ext.new (pi := pi) (rho := rho) hp).frz, fun b u e n m => ⟨((Ext.new (rho := rho) hp).keep b u e n m).1, n, by
    rw [List.mem_cons]; rintro (q | q)
    · exact ne_of_none e hp q
    · exact m q⟩, fun _ _ e => e, (Ext.new (pi := pi) (rho := rho) hp).dom⟩
theorem Rel.free (R : Rel G H pi rho S) {p : Addr} (hp : H p = none) : p ∉ pi := fun q => by
  obtain ⟨ho, e⟩ := R.mem q
  rw [hp] at e; cases e
theorem Rel.freeR (R : Rel G H pi rho S) {p : Addr} (hp : H p = none) : p ∉ rho := fun q => R.trk p q hp
theorem Rel.new (R : Rel G H pi rho S) {p : Addr} {o : HO} (hp : H p = none) : Rel G (upd H p o) pi rho S :=
  ⟨R.len, R.nd, R.dis, fun b hb => (Ext.new (pi := pi) (rho := rho) hp).dom b (R.trk b hb), fun n u e => by
    obtain ⟨a, ha, r⟩ := R.at_ n u e
    obtain ⟨ho, e1⟩ := r.there
    exact ⟨a, ha, r.mono (Ext.new hp) (upd_ne (ne_of_none e1 hp))⟩⟩
theorem Rel.newR (R : Rel G H pi rho S) {p : Addr} {o : HO} (hp : H p = none) : Rel G (upd H p o) pi (p :: rho) S :=
  ⟨R.len, R.nd, fun a h => by
    rw [List.mem_cons]; rintro (q | q)
    · subst q; exact R.free hp h
    · exact R.dis a h q, fun b hb => (by
      rw [List.mem_cons] at hb
      rcases hb with hb | hb
      · subst hb; rw [upd_same]; exact fun z => by cases z
      · exact (Ext.new (pi := pi) (rho := rho) hp).dom b (R.trk b hb)), fun n u e => by
    obtain ⟨a, ha, r⟩ := R.at_ n u e
    obtain ⟨ho, e1⟩ := r.there
    exact ⟨a, ha, r.mono (Ext.newR hp) (upd_ne (ne_of_none e1 hp))⟩⟩
/-- a mutable thing changes -/
theorem Ext.set (R : Rel G H pi rho S) {n : Nat} {o : HO} (h : pi[n]? = some a) (mu : ∃ ho, H a = some ho ∧ Muta ho) : Ext H pi rho (upd H a o) pi rho := by
  have ha : a ∈ pi := List.mem_of_getElem? h
  obtain ⟨ho, e, m⟩ := mu
  refine ⟨fun b xs q => ?_, fun b u w q => ?_, fun b u q nb nr => ⟨?_, nb, nr⟩, fun _ _ e => e, fun b q => ?_⟩
  · have : b ≠ a := fun z => by subst z; rw [e] at q; cases q; exact m
    rw [upd_ne this]; exact q
  · have : b ≠ a := fun z => by subst z; rw [e] at q; cases q; exact m
    rw [upd_ne this]; exact q
  · have : b ≠ a := fun z => nb (z ▸ ha)
    rw [upd_ne this]; exact q
  · by_cases hb : b = a
    · subst hb; rw [upd_same]; exact fun z => by cases z
    · rw [upd_ne hb]; exact q
theorem Rel.set (R : Rel G H pi rho S) {n : Nat} {o : HO} {u : O} (h : pi[n]? = some a) (mu : ∃ ho, H a = some ho ∧ Muta ho) (r : RO G (upd H a o) pi rho a u) : Rel G (upd H a o) pi rho (S.set n u) := by
  refine ⟨by rw [List.length_set]; exact R.len, R.nd, R.dis, fun b hb => (Ext.set (o := o) R h mu).dom b (R.trk b hb), fun m w e => ?_⟩
  by_cases hm : m = n
  · subst hm
    have : m < S.length := R.len ▸ (List.getElem?_eq_some_iff.mp h).1
    rw [List.getElem?_set_self this] at e
    cases e
    exact ⟨a, h, r⟩
  · rw [List.getElem?_set_ne (Ne.symm hm)] at e
    obtain ⟨b, hb, rb⟩ := R.at_ m w e
    have hba : b ≠ a := fun q => hm (R.inj (q ▸ hb) h)
    exact ⟨b, hb, rb.mono (Ext.set R h mu) (upd_ne hba)⟩
/-- what is known of the heap behind a step -/
structure Go (H : Hp) (pi rho : List Addr) (H' : Hp) (pi' : List Addr) : Prop where
  x : Ext H pi rho H' pi' rho
  res : ∀ a o, a ∈ rho → H a = some o → H' a = some o
  new' : ∀ a, a ∈ pi' → a ∉ pi → H a = none
theorem Go.refl : Go H pi rho H pi := ⟨.refl, fun _ _ _ e => e, fun _ h n => (n h).elim⟩
theorem Go.none (g : Go H pi rho H' pi') {p : Addr} (h : H' p = Option.none) : H p = Option.none := by
  cases e : H p with
  | none => rfl
  | some o => exact absurd h (g.x.dom p (by rw [e]; exact fun z => by cases z))
theorem Go.trans (a : Go H pi rho H1 pi1) (b : Go H1 pi1 rho H' pi') : Go H pi rho H' pi' := ⟨a.x.trans b.x, fun x o m e => b.res x o m (a.res x o m e), fun x h n => by
  by_cases m : x ∈ pi1
  · exact a.new' x m n
  · exact a.none (b.new' x h m)⟩
theorem Go.new {p : Addr} {o : HO} (hp : H p = Option.none) : Go H pi rho (upd H p o) pi := ⟨.new hp, fun b u _ e => by rw [upd_ne (ne_of_none e hp)]; exact e, fun _ h n => (n h).elim⟩
theorem Go.set (R : Rel G H pi rho S) {n : Nat} {o : HO} (h : pi[n]? = some a) (mu : ∃ ho, H a = some ho ∧ Muta ho) : Go H pi rho (upd H a o) pi := ⟨Ext.set R h mu, fun b u m e => by
  have : b ≠ a := fun z => R.dis a (List.mem_of_getElem? h) (z ▸ m)
  rw [upd_ne this]; exact e, fun _ h n => (n h).elim⟩
/-- a reserved thing becomes a mutable one -/
theorem Rel.push {p : Addr} {o : O} (R : Rel G H pi (p :: rho) S) (hp : p ∉ rho) (r : RO G H pi (p :: rho) p o) : Rel G H (pi ++ [p]) rho (S ++ [o]) := by
  have hpi : p ∉ pi := fun q => R.dis p q List.mem_cons_self
  have x : Ext H pi (p :: rho) H (pi ++ [p]) rho := ⟨fun _ _ e => e, fun _ _ _ e => e, fun b u e n m => by
    rw [List.mem_cons] at m
    refine ⟨e, ?_, fun q => m (.inr q)⟩
    rw [List.mem_append]; rintro (q | q)
    · exact n q
    · rw [List.mem_singleton] at q; exact m (.inl q), fun n b e => by rw [List.getElem?_append_left (List.getElem?_eq_some_iff.mp e).1]; exact e, fun _ e => e⟩
  refine ⟨by simp [R.len], ?_, ?_, fun b hb => R.trk b (List.mem_cons_of_mem _ hb), fun n u e => ?_⟩
  · rw [List.nodup_append]
    exact ⟨R.nd, by simp, fun b hb c hc => by rw [List.mem_singleton] at hc; subst hc; exact fun q => hpi (q ▸ hb)⟩
  · intro b hb
    rw [List.mem_append] at hb
    rcases hb with hb | hb
    · exact fun q => R.dis b hb (List.mem_cons_of_mem _ q)
    · rw [List.mem_singleton] at hb; subst hb; exact hp
  · by_cases hn : n < S.length
    · rw [List.getElem?_append_left hn] at e
      obtain ⟨b, hb, rb⟩ := R.at_ n u e
      exact ⟨b, x.ref _ _ hb, rb.mono x rfl⟩
    · have hn2 : n < (S ++ [o]).length := (List.getElem?_eq_some_iff.mp e).1
      have : n = S.length := by simp at hn2; omega
      subst this
      rw [List.getElem?_append_right (Nat.le_refl _), Nat.sub_self] at e
      cases e
      refine ⟨p, ?_, r.mono x rfl⟩
      rw [List.getElem?_append_right (by rw [R.len]; exact Nat.le_refl _), R.len, Nat.sub_self]; rfl
end
end DL
namespace DL
open PySem L2

def toO : D → Option O
  | .lst ds => some (.lst ds)
  | .dct kvs => some (.dct false kvs)
  | .obj c fs => some (.ins c fs)
  | _ => none
/-- v is a new thing that nothing else holds -/
def Frsh (G : Gam) (H0 H' : Hp) (pi' rho : List Addr) (v : V) (d : D) (S' : Store) : Prop :=
  ∃ p o, v = .ref p ∧ H0 p = none ∧ p ∉ rho ∧ toO d = some o ∧ RO G H' pi' (p :: rho) p o ∧ Rel G H' pi' (p :: rho) S'
def RExc (G : Gam) (H : Hp) (rho : List Addr) (e : Exc) (cls : Value) (dx : Option Addr) : Prop :=
  cls = .ref (G.cl e.c) ∧ match e.fld with
    | none => dx = none
    | some i => ∃ a, dx = some a ∧ H a = some (.xd [("line", .int i)]) ∧ a ∉ rho
theorem RExc.unres {G : Gam} {H : Hp} {p : Addr} {rho : List Addr} {e : Exc} {cls : Value} {dx : Option Addr} (h : RExc G H (p :: rho) e cls dx) : RExc G H rho e cls dx := by
  obtain ⟨c, f⟩ := e
  cases f with
  | none => exact h
  | some i =>
    obtain ⟨h1, a, h2, h3, h4⟩ := h
    exact ⟨h1, a, h2, h3, fun q => h4 (List.mem_cons_of_mem _ q)⟩
/-- the error in the context, e', against the one of a slot, e: where it has a field, e' tells where its own dict stands -/
def XAt (H : Hp) (pi rho : List Addr) (e e' : Exc) : Prop := e'.c = e.c ∧ match e.fld with
  | none => e'.fld = none
  | some i => ∃ dx : Addr, e'.fld = some (Int.ofNat dx) ∧ H dx = some (.xd [("line", .int i)]) ∧ dx ∉ pi ∧ dx ∉ rho
theorem XAt.mono {H H' : Hp} {pi pi' rho rho' : List Addr} (x : Ext H pi rho H' pi' rho') {e e' : Exc} (h : XAt H pi rho e e') : XAt H' pi' rho' e e' := by
  obtain ⟨c, f⟩ := e
  cases f with
  | none => exact h
  | some i =>
    obtain ⟨h1, dx, h2, h3, h4, h5⟩ := h
    obtain ⟨k1, k2, k3⟩ := x.keep dx _ h3 h4 h5
    exact ⟨h1, dx, h2, k1, k2, k3⟩
def RSl (G : Gam) (H : Hp) (pi rho : List Addr) (o : Option (Option V)) : Sl → Prop
  | .no => True
  | .val d => ∃ v, o = some (some v) ∧ RV G H pi rho v d
  | .exc e => ∃ a e', o = some (some (.ref a)) ∧ G.xi = some (a, e') ∧ XAt H pi rho e e'
structure REnv (G : Gam) (H : Hp) (pi rho : List Addr) (σ : St) (env : Env') : Prop where
  len : σ.length = env.length
  at_ : ∀ (i : Nat) (sl : Sl), env[i]? = some sl → RSl G H pi rho σ[i]? sl
section
variable {G : Gam} {H H1 H' : Hp} {pi pi1 pi' rho rho' : List Addr} {σ σ' : St} {env env' : Env'} {S S' : Store}
theorem RSl.mono (x : Ext H pi rho H' pi' rho') {o : Option (Option V)} : ∀ {sl : Sl}, RSl G H pi rho o sl → RSl G H' pi' rho' o sl
  | .no, _ => trivial
  | .val _, ⟨v, e, r⟩ => ⟨v, e, r.mono x⟩
  | .exc _, ⟨a, e', h1, h2, h3⟩ => ⟨a, e', h1, h2, h3.mono x⟩
theorem REnv.mono (x : Ext H pi rho H' pi' rho') (N : REnv G H pi rho σ env) : REnv G H' pi' rho' σ env := ⟨N.len, fun i sl e => (N.at_ i sl e).mono x⟩
theorem REnv.set (N : REnv G H pi rho σ env) {v : V} {d : D} (r : RV G H pi rho v d) (i : Nat) : REnv G H pi rho (σ.set i (some v)) (env.set i (.val d)) := by
  refine ⟨by simp [N.len], fun j sl e => ?_⟩
  by_cases hj : j = i
  · subst hj
    have hl : j < env.length := by
      have := (List.getElem?_eq_some_iff.mp e).1
      simpa using this
    rw [List.getElem?_set_self hl] at e
    cases e
    exact ⟨v, by rw [List.getElem?_set_self (by rw [N.len]; exact hl)], r⟩
  · rw [List.getElem?_set_ne (Ne.symm hj)] at e ⊢
    exact N.at_ j sl e
theorem REnv.setNo (N : REnv G H pi rho σ env) (i : Nat) (o : Option V) : REnv G H pi rho (σ.set i o) (env.set i .no) := by
  refine ⟨by simp [N.len], fun j sl e => ?_⟩
  by_cases hj : j = i
  · subst hj
    have hl : j < env.length := by
      have := (List.getElem?_eq_some_iff.mp e).1
      simpa using this
    rw [List.getElem?_set_self hl] at e
    cases e
    trivial
  · rw [List.getElem?_set_ne (Ne.symm hj)] at e ⊢
    exact N.at_ j sl e
/-- the start of a def's body -/
theorem REnv.start {vs : List V} {ds : List D} (r : RVs G H pi rho vs ds) (N : List Str) : REnv G H pi rho (L2.start N vs) (ds.map .val ++ List.replicate (N.length - ds.length) .no) := by
  have hl := r.length
  refine ⟨by unfold L2.start; simp [hl], fun i sl e => ?_⟩
  unfold L2.start
  by_cases h : i < ds.length
  · rw [List.getElem?_append_left (by simpa using h), List.getElem?_map] at e
    obtain ⟨d, hd⟩ : ∃ d, ds[i]? = some d := ⟨ds[i], List.getElem?_eq_getElem h⟩
    rw [hd] at e
    cases e
    obtain ⟨v, hv, q⟩ := r.get hd
    exact ⟨v, by rw [List.getElem?_append_left (by rw [List.length_map, hl]; exact h), List.getElem?_map, hv]; rfl, q⟩
  · rw [List.getElem?_append_right (by simp; omega)] at e
    have := List.eq_of_mem_replicate (List.mem_of_getElem? e)
    subst this
    trivial
end

def PostE (G : Gam) (W : WX) (σ : St) (H : Hp) (pi rho : List Addr) (Q : VK) : Res → Prop
  | .ok d S' fr => ∀ v H' pi', Rel G H' pi' rho S' → RV G H' pi' rho v d → Go H pi rho H' pi' → (fr = true → Frsh G H H' pi' rho v d S') → Q v H'
  | .exc e S' => ∀ cls dx H' pi', Rel G H' pi' rho S' → Go H pi rho H' pi' → RExc G H' rho e cls dx → W cls dx σ H'
  | .stuck => False
def tD (G : Gam) (W : WX) (m : ME) : TE := fun σ H Q => ∃ pi rho S env, Rel G H pi rho S ∧ REnv G H pi rho σ env ∧ PostE G W σ H pi rho Q (m env S)
def Res.bind (r : Res) (f : D → Store → Bool → Res) : Res := match r with
  | .ok d S fr => f d S fr
  | .exc e S => .exc e S
  | .stuck => .stuck
@[simp] theorem Res.bind_ok (d : D) (S : Store) (fr : Bool) (f : D → Store → Bool → Res) : (Res.ok d S fr).bind f = f d S fr := rfl
@[simp] theorem Res.bind_exc (e : Exc) (S : Store) (f : D → Store → Bool → Res) : (Res.exc e S).bind f = .exc e S := rfl
@[simp] theorem Res.bind_stuck (f : D → Store → Bool → Res) : Res.stuck.bind f = .stuck := rfl
section
variable {G : Gam} {W : WX} {H H1 H' : Hp} {pi pi1 pi' rho : List Addr} {σ σ' : St} {env env' : Env'} {S S' : Store} {Q : VK}
theorem Frsh.base (g : Go H pi rho H1 pi1) {v : V} {d : D} (h : Frsh G H1 H' pi' rho v d S') : Frsh G H H' pi' rho v d S' := by
  obtain ⟨p, o, e, n, r⟩ := h
  exact ⟨p, o, e, g.none n, r⟩
theorem PostE.base (g : Go H pi rho H1 pi1) : ∀ {r : Res}, PostE G W σ H pi rho Q r → PostE G W σ H1 pi1 rho Q r
  | .ok _ _ _, h => fun v H' pi' R r g' f => h v H' pi' R r (g.trans g') fun e => (f e).base g
  | .exc _ _, h => fun c d H' pi' R g' r => h c d H' pi' R (g.trans g') r
  | .stuck, h => h
theorem tD.bind {m : ME} {f : D → Store → Bool → Res} {Q' : VK} (R : Rel G H pi rho S) (N : REnv G H pi rho σ env) (h : PostE G W σ H pi rho Q ((m env S).bind f))
    (k : ∀ v H1 d pi1 S1 fr, Rel G H1 pi1 rho S1 → RV G H1 pi1 rho v d → Go H pi rho H1 pi1 → (fr = true → Frsh G H H1 pi1 rho v d S1) → PostE G W σ H1 pi1 rho Q (f d S1 fr) → Q' v H1) : tD G W m σ H Q' := by
  refine ⟨pi, rho, S, env, R, N, ?_⟩
  cases e : m env S with
  | ok d S1 fr =>
    rw [e] at h
    intro v H1 pi1 R1 r g f1
    exact k v H1 d pi1 S1 fr R1 r g f1 (h.base g)
  | exc x S1 => rw [e] at h; exact h
  | stuck => rw [e] at h; exact h
/-- a value that is done -/
theorem PostE.fin {v : V} {d : D} (h : PostE G W σ H pi rho Q (.ok d S false)) (R : Rel G H pi rho S) (r : RV G H pi rho v d) : Q v H := h v H pi R r .refl fun e => by cases e
/-- a new list -/
theorem PostE.newL {vs : List V} {ds : List D} {p : Addr} {b : Bool} (h : PostE G W σ H pi rho Q (.ok (.lst ds) S b)) (R : Rel G H pi rho S) (r : RVs G H pi rho vs ds) (hz : vs.length ≤ sizeLine) (hp : H p = none) :
    Q (.ref p) (upd H p (.lst vs)) :=
  h _ _ pi (R.new hp) (.lst upd_same (R.free hp) (R.freeR hp) hz (r.mono (Ext.new hp))) (Go.new hp) fun _ => ⟨p, _, rfl, hp, R.freeR hp, rfl, ⟨vs, upd_same, hz, r.mono (Ext.newR hp)⟩, R.newR hp⟩
end
end DL
namespace DL
open PySem L2

abbrev Ctx := (Nat → Addr) × Option (Addr × Exc)
abbrev gm (X : Cx) (c : Ctx) : Gam := ⟨X.K, c.1, c.2⟩
theorem PE_weak {X : Cx} {e : Expr} {t t' : TE} (h : PE X e t) (f : ∀ σ H Q, t' σ H Q → t σ H Q) : PE X e t' := ⟨fun pins s σ H Q I q => h.run pins s σ H Q I (f σ H Q q)⟩
theorem PT_weak {X : Cx} {e : Expr} {t t' : TT} (h : PT X e t) (f : ∀ σ H Q, t' σ H Q → t σ H Q) : PT X e t' := ⟨fun pins s σ H Q I q => h.run pins s σ H Q I (f σ H Q q)⟩
theorem PW_weak {X : Cx} {e : Expr} {t t' : TT} (h : PW X e t) (f : ∀ σ H Q, t' σ H Q → t σ H Q) : PW X e t' := ⟨fun wh pins s σ H Q I q => h.run wh pins s σ H Q I (f σ H Q q)⟩
theorem PA_weak {X : Cx} {e : List Expr} {t t' : TA} (h : PA X e t) (f : ∀ σ H Q, t' σ H Q → t σ H Q) : PA X e t' := ⟨fun pos pins s σ H Q I q => h.run pos pins s σ H Q I (f σ H Q q)⟩
theorem PS_weak {X : Cx} {e : Stmt} {t t' : TS} (h : PS X e t) (f : ∀ D σ H, t' D σ H → t D σ H) : PS X e t' := ⟨fun pins s σ H D I q => h.run pins s σ H D I (f D σ H q)⟩
theorem PSs_weak {X : Cx} {e : List Stmt} {t t' : TS} (h : PSs X e t) (f : ∀ D σ H, t' D σ H → t D σ H) : PSs X e t' := ⟨fun pins s σ H D I q => h.run pins s σ H D I (f D σ H q)⟩
/-- the expression e is read by m -/
def DE (X : Cx) (c : Ctx) (W : WX) (e : Expr) (m : ME) : Prop := PE X e (tD (gm X c) W m)
/-- .. as a test -/
def DT (X : Cx) (c : Ctx) (W : WX) (e : Expr) (m : ME) : Prop := PT X e (tB (tD (gm X c) W m))
def DW (X : Cx) (c : Ctx) (W : WX) (e : Expr) (m : ME) : Prop := PW X e (tB (tD (gm X c) W m))

/-! ### arguments -/
inductive ARes where
  | ok (ds : List D) (S : Store)
  | exc (e : Exc) (S : Store)
  | stuck
def ARes.bind (r : ARes) (f : List D → Store → Res) : Res := match r with
  | .ok d S => f d S
  | .exc e S => .exc e S
  | .stuck => .stuck
def ARes.cons (d : D) : ARes → ARes
  | .ok ds S => .ok (d :: ds) S
  | .exc e S => .exc e S
  | .stuck => .stuck
def Res.binda (r : Res) (f : D → Store → ARes) : ARes := match r with
  | .ok d S _ => f d S
  | .exc e S => .exc e S
  | .stuck => .stuck
def eArgs : List ME → Env' → Store → ARes
  | [], _, S => .ok [] S
  | m :: ms, env, S => (m env S).binda fun d S1 => (eArgs ms env S1).cons d
def PostA (G : Gam) (W : WX) (σ : St) (H : Hp) (pi rho : List Addr) (Q : List V → Hp → Prop) : ARes → Prop
  | .ok ds S' => ∀ vs H' pi', Rel G H' pi' rho S' → RVs G H' pi' rho vs ds → Go H pi rho H' pi' → Q vs H'
  | .exc e S' => ∀ cls dx H' pi', Rel G H' pi' rho S' → Go H pi rho H' pi' → RExc G H' rho e cls dx → W cls dx σ H'
  | .stuck => False
def tDA (G : Gam) (W : WX) (ms : List ME) : TA := fun σ H Q => ∃ pi rho S env, Rel G H pi rho S ∧ REnv G H pi rho σ env ∧ PostA G W σ H pi rho Q (eArgs ms env S)
def DA (X : Cx) (c : Ctx) (W : WX) (es : List Expr) (ms : List ME) : Prop := PA X es (tDA (gm X c) W ms)
section
variable {G : Gam} {W : WX} {H H1 H' : Hp} {pi pi1 pi' rho : List Addr} {σ σ' : St} {env env' : Env'} {S S' : Store} {Q : VK}
theorem eArgs_length : ∀ {ms : List ME} {env : Env'} {S S1 : Store} {ds : List D}, eArgs ms env S = .ok ds S1 → ds.length = ms.length
  | [], env, S, S1, ds, h => by cases h; rfl
  | m :: ms, env, S, S1, ds, h => by
    have h' : ((m env S).binda fun d S1 => (eArgs ms env S1).cons d) = .ok ds S1 := h
    cases e : m env S with
    | ok d S2 fr =>
      rw [e] at h'
      have h2 : (eArgs ms env S2).cons d = .ok ds S1 := h'
      cases e2 : eArgs ms env S2 with
      | ok ds2 S3 => rw [e2] at h2; cases h2; simp [eArgs_length e2]
      | exc x S3 => rw [e2] at h2; cases h2
      | stuck => rw [e2] at h2; cases h2
    | exc x S2 => rw [e] at h'; cases h'
    | stuck => rw [e] at h'; cases h'
theorem tDA.bind {ms : List ME} {f : List D → Store → Res} {Q' : List V → Hp → Prop} (R : Rel G H pi rho S) (N : REnv G H pi rho σ env) (h : PostE G W σ H pi rho Q ((eArgs ms env S).bind f))
    (k : ∀ vs H1 ds pi1 S1, eArgs ms env S = .ok ds S1 → Rel G H1 pi1 rho S1 → RVs G H1 pi1 rho vs ds → Go H pi rho H1 pi1 → PostE G W σ H1 pi1 rho Q (f ds S1) → Q' vs H1) : tDA G W ms σ H Q' := by
  refine ⟨pi, rho, S, env, R, N, ?_⟩
  cases e : eArgs ms env S with
  | ok d S1 =>
    rw [e] at h
    intro v H1 pi1 R1 r g
    exact k v H1 d pi1 S1 e R1 r g (h.base g)
  | exc x S1 => rw [e] at h; exact h
  | stuck => rw [e] at h; exact h
end
section
variable {X : Cx} {c : Ctx} {W : WX} {e : Expr} {es : List Expr} {m : ME} {ms : List ME}
theorem da_nil : DA X c W [] [] := PA_weak pa_nil fun σ H Q ⟨pi, rho, S, env, R, N, h⟩ => h [] H pi R .nil .refl
theorem da_cons (he : DE X c W e m) (hr : DA X c W es ms) (hs : starEach (e :: es) X.env = (false, eval e X.env) :: starEach es X.env := by rfl) : DA X c W (e :: es) (m :: ms) := by
  refine PA_weak (pa_cons he hr hs) fun σ H Q ⟨pi, rho, S, env, R, N, h⟩ => ?_
  refine ⟨pi, rho, S, env, R, N, ?_⟩
  have h' : PostA (gm X c) W σ H pi rho Q ((m env S).binda fun d S1 => (eArgs ms env S1).cons d) := h
  cases e1 : m env S with
  | ok d S1 fr =>
    rw [e1] at h'
    intro v H1 pi1 R1 r g f1
    have h2 : PostA (gm X c) W σ H pi rho Q ((eArgs ms env S1).cons d) := h'
    refine ⟨pi1, rho, S1, env, R1, N.mono g.x, ?_⟩
    cases e2 : eArgs ms env S1 with
    | ok ds S2 =>
      rw [e2] at h2
      intro vs H2 pi2 R2 r2 g2
      exact h2 (v :: vs) H2 pi2 R2 (.cons (r.mono g2.x) r2) (g.trans g2)
    | exc x S2 =>
      rw [e2] at h2
      exact fun cls dx H2 pi2 R2 g2 q => h2 cls dx H2 pi2 R2 (g.trans g2) q
    | stuck => rw [e2] at h2; exact h2
  | exc x S1 => rw [e1] at h'; exact h'
  | stuck => rw [e1] at h'; exact h'
end

/-! ### plain expressions -/
def eVar (i : Nat) : ME := fun env S => match env[i]? with
  | some (.val d) => .ok d S false
  | _ => .stuck
def eC (d : D) : ME := fun _ S => .ok d S false
def eBin (f : D → D → Store → Res) (a b : ME) : ME := fun env S => (a env S).bind fun x S1 _ => (b env S1).bind fun y S2 _ => f x y S2
def eUn (f : D → Store → Res) (a : ME) : ME := fun env S => (a env S).bind fun x S1 _ => f x S1
def onB (x : D) (t u : Res) : Res := match x with
  | .bl true => t
  | .bl false => u
  | _ => .stuck
@[simp] theorem onB_t (t u : Res) : onB (.bl true) t u = t := rfl
@[simp] theorem onB_f (t u : Res) : onB (.bl false) t u = u := rfl
def eIfE (t a b : ME) : ME := fun env S => (t env S).bind fun x S1 _ => onB x (a env S1) (b env S1)
def eAnd (a b : ME) : ME := fun env S => (a env S).bind fun x S1 _ => onB x (b env S1) (.ok (.bl false) S1 false)
def eOr (a b : ME) : ME := fun env S => (a env S).bind fun x S1 _ => onB x (.ok (.bl true) S1 false) (b env S1)
def eNot (a : ME) : ME := fun env S => (a env S).bind fun x S1 _ => onB x (.ok (.bl false) S1 false) (.ok (.bl true) S1 false)
def eChain (f g : D → D → Store → Res) (a b c : ME) : ME := fun env S => (a env S).bind fun x S1 _ => (b env S1).bind fun y S2 _ => (f x y S2).bind fun z S3 _ => onB z ((c env S3).bind fun w S4 _ => g y w S4) (.ok (.bl false) S3 false)
/-- a new thing becomes one that changes; what changes already is left -/
def thawR (x : D) (S1 : Store) (fr : Bool) : Res := match x with
  | .ref n => .ok (.ref n) S1 false
  | x => if fr = true then (match toO x with
    | some o => .ok (.ref S1.length) (S1 ++ [o]) false
    | none => .stuck) else .stuck
def eThaw (a : ME) : ME := fun env S => (a env S).bind thawR
def eTup (ms : List ME) : ME := fun env S => (eArgs ms env S).bind fun ds S1 => .ok (.tup ds) S1 false
def eLst (ms : List ME) : ME := fun env S => (eArgs ms env S).bind fun ds S1 => .ok (.lst ds) S1 true
def eCallF (F : MF) (ms : List ME) : ME := fun env S => (eArgs ms env S).bind fun ds S1 => F ds S1

def OpS (G : Gam) (r : R2) (f : D → D → Store → Res) : Prop := ∀ (W : WX) (σ : St) (H : Hp) (pi rho : List Addr) (S : Store) (x y : V) (dx dy : D) (Q : VK), Rel G H pi rho S → RV G H pi rho x dx → RV G H pi rho y dy → PostE G W σ H pi rho Q (f dx dy S) → r x y H Q
def CallS (G : Gam) (r : List V → Hp → VK → Prop) (F : MF) : Prop := ∀ (W : WX) (σ : St) (H : Hp) (pi rho : List Addr) (S : Store) (xs : List V) (ds : List D) (Q : VK), Rel G H pi rho S → RVs G H pi rho xs ds → PostE G W σ H pi rho Q (F ds S) → r xs H Q

section
variable {X : Cx} {c : Ctx} {W : WX} {a b d e : Expr} {es : List Expr} {m ma mb mc md : ME} {ms : List ME} {pos : Pos}
theorem de_var (i : Nat) {x : Str} (hN : X.N[i]? = some x := by rfl) (hv : Vis X.env.scope x := by first | exact Or.inl rfl | exact Or.inr (Or.inl rfl) | exact Or.inr (Or.inr rfl)) (hd : (x == ("__debug__" : Str)) = false := by decide)
    (hcd : (x == ("__classdict__" : Str)) = false := by decide) : DE X c W (.Name x pos) (eVar i) := by
  refine PE_weak (pe_var hN hv hd hcd) fun σ H Q ⟨pi, rho, S, env, R, N, h⟩ => ?_
  unfold eVar at h
  split at h
  · rename_i dd e
    obtain ⟨v, ev, r⟩ := N.at_ i _ e
    exact ⟨v, ev, h.fin R r⟩
  · exact h.elim
theorem de_c {v : V} {dd : D} (he : PE X e (tC v)) (r : ∀ H pi rho, RV (gm X c) H pi rho v dd) : DE X c W e (eC dd) :=
  PE_weak he fun σ H Q ⟨pi, rho, S, env, R, N, h⟩ => h.fin R (r H pi rho)
theorem de_int {i : Int} {j : Nat} : DE X c W (.Constant (.int i) j pos) (eC (.int i)) := de_c pe_int fun _ _ _ => .int i
theorem de_bl {i : Bool} {j : Nat} : DE X c W (.Constant (.bool i) j pos) (eC (.bl i)) := de_c pe_bl fun _ _ _ => .bl i
theorem de_non {j : Nat} : DE X c W (.Constant .none j pos) (eC .non) := de_c pe_non fun _ _ _ => .non
theorem de_str {x : Str} {j : Nat} (h : PyData.strOk x = true := by decide +kernel) : DE X c W (.Constant (.str x) j pos) (eC (.str x)) := de_c pe_str fun _ _ _ => .str h
theorem de_gstr {x z : Str} {u : Value} (hg : Gl X x) (hm : X.mg x = some u) (r : RelV (.str z) u) (h : PyData.strOk z = true) (hd : (x == ("__debug__" : Str)) = false := by decide) : DE X c W (.Name x pos) (eC (.str z)) := de_c (pe_glob hg hm r hd) fun _ _ _ => .str h
theorem de_gint {x : Str} {z : Int} {u : Value} (hg : Gl X x) (hm : X.mg x = some u) (r : RelV (.int z) u) (hd : (x == ("__debug__" : Str)) = false := by decide) : DE X c W (.Name x pos) (eC (.int z)) := de_c (pe_glob hg hm r hd) fun _ _ _ => .int z
theorem de_bin {op : Operator} {r : R2} {f : D → D → Store → Res} (ho : OpR X (binaryOp op) r) (hs : OpS (gm X c) r f) (ha : DE X c W a ma) (hb : DE X c W b mb) : DE X c W (.BinOp a op b pos) (eBin f ma mb) :=
  PE_weak (pe_op ho ha hb) fun σ H Q ⟨pi, rho, S, env, R, N, h⟩ => tD.bind R N h fun x H1 dx pi1 S1 _ R1 r1 g1 _ h1 => tD.bind R1 (N.mono g1.x) h1 fun y H2 dy pi2 S2 _ R2 r2 g2 _ h2 => hs _ _ _ _ _ _ _ _ _ _ _ R2 (r1.mono g2.x) r2 h2
theorem de_cmp {op : CmpOp} {r : R2} {f : D → D → Store → Res} (ho : OpR X (compareOp op) r) (hs : OpS (gm X c) r f) (ha : DE X c W a ma) (hb : DE X c W b mb) (hm : behindInMarks op b = false) : DE X c W (.Compare a [op] [b] pos) (eBin f ma mb) :=
  PE_weak (pe_cmpR ho ha hb hm) fun σ H Q ⟨pi, rho, S, env, R, N, h⟩ => tD.bind R N h fun x H1 dx pi1 S1 _ R1 r1 g1 _ h1 => tD.bind R1 (N.mono g1.x) h1 fun y H2 dy pi2 S2 _ R2 r2 g2 _ h2 => hs _ _ _ _ _ _ _ _ _ _ _ R2 (r1.mono g2.x) r2 h2
theorem dt_cmp {op : CmpOp} {r : R2} {f : D → D → Store → Res} (ho : OpR X (compareOp op) r) (hs : OpS (gm X c) r f) (ha : DE X c W a ma) (hb : DE X c W b mb) (hm : behindInMarks op b = false) : DT X c W (.Compare a [op] [b] pos) (eBin f ma mb) :=
  PT_weak (pt_cmpR ho ha hb hm) fun σ H Q ⟨pi, rho, S, env, R, N, h⟩ => tD.bind R N h fun x H1 dx pi1 S1 _ R1 r1 g1 _ h1 => tD.bind R1 (N.mono g1.x) h1 fun y H2 dy pi2 S2 _ R2 r2 g2 _ h2 => hs _ _ _ _ _ _ _ _ _ _ _ R2 (r1.mono g2.x) r2 h2
/-- a reading's test -/
theorem bl_of {G : Gam} {H : Hp} {pi rho : List Addr} {x : V} {k : Bool} (r : RV G H pi rho x (.bl k)) : x = .bl k := by cases r; rfl
theorem chain_ok {r r' : R2} {f g : D → D → Store → Res} {Q : VK} {σ : St} {H : Hp} {pi rho : List Addr} {S : Store} {env : Env'} (hs : OpS (gm X c) r f) (hs' : OpS (gm X c) r' g) (R : Rel (gm X c) H pi rho S) (N : REnv (gm X c) H pi rho σ env)
    (h : PostE (gm X c) W σ H pi rho Q (eChain f g ma mb mc env S)) : tChain r r' (tD (gm X c) W ma) (tD (gm X c) W mb) (tD (gm X c) W mc) σ H Q := by
  refine tD.bind R N h fun x H1 dx pi1 S1 _ R1 r1 g1 _ h1 => tD.bind R1 (N.mono g1.x) h1 fun y H2 dy pi2 S2 _ R2 r2 g2 _ h2 => ?_
  have rx := r1.mono g2.x
  refine hs W σ _ _ _ S2 _ _ dx dy _ R2 rx r2 ?_
  cases e : f dx dy S2 with
  | ok z S3 fr =>
    rw [e] at h2
    intro v H3 pi3 R3 r3 g3 _
    have h3 := PostE.base g3 h2
    cases z with
    | bl k =>
      refine ⟨k, bl_of r3, ?_⟩
      cases k with
      | true =>
        rw [if_pos rfl]
        exact tD.bind R3 (N.mono ((g1.trans g2).trans g3).x) h3 fun w' H4 dw pi4 S4 _ R4 r4 g4 _ h4 => hs' _ _ _ _ _ _ _ _ _ _ _ R4 ((r2.mono g3.x).mono g4.x) r4 h4
      | false =>
        rw [if_neg Bool.false_ne_true]
        exact PostE.fin (S := S3) h3 R3 (.bl false)
    | _ => exact h3.elim
  | exc x S3 => rw [e] at h2; exact h2
  | stuck => rw [e] at h2; exact h2
theorem dt_chain {op op' : CmpOp} {r r' : R2} {f g : D → D → Store → Res} (ho : OpR X (compareOp op) r) (ho' : OpR X (compareOp op') r') (hs : OpS (gm X c) r f) (hs' : OpS (gm X c) r' g) (ha : DE X c W a ma) (hb : DE X c W b mb) (hc : DE X c W d mc)
    (hm : lastMarks [op, op'] [b, d] = false := by with_unfolding_all rfl) : DT X c W (.Compare a [op, op'] [b, d] pos) (eChain f g ma mb mc) :=
  PT_weak (pt_chain ho ho' ha hb hc hm) fun σ H Q ⟨pi, rho, S, env, R, N, h⟩ => chain_ok hs hs' R N h
theorem dt_val (he : DE X c W e m) (h : ∀ whole, isTrue e X.env whole = (do let v ← whole; standAt e.pos; holding [v] (truthy v)) := by intro _; rfl) : DT X c W e m := pt_val he h
theorem dt_of_w (h : DW X c W e m) : DT X c W e m := PW.pt h
theorem dw_and1 (h : DT X c W a m) : DW X c W (.BoolOp .And [a] pos) m := pw_and1 h
theorem dw_or1 (h : DT X c W a m) : DW X c W (.BoolOp .Or [a] pos) m := pw_or1 h
/-- a test's reading: by the answer -/
theorem onB_ok {G : Gam} {σ : St} {H : Hp} {pi rho : List Addr} {S : Store} {env : Env'} {t u : Store → Res} {Q : VK} {Q' : Bool → Hp → Prop} (R : Rel G H pi rho S) (N : REnv G H pi rho σ env) (h : PostE G W σ H pi rho Q ((ma env S).bind fun x S1 _ => onB x (t S1) (u S1)))
    (ht : ∀ H1 pi1 S1, Rel G H1 pi1 rho S1 → Go H pi rho H1 pi1 → PostE G W σ H1 pi1 rho Q (t S1) → Q' true H1) (hu : ∀ H1 pi1 S1, Rel G H1 pi1 rho S1 → Go H pi rho H1 pi1 → PostE G W σ H1 pi1 rho Q (u S1) → Q' false H1) : tB (tD G W ma) σ H Q' := by
  refine tD.bind R N h fun x H1 dx pi1 S1 _ R1 r1 g1 _ h1 => ?_
  cases dx with
  | bl k =>
    refine ⟨k, bl_of r1, ?_⟩
    cases k with
    | true => exact ht H1 pi1 S1 R1 g1 h1
    | false => exact hu H1 pi1 S1 R1 g1 h1
  | _ => exact h1.elim
theorem tB_of {G : Gam} {σ : St} {H : Hp} {pi rho : List Addr} {S : Store} {env : Env'} {Q : Bool → Hp → Prop} (R : Rel G H pi rho S) (N : REnv G H pi rho σ env) (h : PostE G W σ H pi rho (fun v H' => ∃ k, v = .bl k ∧ Q k H') (m env S)) : tB (tD G W m) σ H Q := ⟨pi, rho, S, env, R, N, h⟩
theorem dw_and {rest : List Expr} (ha : DT X c W a ma) (hb : DW X c W (.BoolOp .And (b :: rest) pos) mb) : DW X c W (.BoolOp .And (a :: b :: rest) pos) (eAnd ma mb) :=
  PW_weak (pw_and ha hb) fun σ H Q ⟨pi, rho, S, env, R, N, h⟩ => onB_ok R N h (fun H1 pi1 S1 R1 g1 h1 => by rw [if_pos rfl]; exact tB_of R1 (N.mono g1.x) h1) (fun H1 pi1 S1 R1 g1 h1 => by
    rw [if_neg Bool.false_ne_true]
    obtain ⟨k, e, q⟩ := PostE.fin h1 R1 (.bl false)
    cases e; exact q)
theorem dw_or {rest : List Expr} (ha : DT X c W a ma) (hb : DW X c W (.BoolOp .Or (b :: rest) pos) mb) : DW X c W (.BoolOp .Or (a :: b :: rest) pos) (eOr ma mb) :=
  PW_weak (pw_or ha hb) fun σ H Q ⟨pi, rho, S, env, R, N, h⟩ => onB_ok R N h (fun H1 pi1 S1 R1 g1 h1 => by
    rw [if_pos rfl]
    obtain ⟨k, e, q⟩ := PostE.fin h1 R1 (.bl true)
    cases e; exact q) (fun H1 pi1 S1 R1 g1 h1 => by rw [if_neg Bool.false_ne_true]; exact tB_of R1 (N.mono g1.x) h1)
theorem dt_not (ha : DT X c W a ma) : DT X c W (.UnaryOp .Not a pos) (eNot ma) :=
  PT_weak (pt_not ha) fun σ H Q ⟨pi, rho, S, env, R, N, h⟩ => onB_ok R N h (fun H1 pi1 S1 R1 g1 h1 => by
    obtain ⟨k, e, q⟩ := PostE.fin h1 R1 (.bl false)
    cases e; exact q) (fun H1 pi1 S1 R1 g1 h1 => by
    obtain ⟨k, e, q⟩ := PostE.fin h1 R1 (.bl true)
    cases e; exact q)
theorem de_one {op : BoolOp} (h : DE X c W a m) : DE X c W (.BoolOp op [a] pos) m := pe_one h
theorem de_and {rest : List Expr} (ha : DE X c W a ma) (hb : DE X c W (.BoolOp .And (b :: rest) pos) mb) : DE X c W (.BoolOp .And (a :: b :: rest) pos) (eAnd ma mb) :=
  PE_weak (pe_and ha hb) fun σ H Q ⟨pi, rho, S, env, R, N, h⟩ => by
    refine tD.bind R N h fun x H1 dx pi1 S1 _ R1 r1 g1 _ h1 => ?_
    cases dx with
    | bl k =>
      refine ⟨k, bl_of r1, ?_⟩
      cases k with
      | true => rw [if_pos rfl]; exact ⟨pi1, rho, S1, env, R1, N.mono g1.x, h1⟩
      | false => rw [if_neg Bool.false_ne_true]; exact PostE.fin h1 R1 (.bl false)
    | _ => exact h1.elim
theorem de_or {rest : List Expr} (ha : DE X c W a ma) (hb : DE X c W (.BoolOp .Or (b :: rest) pos) mb) : DE X c W (.BoolOp .Or (a :: b :: rest) pos) (eOr ma mb) :=
  PE_weak (pe_or ha hb) fun σ H Q ⟨pi, rho, S, env, R, N, h⟩ => by
    refine tD.bind R N h fun x H1 dx pi1 S1 _ R1 r1 g1 _ h1 => ?_
    cases dx with
    | bl k =>
      refine ⟨k, bl_of r1, ?_⟩
      cases k with
      | true => rw [if_pos rfl]; exact PostE.fin h1 R1 (.bl true)
      | false => rw [if_neg Bool.false_ne_true]; exact ⟨pi1, rho, S1, env, R1, N.mono g1.x, h1⟩
    | _ => exact h1.elim
theorem de_not (ha : DE X c W a ma) : DE X c W (.UnaryOp .Not a pos) (eNot ma) :=
  PE_weak (pe_not ha) fun σ H Q ⟨pi, rho, S, env, R, N, h⟩ => by
    refine tD.bind R N h fun x H1 dx pi1 S1 _ R1 r1 g1 _ h1 => ?_
    cases dx with
    | bl k =>
      refine ⟨k, bl_of r1, ?_⟩
      cases k with
      | true => exact PostE.fin h1 R1 (.bl false)
      | false => exact PostE.fin h1 R1 (.bl true)
    | _ => exact h1.elim
theorem tD_thaw {G : Gam} {σ : St} {H : Hp} {Q : VK} (h : tD G W (eThaw ma) σ H Q) : tD G W ma σ H Q := by
  obtain ⟨pi, rho, S, env, R, N, h⟩ := h
  refine ⟨pi, rho, S, env, R, N, ?_⟩
  have h' : PostE G W σ H pi rho Q ((ma env S).bind thawR) := h
  cases e : ma env S with
  | ok d S1 fr =>
    rw [e] at h'
    intro v H1 pi1 R1 r1 g1 f1
    have h2 : PostE G W σ H pi rho Q (thawR d S1 fr) := h'
    have gen : PostE G W σ H pi rho Q (if fr = true then (match toO d with
      | some o => .ok (.ref S1.length) (S1 ++ [o]) false
      | none => .stuck) else .stuck) → Q v H1 := fun h' => by
      cases fr with
      | false => exact h'.elim
      | true =>
        obtain ⟨p, o, rfl, np, nr, eo, ro, Rr⟩ := f1 rfl
        rw [if_pos rfl, eo] at h'
        have R2 := Rr.push nr ro
        have hp : p ∉ pi1 := fun q => Rr.dis p q List.mem_cons_self
        refine h' (.ref p) H1 (pi1 ++ [p]) R2 (.ref (by rw [List.getElem?_append_right (by rw [R1.len]; exact Nat.le_refl _), R1.len, Nat.sub_self]; rfl)) ?_ fun z => by cases z
        refine ⟨⟨g1.x.tup, g1.x.frz, fun b u e n m => ?_, fun n b e => ?_, g1.x.dom⟩, g1.res, fun b hb nb => ?_⟩
        · obtain ⟨q1, q2, q3⟩ := g1.x.keep b u e n m
          refine ⟨q1, ?_, q3⟩
          rw [List.mem_append]; rintro (q | q)
          · exact q2 q
          · rw [List.mem_singleton] at q; subst q; rw [np] at e; cases e
        · have := g1.x.ref n b e
          rw [List.getElem?_append_left (List.getElem?_eq_some_iff.mp this).1]; exact this
        · rw [List.mem_append] at hb
          rcases hb with hb | hb
          · exact g1.new' b hb nb
          · rw [List.mem_singleton] at hb; subst hb; exact np
    cases d with
    | ref n => exact h2 v H1 pi1 R1 r1 g1 fun z => by cases z
    | _ => exact gen h2
  | exc x S1 => rw [e] at h'; exact h'
  | stuck => rw [e] at h'; exact h'
theorem de_thaw (ha : DE X c W a ma) : DE X c W a (eThaw ma) := PE_weak ha fun σ H Q h => tD_thaw h
theorem eC_tup {G : Gam} {H : Hp} {pi rho : List Addr} {S : Store} {σ : St} {Q : VK} {vs : List V} {ds : List D} {p : Addr} {b : Bool} (h : PostE G W σ H pi rho Q (.ok (.tup ds) S b)) (R : Rel G H pi rho S) (r : RVs G H pi rho vs ds) (hz : vs.length ≤ sizeLine) (hp : H p = none) (hb : b = false) :
    Q (.ref p) (upd H p (.tup vs)) := by
  subst hb
  exact h _ _ pi (R.new hp) (.tup upd_same hz (r.mono (Ext.new hp))) (Go.new hp) fun z => by cases z
theorem line1000 {n : Nat} (h : n ≤ 1000) : n ≤ sizeLine := by rw [sizeLine_eq]; omega
theorem de_tup {k : Nat} (ha : DA X c W es ms) (hn : ms.length ≤ 1000 := by decide) : DE X c W (.Tuple es k pos) (eTup ms) :=
  PE_weak (pe_tup ha) fun σ H Q ⟨pi, rho, S, env, R, N, h⟩ => tDA.bind R N h fun vs H1 ds pi1 S1 e R1 r1 g1 h1 => by
    have hz : vs.length ≤ sizeLine := by rw [r1.length, eArgs_length e]; exact line1000 hn
    exact ⟨hz, fun p hp => eC_tup h1 R1 r1 hz hp rfl⟩
theorem de_lst (ha : DA X c W es ms) (hn : ms.length ≤ 1000 := by decide) : DE X c W (.List es pos) (eLst ms) :=
  PE_weak (pe_lst ha) fun σ H Q ⟨pi, rho, S, env, R, N, h⟩ => tDA.bind R N h fun vs H1 ds pi1 S1 e R1 r1 g1 h1 => by
    have hz : vs.length ≤ sizeLine := by rw [r1.length, eArgs_length e]; exact line1000 hn
    exact ⟨hz, fun p hp => h1.newL R1 r1 hz hp⟩
/-- a built-in function -/
theorem de_callB {id : String} {r : List V → Hp → VK → Prop} {F : MF} {x : Str} {p : Pos} (hc : CallR X (.builtin id) r) (hs : CallS (gm X c) r F) (hg : Gl X x) (hm : X.mg x = none) (hv : bootBuiltins x = some (.builtin id)) (ha : DA X c W (e :: es) ms) (hn : x ≠ "__name__" := by decide) (hdb : (x == ("__debug__" : Str)) = false := by decide)
    (he : starEach (e :: es) X.env = (false, eval e X.env) :: starEach es X.env := by rfl) (hpl : (backTo pos (starEach es X.env)).any (·.1) = false := by rfl) : DE X c W (.Call (.Name x p) (e :: es) [] pos) (eCallF F ms) :=
  PE_weak (pe_callB hc hg hm hv ha hn hdb he hpl) fun σ H Q ⟨pi, rho, S, env, R, N, h⟩ => tDA.bind R N h fun vs H1 ds pi1 S1 e R1 r1 g1 h1 => hs _ _ _ _ _ _ _ _ _ R1 r1 h1
/-- a built-in class -/
theorem de_callTy {T : String} {r : List V → Hp → VK → Prop} {F : MF} {x : Str} {p : Pos} (hc : CallR X (.type T) r) (hs : CallS (gm X c) r F) (hg : Gl X x) (hm : X.mg x = none) (hv : bootBuiltins x = some (.type T)) (ha : DA X c W (e :: es) ms) (hn : x ≠ "__name__" := by decide) (hdb : (x == ("__debug__" : Str)) = false := by decide)
    (he : starEach (e :: es) X.env = (false, eval e X.env) :: starEach es X.env := by rfl) (hpl : (backTo pos (starEach es X.env)).any (·.1) = false := by rfl) : DE X c W (.Call (.Name x p) (e :: es) [] pos) (eCallF F ms) :=
  PE_weak (pe_callTy hc hg hm hv ha hn hdb he hpl) fun σ H Q ⟨pi, rho, S, env, R, N, h⟩ => tDA.bind R N h fun vs H1 ds pi1 S1 e R1 r1 g1 h1 => hs _ _ _ _ _ _ _ _ _ R1 r1 h1
end
end DL
namespace DL
open PySem L2

/-! ### operations on values -/
/-- a list's items -/
def lstOf (S : Store) : D → Option (List D)
  | .lst ds => some ds
  | .ref n => match S[n]? with
    | some (.lst ds) => some ds
    | _ => none
  | _ => none
/-- a list's or a tuple's items -/
def seqOf (S : Store) : D → Option (List D)
  | .tup ds => some ds
  | .ktup ds => some ds
  | .scr ns => some (ns.map .int)
  | d => lstOf S d
section
variable {G : Gam} {H : Hp} {pi rho : List Addr} {S : Store} {v : V} {d : D} {ds : List D}
theorem lst_ref {n : Nat} {S : Store} {ds : List D} (e : lstOf S (.ref n) = some ds) : S[n]? = some (.lst ds) := by
  have e' : (match S[n]? with
    | some (.lst ds) => some ds
    | _ => none) = some ds := e
  cases q : S[n]? with
  | none => rw [q] at e'; cases e'
  | some o =>
    rw [q] at e'
    cases o with
    | lst xs => cases e'; rfl
    | dct tk kvs => cases e'
    | ins c fs => cases e'
    | fz kvs => cases e'
theorem lstOf_ok (R : Rel G H pi rho S) (r : RV G H pi rho v d) (e : lstOf S d = some ds) : ∃ a vs, v = .ref a ∧ H a = some (.lst vs) ∧ vs.length ≤ sizeLine ∧ RVs G H pi rho vs ds := by
  cases r with
  | lst h n m z q =>
    have e : some _ = some ds := e
    cases e; exact ⟨_, _, rfl, h, z, q⟩
  | ref h =>
    obtain ⟨o, eo, ro⟩ := R.addr h
    rw [lst_ref e] at eo
    cases eo
    obtain ⟨vs, h1, z, q⟩ := ro
    exact ⟨_, _, rfl, h1, z, q⟩
  | _ => cases e
theorem ints_rv : ∀ ns : List Int, RVs G H pi rho (ns.map V.int) (ns.map D.int)
  | [] => .nil
  | n :: r => .cons (.int n) (ints_rv r)
theorem seqOf_ok (R : Rel G H pi rho S) (r : RV G H pi rho v d) (e : seqOf S d = some ds) : ∃ a vs, v = .ref a ∧ (SqL G.K H a vs ∨ SqT G.K H a vs) ∧ vs.length ≤ sizeLine ∧ RVs G H pi rho vs ds := by
  have gen : lstOf S d = some ds → ∃ a vs, v = .ref a ∧ (SqL G.K H a vs ∨ SqT G.K H a vs) ∧ vs.length ≤ sizeLine ∧ RVs G H pi rho vs ds := fun e => by
    obtain ⟨a, vs, e1, h, z, q⟩ := lstOf_ok R r e
    exact ⟨a, vs, e1, .inl (.inl (.inl h)), z, q⟩
  cases d with
  | tup xs =>
    cases e
    cases r with
    | tup h z q => exact ⟨_, _, rfl, .inr (SqT.of h), z, q⟩
  | ktup xs =>
    cases e
    cases r with
    | ktup h z q => exact ⟨_, _, rfl, .inr (.inr h), z, q⟩
  | scr ns =>
    cases e
    cases r with
    | scr h z => exact ⟨_, _, rfl, .inl h.sq, by simpa using z, ints_rv ns⟩
  | _ => exact gen e
end
def isTup : D → Bool
  | .tup _ => true
  | _ => false

def vAdd : D → D → Store → Res
  | .int i, .int j, S => .ok (.int (i + j)) S false
  | .str x, .str y, S => if x.length + y.length ≤ 16777216 then .ok (.str (x ++ y)) S false else .stuck
  | .tup xs, .tup ys, S => if xs.length + ys.length ≤ 16777216 then .ok (.tup (xs ++ ys)) S false else .stuck
  | x, y, S => match lstOf S x, lstOf S y with
    | some xs, some ys => if xs.length + ys.length ≤ 16777216 then .ok (.lst (xs ++ ys)) S true else .stuck
    | _, _ => .stuck
def rAddU (K : PySem.W.Frag) : R2 := fun x y H Q => rI0 (fun i j => .int (i + j)) x y H Q ∨ (∃ i j, x = .str i ∧ y = .str j ∧ i.length + j.length ≤ sizeLine ∧ Q (.str (i ++ j)) H) ∨ rCatA K x y H Q ∨ rCat x y H Q
theorem op_addU {X : Cx} : OpR X (binaryOp .Add) (rAddU X.K) := op_add.or (op_add_str.or (op_catA.or op_cat))
theorem strOk_append {x y : Str} (hx : PyData.strOk x = true) (hy : PyData.strOk y = true) : PyData.strOk (x ++ y) = true := by
  unfold PyData.strOk at *
  show (x.cps ++ y.cps).all _ = true
  rw [Array.all_append, hx, hy]; rfl
theorem vAdd_ok {G : Gam} : OpS G (rAddU G.K) vAdd := by
  intro W σ H pi rho S x y dx dy Q R rx ry h
  have lists : ∀ (xs ys : List D), lstOf S dx = some xs → lstOf S dy = some ys → PostE G W σ H pi rho Q (if xs.length + ys.length ≤ 16777216 then .ok (.lst (xs ++ ys)) S true else .stuck) → rAddU G.K x y H Q := fun xs ys e1 e2 h => by
    obtain ⟨a, vs, rfl, h1, z1, q1⟩ := lstOf_ok R rx e1
    obtain ⟨b, ws, rfl, h2, z2, q2⟩ := lstOf_ok R ry e2
    split at h
    · rename_i hz
      have hz' : vs.length + ws.length ≤ sizeLine := by rw [q1.length, q2.length, sizeLine_eq]; exact hz
      exact .inr (.inr (.inr ⟨a, b, vs, ws, rfl, rfl, h1, h2, hz', fun p hp => h.newL R (q1.append q2) (by rw [List.length_append]; exact hz') hp⟩))
    · exact h.elim
  unfold vAdd at h
  split at h
  · rename_i i j
    cases rx; cases ry
    exact .inl ⟨i, j, rfl, rfl, h.fin R (.int _)⟩
  · rename_i i j
    cases rx with | str hx =>
    cases ry with | str hy =>
    split at h
    · rename_i hz
      exact .inr (.inl ⟨i, j, rfl, rfl, by rw [sizeLine_eq]; exact hz, h.fin R (.str (strOk_append hx hy))⟩)
    · exact h.elim
  · rename_i xs ys
    cases rx with | tup h1 z1 q1 =>
    cases ry with | tup h2 z2 q2 =>
    rename_i a vs b ws
    split at h
    · rename_i hz
      have hz' : vs.length + ws.length ≤ sizeLine := by rw [q1.length, q2.length, sizeLine_eq]; exact hz
      refine .inr (.inr (.inl ⟨a, b, vs, ws, rfl, rfl, SqT.of h1, SqT.of h2, hz', fun e => ?_, fun _ e => ?_, fun _ _ p hp => ?_⟩))
      · subst e; cases q1
        exact h.fin R (.tup h2 z2 q2)
      · subst e; cases q2
        rw [List.append_nil] at h
        exact h.fin R (.tup h1 z1 q1)
      · exact eC_tup h R (q1.append q2) (by rw [List.length_append]; exact hz') hp rfl
    · exact h.elim
  · split at h
    · rename_i e1 e2
      exact lists _ _ e1 e2 h
    · exact h.elim
def vSub : D → D → Store → Res
  | .int i, .int j, S => .ok (.int (i - j)) S false
  | _, _, _ => .stuck
theorem vSub_ok {G : Gam} : OpS G (rI0 fun i j => .int (i - j)) vSub := by
  intro W σ H pi rho S x y dx dy Q R rx ry h
  unfold vSub at h
  split at h
  · cases rx; cases ry
    exact ⟨_, _, rfl, rfl, h.fin R (.int _)⟩
  · exact h.elim
/-- a product: both in size below 2^1000 -/
def vMul : D → D → Store → Res
  | .int i, .int j, S => if (-(2 ^ 64) < i ∧ i < 2 ^ 64) ∨ (-(2 ^ 64) < j ∧ j < 2 ^ 64) then .ok (.int (i * j)) S false else .stuck
  | x, .int k, S => match lstOf S x with
    | some xs => if -(2 ^ 63) ≤ k ∧ k < 2 ^ 63 ∧ xs.length * k.toNat ≤ 16777216 then .ok (.lst (List.replicate k.toNat xs).flatten) S true else .stuck
    | none => .stuck
  | _, _, _ => .stuck
theorem RVs.rep {G : Gam} {H : Hp} {pi rho : List Addr} {vs : List V} {ds : List D} (r : RVs G H pi rho vs ds) : ∀ k : Nat, RVs G H pi rho (List.replicate k vs).flatten (List.replicate k ds).flatten
  | 0 => .nil
  | k + 1 => by rw [List.replicate_succ, List.replicate_succ, List.flatten_cons, List.flatten_cons]; exact r.append (r.rep k)
theorem vMul_ok {G : Gam} : OpS G (fun x y H Q => rI CMul (fun i j => .int (i * j)) x y H Q ∨ rRep x y H Q) vMul := by
  intro W σ H pi rho S x y dx dy Q R rx ry h
  unfold vMul at h
  split at h
  · cases rx; cases ry
    split at h
    · rename_i hc
      exact .inl ⟨_, _, rfl, rfl, hc, h.fin R (.int _)⟩
    · exact h.elim
  · cases ry
    split at h
    · rename_i e
      obtain ⟨a, vs, rfl, h1, z1, q1⟩ := lstOf_ok R rx e
      split at h
      · rename_i hz
        have hz' := hz.2.2
        rw [← q1.length, ← sizeLine_eq] at hz'
        exact .inr ⟨a, _, vs, rfl, rfl, h1, hz.1, hz.2.1, hz', fun p hp => h.newL R (q1.rep _) (by simpa [List.length_flatten, Nat.mul_comm] using hz') hp⟩
      · exact h.elim
    · exact h.elim
  · exact h.elim
def vFdiv : D → D → Store → Res
  | .int i, .int j, S => if 0 < j ∧ j < 1000000000000000000000000000000 then .ok (.int (i / j)) S false else .stuck
  | _, _, _ => .stuck
theorem vFdiv_ok {G : Gam} : OpS G (rI CDivW fun i j => .int (i / j)) vFdiv := by
  intro W σ H pi rho S x y dx dy Q R rx ry h
  unfold vFdiv at h
  split at h
  · cases rx; cases ry
    split at h
    · rename_i hc
      exact ⟨_, _, rfl, rfl, wide_div hc.1 (b := 100) (by omega) (by decide) (by decide), h.fin R (.int _)⟩
    · exact h.elim
  · exact h.elim
def vMod : D → D → Store → Res
  | .int i, .int j, S => if 0 < j then .ok (.int (i % j)) S false else .stuck
  | _, _, _ => .stuck
theorem vMod_ok {G : Gam} : OpS G (rI (fun _ j => 0 < j) fun i j => .int (i % j)) vMod := by
  intro W σ H pi rho S x y dx dy Q R rx ry h
  unfold vMod at h
  split at h
  · cases rx; cases ry
    split at h
    · rename_i hc
      exact ⟨_, _, rfl, rfl, hc, h.fin R (.int _)⟩
    · exact h.elim
  · exact h.elim
def vPow : D → D → Store → Res
  | .int i, .int j, S => if 0 ≤ j ∧ j ≤ 1000 ∧ i.natAbs < 2 ^ 64 then .ok (.int (i ^ j.toNat)) S false else .stuck
  | _, _, _ => .stuck
theorem vPow_ok {G : Gam} : OpS G (rI CPow fun i j => .int (i ^ j.toNat)) vPow := by
  intro W σ H pi rho S x y dx dy Q R rx ry h
  unfold vPow at h
  split at h
  · cases rx; cases ry
    split at h
    · rename_i hc
      exact ⟨_, _, rfl, rfl, ⟨hc.1, by omega, hc.2.2⟩, h.fin R (.int _)⟩
    · exact h.elim
  · exact h.elim
def vNeg : D → Store → Res
  | .int i, S => .ok (.int (-i)) S false
  | _, _ => .stuck
end DL
namespace DL
open PySem L2

/-! ### data, equality -/
def allSome {α : Type} : List (Option α) → Option (List α)
  | [] => some []
  | some x :: r => (allSome r).map (x :: ·)
  | none :: _ => none
def snap : Nat → Store → D → Option PyData
  | 0, _, _ => none
  | k + 1, S, d => match d with
    | .non => some .none
    | .bl b => some (.bool b)
    | .int i => some (.int i)
    | .str s => some (.str s)
    | .tup xs => (allSome (xs.map (snap k S))).map .tuple
    | .ktup xs => (allSome (xs.map (snap k S))).map .tuple
    | .lst xs => (allSome (xs.map (snap k S))).map .list
    | .scr ns => some (.list (ns.map .int))
    | .ref n => match S[n]? with
      | some (.lst xs) => (allSome (xs.map (snap k S))).map .list
      | _ => none
    | _ => none
section
variable {G : Gam} {H : Hp} {pi rho : List Addr} {S : Store}
def SnapOk (G : Gam) (H : Hp) (v : V) (k : Nat) (p : PyData) : Prop := Dp G.K H v p ∧ p.canLay0 = true ∧ p.depth ≤ k
def SnapAll (G : Gam) (H : Hp) (vs : List V) (k : Nat) (ps : List PyData) : Prop := DpAll G.K H vs ps ∧ PyData.canLayAll0 ps = true ∧ PyData.depthAll ps ≤ k
theorem snapAll_of {k : Nat} (f : D → Option PyData) (h : ∀ v d p, RV G H pi rho v d → f d = some p → SnapOk G H v k p) :
    ∀ {vs : List V} {ds : List D} {ps : List PyData}, RVs G H pi rho vs ds → allSome (ds.map f) = some ps → SnapAll G H vs k ps
  | _, _, ps, .nil, e => by cases e; exact ⟨.nil, by simp [PyData.canLayAll0], by simp [PyData.depthAll]⟩
  | _, _, ps, .cons (d := d) (ds := ds) r rs, e => by
    rw [List.map_cons] at e
    cases e1 : f d with
    | none => rw [e1] at e; cases e
    | some p =>
      rw [e1] at e
      have e' : (allSome (ds.map f)).map (p :: ·) = some ps := e
      cases e2 : allSome (ds.map f) with
      | none => rw [e2] at e'; cases e'
      | some qs =>
        rw [e2] at e'
        cases e'
        obtain ⟨h1, h2, h3⟩ := h _ _ _ r e1
        obtain ⟨g1, g2, g3⟩ := snapAll_of f h rs e2
        exact ⟨.cons h1 g1, by simp [PyData.canLayAll0, h2, g2], by simp only [PyData.depthAll]; exact Nat.max_le.mpr ⟨h3, g3⟩⟩
theorem SnapAll.lst {vs : List V} {k : Nat} {ps : List PyData} {a : Addr} (h : SnapAll G H vs k ps) (hl : SqL G.K H a vs) : SnapOk G H (.ref a) (k + 1) (.list ps) := ⟨.lst hl h.1, by simp [PyData.canLay0, h.2.1], by simp only [PyData.depth]; exact Nat.succ_le_succ h.2.2⟩
theorem SnapAll.tup {vs : List V} {k : Nat} {ps : List PyData} {a : Addr} (h : SnapAll G H vs k ps) (hl : SqT G.K H a vs) : SnapOk G H (.ref a) (k + 1) (.tuple ps) := ⟨.tup hl h.1, by simp [PyData.canLay0, h.2.1], by simp only [PyData.depth]; exact Nat.succ_le_succ h.2.2⟩
theorem snap_scr {k : Nat} : ∀ ns : List Int, SnapAll G H (ns.map V.int) k (ns.map .int)
  | [] => ⟨.nil, by simp [PyData.canLayAll0], by simp [PyData.depthAll]⟩
  | n :: r => by
    obtain ⟨h1, h2, h3⟩ := snap_scr (k := k) r
    exact ⟨.cons (.int n) h1, by simp [PyData.canLayAll0, PyData.canLay0, h2], by simp only [List.map_cons, PyData.depthAll, PyData.depth]; exact Nat.max_le.mpr ⟨Nat.zero_le _, h3⟩⟩
theorem map_some {α β : Type} {o : Option α} {f : α → β} {b : β} (e : o.map f = some b) : ∃ a, o = some a ∧ f a = b := by
  cases o with
  | none => cases e
  | some a => cases e; exact ⟨a, rfl, rfl⟩
theorem snap_ok (R : Rel G H pi rho S) : ∀ (k : Nat) (v : V) (d : D) (p : PyData), RV G H pi rho v d → snap k S d = some p → SnapOk G H v k p
  | 0, _, _, _, _, e => by cases e
  | k + 1, v, d, p, r, e => by
    cases r with
    | non => cases e; exact ⟨.non, by simp [PyData.canLay0], by simp [PyData.depth]⟩
    | bl b => cases e; exact ⟨.bl b, by simp [PyData.canLay0], by simp [PyData.depth]⟩
    | int i => cases e; exact ⟨.int i, by simp [PyData.canLay0], by simp [PyData.depth]⟩
    | str h => cases e; exact ⟨.str _, by simp [PyData.canLay0, h], by simp [PyData.depth]⟩
    | tup h z q =>
      obtain ⟨ps, e1, rfl⟩ := map_some e
      exact (snapAll_of _ (fun v d p r e => snap_ok R k v d p r e) q e1).tup (SqT.of h)
    | ktup h z q =>
      obtain ⟨ps, e1, rfl⟩ := map_some e
      exact (snapAll_of _ (fun v d p r e => snap_ok R k v d p r e) q e1).tup (.inr h)
    | lst h n m z q =>
      obtain ⟨ps, e1, rfl⟩ := map_some e
      exact (snapAll_of _ (fun v d p r e => snap_ok R k v d p r e) q e1).lst (.inl (.inl h))
    | scr h z =>
      cases e
      exact (snap_scr (k := k) _).lst h.sq
    | ref h =>
      rename_i a n
      obtain ⟨o, eo, ro⟩ := R.addr h
      have e' : (match S[n]? with
        | some (.lst xs) => (allSome (xs.map (snap k S))).map PyData.list
        | _ => none) = some p := e
      rw [eo] at e'
      cases o with
      | lst xs =>
        obtain ⟨ps, e1, rfl⟩ := map_some e'
        obtain ⟨vs, h1, z, q⟩ := ro
        exact (snapAll_of _ (fun v d p r e => snap_ok R k v d p r e) q e1).lst (.inl (.inl h1))
      | dct tk kvs => cases e'
      | ins c fs => cases e'
      | fz kvs => cases e'
    | dct h n m z q => cases e
    | fdct h z q => cases e
    | obj h n m q => cases e
    | err h n m => cases e
theorem SnapOk.shaped {v : V} {k : Nat} {p : PyData} (h : SnapOk G H v k p) (hk : k ≤ 64) : SeqAt.shaped p = true := by
  unfold SeqAt.shaped
  rw [h.2.1, decide_eq_true (Nat.le_trans h.2.2 hk)]; rfl
end
def vEq (x y : D) (S : Store) : Res := match snap 60 S x, snap 60 S y with
  | some p, some q => .ok (.bl (PyData.eqv p q)) S false
  | _, _ => .stuck
def vNe (x y : D) (S : Store) : Res := match snap 60 S x, snap 60 S y with
  | some p, some q => .ok (.bl (!PyData.eqv p q)) S false
  | _, _ => .stuck
theorem vEq_ok {G : Gam} : OpS G (rEqD G.K) vEq := by
  intro W σ H pi rho S x y dx dy Q R rx ry h
  unfold vEq at h
  split at h
  · rename_i p q e1 e2
    have s1 := snap_ok R _ _ _ _ rx e1
    have s2 := snap_ok R _ _ _ _ ry e2
    exact ⟨p, q, s1.1, s2.1, s1.shaped (by decide), s2.shaped (by decide), h.fin R (.bl _)⟩
  · exact h.elim
theorem vNe_ok {G : Gam} : OpS G (rNeD G.K) vNe := by
  intro W σ H pi rho S x y dx dy Q R rx ry h
  unfold vNe at h
  split at h
  · rename_i p q e1 e2
    have s1 := snap_ok R _ _ _ _ rx e1
    have s2 := snap_ok R _ _ _ _ ry e2
    exact ⟨p, q, s1.1, s2.1, s1.shaped (by decide), s2.shaped (by decide), h.fin R (.bl _)⟩
  · exact h.elim
/-! ### is -/
def vIs : D → D → Store → Res
  | x, .non, S => .ok (.bl (decide (x = .non))) S false
  | .bl a, .bl b, S => .ok (.bl (decide (a = b))) S false
  | _, _, _ => .stuck
def vIsNot : D → D → Store → Res
  | x, .non, S => .ok (.bl (!decide (x = .non))) S false
  | .bl a, .bl b, S => .ok (.bl (!decide (a = b))) S false
  | _, _, _ => .stuck
def rIsU : R2 := fun x y H Q => (y = .non ∧ Q (.bl (decide (x = .non))) H) ∨ rIsB x y H Q
def rIsNotU : R2 := fun x y H Q => (y = .non ∧ Q (.bl (!decide (x = .non))) H) ∨ rNotB x y H Q
theorem op_isU {X : Cx} : OpR X (compareOp .Is) rIsU := op_isN.or op_isBl
theorem op_isNotU {X : Cx} : OpR X (compareOp .IsNot) rIsNotU := op_notN.or op_notBl
theorem non_iff {G : Gam} {H : Hp} {pi rho : List Addr} {v : V} {d : D} (r : RV G H pi rho v d) : decide (v = .non) = decide (d = .non) := by
  cases r <;> simp
theorem vIs_ok {G : Gam} : OpS G rIsU vIs := by
  intro W σ H pi rho S x y dx dy Q R rx ry h
  unfold vIs at h
  split at h
  · cases ry
    rw [← non_iff rx] at h
    exact .inl ⟨rfl, h.fin R (.bl _)⟩
  · cases rx; cases ry
    exact .inr ⟨_, _, rfl, rfl, h.fin R (.bl _)⟩
  · exact h.elim
theorem vIsNot_ok {G : Gam} : OpS G rIsNotU vIsNot := by
  intro W σ H pi rho S x y dx dy Q R rx ry h
  unfold vIsNot at h
  split at h
  · cases ry
    rw [← non_iff rx] at h
    exact .inl ⟨rfl, h.fin R (.bl _)⟩
  · cases rx; cases ry
    exact .inr ⟨_, _, rfl, rfl, h.fin R (.bl _)⟩
  · exact h.elim
/-! ### order of ints and texts -/
def vLt : D → D → Store → Res
  | .int i, .int j, S => .ok (.bl (decide (i < j))) S false
  | .str x, .str y, S => .ok (.bl (decide (x.cps.toList < y.cps.toList))) S false
  | _, _, _ => .stuck
def vLe : D → D → Store → Res
  | .int i, .int j, S => .ok (.bl (decide (i ≤ j))) S false
  | _, _, _ => .stuck
def vGt : D → D → Store → Res
  | .int i, .int j, S => .ok (.bl (decide (j < i))) S false
  | _, _, _ => .stuck
def vGe : D → D → Store → Res
  | .int i, .int j, S => .ok (.bl (decide (j ≤ i))) S false
  | _, _, _ => .stuck
theorem vLe_ok {G : Gam} : OpS G (rI0 fun i j => .bl (decide (i ≤ j))) vLe := by
  intro W σ H pi rho S x y dx dy Q R rx ry h
  unfold vLe at h
  split at h
  · cases rx; cases ry
    exact ⟨_, _, rfl, rfl, h.fin R (.bl _)⟩
  · exact h.elim
theorem vGt_ok {G : Gam} : OpS G (rI0 fun i j => .bl (decide (j < i))) vGt := by
  intro W σ H pi rho S x y dx dy Q R rx ry h
  unfold vGt at h
  split at h
  · cases rx; cases ry
    exact ⟨_, _, rfl, rfl, h.fin R (.bl _)⟩
  · exact h.elim

/-! ### dicts by key -/
/-- a dict's kind and pairs -/
def dctOf (S : Store) : D → Option (Bool × List (D × D))
  | .dct kvs => some (false, kvs)
  | .fdct kvs => some (false, kvs)
  | .ref n => match S[n]? with
    | some (.dct tk kvs) => some (tk, kvs)
    | _ => none
  | _ => none
/-- a dict that is read -/
def RdO (G : Gam) (H : Hp) (pi rho : List Addr) (a : Addr) : Bool → List (D × D) → Prop
  | false, kvs => ∃ ks, Rd H a (.dK ks) ∧ ks.length ≤ sizeLine ∧ RKs G H pi rho ks kvs
  | true, kvs => ∃ ks, H a = some (.dT ks) ∧ ks.length ≤ sizeLine ∧ RTs G H pi rho ks kvs
theorem RO.rd {G : Gam} {H : Hp} {pi rho : List Addr} {a : Addr} : ∀ {tk : Bool} {kvs : List (D × D)}, RO G H pi rho a (.dct tk kvs) → RdO G H pi rho a tk kvs
  | false, _, ⟨ks, h, z, r⟩ => ⟨ks, .inl h, z, r⟩
  | true, _, ⟨ks, h, z, r⟩ => ⟨ks, h, z, r⟩
def dval (kvs : List (D × D)) (k : D) : Option D := (kvs.find? fun p => decide (p.1 = k)).map (·.2)
def isKey (tk : Bool) (k : D) : Bool := if tk = true then (tkeyOf k).isSome else (keyOf k).isSome
theorem keyOf_inj {a b : D} {k : Key} (ha : keyOf a = some k) (hb : keyOf b = some k) : a = b := by
  cases a <;> cases b <;> simp [keyOf] at ha hb
  · subst ha; simp_all
  · obtain ⟨_, hb⟩ := hb; rw [← ha] at hb; cases hb
  · obtain ⟨_, ha⟩ := ha; rw [← hb] at ha; cases ha
  · obtain ⟨_, ha⟩ := ha; obtain ⟨_, hb⟩ := hb; rw [← ha] at hb; cases hb; rfl
theorem keysOf_inj : ∀ {a b : List D} {k : List Key}, keysOf a = some k → keysOf b = some k → a = b
  | [], [], _, _, _ => rfl
  | [], y :: b, k, ha, hb => by
    cases ha
    unfold keysOf at hb
    split at hb
    · cases hb
    · cases hb
  | x :: a, [], k, ha, hb => by
    cases hb
    unfold keysOf at ha
    split at ha
    · cases ha
    · cases ha
  | x :: a, y :: b, k, ha, hb => by
    unfold keysOf at ha hb
    split at ha
    · rename_i k1 ks1 e1 e2
      split at hb
      · rename_i k2 ks2 e3 e4
        cases ha
        cases hb
        rw [keyOf_inj e1 e3, keysOf_inj e2 e4]
      · cases hb
    · cases ha
theorem tkeyOf_inj {a b : D} {k : List Key} (ha : tkeyOf a = some k) (hb : tkeyOf b = some k) : a = b := by
  cases a <;> cases b <;> simp [tkeyOf] at ha hb
  rw [keysOf_inj ha hb]
section
variable {G : Gam} {H : Hp} {pi rho : List Addr} {S : Store} {v : V} {d : D}
theorem key_rv {x : V} {k : Key} (r : RV G H pi rho x d) (e : keyOf d = some k) : x = kV k := by
  cases r <;> simp [keyOf] at e
  · subst e; rfl
  · obtain ⟨_, e⟩ := e; subst e; rfl
theorem keys_rv : ∀ {xs : List V} {ds : List D} {ks : List Key}, RVs G H pi rho xs ds → keysOf ds = some ks → xs = ks.map kV
  | _, _, ks, .nil, e => by cases e; rfl
  | _, _, ks, .cons r rs, e => by
    unfold keysOf at e
    split at e
    · rename_i e1 e2
      cases e
      rw [key_rv r e1, keys_rv rs e2]; rfl
    · cases e
theorem RKs.val {kd : D} {k : Key} (ek : keyOf kd = some k) : ∀ {ks : List (Key × V)} {kvs : List (D × D)}, RKs G H pi rho ks kvs →
    (∃ v d, valV ks k = some v ∧ dval kvs kd = some d ∧ RV G H pi rho v d) ∨ (valV ks k = none ∧ dval kvs kd = none)
  | _, _, .nil => .inr ⟨rfl, rfl⟩
  | _, _, .cons (k := k') (kd := kd') e r rs => by
    by_cases h : kd' = kd
    · subst h
      have : k' = k := by rw [e] at ek; exact Option.some.inj ek
      subst this
      exact .inl ⟨_, _, valV_pos rfl, by simp [dval], r⟩
    · have h2 : ¬ k' = k := fun q => h (keyOf_inj e (q ▸ ek))
      rw [valV_neg (p := (k', _)) h2]
      have : ∀ (z : D) (l : List (D × D)), dval ((kd', z) :: l) kd = dval l kd := fun z l => by simp [dval, h]
      rw [this]
      exact RKs.val ek rs
theorem RTs.val {kd : D} {k : List Key} (ek : tkeyOf kd = some k) : ∀ {ks : List (List Key × V)} {kvs : List (D × D)}, RTs G H pi rho ks kvs →
    (∃ v d, valV ks k = some v ∧ dval kvs kd = some d ∧ RV G H pi rho v d) ∨ (valV ks k = none ∧ dval kvs kd = none)
  | _, _, .nil => .inr ⟨rfl, rfl⟩
  | _, _, .cons (k := k') (kd := kd') e r rs => by
    by_cases h : kd' = kd
    · subst h
      have : k' = k := by rw [e] at ek; exact Option.some.inj ek
      subst this
      exact .inl ⟨_, _, valV_pos rfl, by simp [dval], r⟩
    · have h2 : ¬ k' = k := fun q => h (tkeyOf_inj e (q ▸ ek))
      rw [valV_neg (p := (k', _)) h2]
      have : ∀ (z : D) (l : List (D × D)), dval ((kd', z) :: l) kd = dval l kd := fun z l => by simp [dval, h]
      rw [this]
      exact RTs.val ek rs
/-- the tuple of a tuple key stands tracked -/
theorem tkey_rv {x : V} {k : List Key} (r : RV G H pi rho x d) (e : tkeyOf d = some k) : ∃ b, x = .ref b ∧ H b = some (.tup (k.map kV)) := by
  cases r with
  | tup h z q =>
    have := keys_rv q e
    subst this
    exact ⟨_, rfl, h⟩
  | _ => cases e
theorem dctRef {n : Nat} {tk : Bool} {kvs : List (D × D)} (e : dctOf S (.ref n) = some (tk, kvs)) : S[n]? = some (.dct tk kvs) := by
  have e' : (match S[n]? with
    | some (.dct tk kvs) => some (tk, kvs)
    | _ => none) = some (tk, kvs) := e
  cases q : S[n]? with
  | none => rw [q] at e'; cases e'
  | some o =>
    rw [q] at e'
    cases o with
    | dct tk kvs => cases e'; rfl
    | lst xs => cases e'
    | ins c fs => cases e'
    | fz kvs => cases e'
theorem dctOf_ok {tk : Bool} {kvs : List (D × D)} (R : Rel G H pi rho S) (r : RV G H pi rho v d) (e : dctOf S d = some (tk, kvs)) :
    ∃ a, v = .ref a ∧ RdO G H pi rho a tk kvs := by
  cases r with
  | dct h n m z q =>
    have e : some (false, _) = some (tk, kvs) := e
    cases e; exact ⟨_, rfl, _, .inl h, z, q⟩
  | fdct h z q =>
    have e : some (false, _) = some (tk, kvs) := e
    cases e; exact ⟨_, rfl, _, .inr ⟨_, h⟩, z, q⟩
  | ref h =>
    obtain ⟨o, eo, ro⟩ := R.addr h
    rw [dctRef e] at eo
    cases eo
    exact ⟨_, rfl, ro.rd⟩
  | _ => cases e
/-- what a dict holds at a key. -/
theorem dget_ok {tk : Bool} {kvs : List (D × D)} {a : Addr} {y : V} {dk : D} (ro : RdO G H pi rho a tk kvs) (ry : RV G H pi rho y dk) (hk : isKey tk dk = true) :
    (∃ v d, DGet H a y (some v) ∧ dval kvs dk = some d ∧ RV G H pi rho v d) ∨ (DGet H a y none ∧ dval kvs dk = none) := by
  cases tk with
  | false =>
    obtain ⟨ks, h, z, q⟩ := ro
    obtain ⟨k, ek⟩ : ∃ k, keyOf dk = some k := Option.isSome_iff_exists.mp hk
    have := key_rv ry ek
    subst this
    rcases RKs.val ek q with ⟨v, d, e1, e2, r⟩ | ⟨e1, e2⟩
    · exact .inl ⟨v, d, .inl ⟨_, k, h, rfl, e1.symm⟩, e2, r⟩
    · exact .inr ⟨.inl ⟨_, k, h, rfl, e1.symm⟩, e2⟩
  | true =>
    obtain ⟨ks, h, z, q⟩ := ro
    obtain ⟨k, ek⟩ : ∃ k, tkeyOf dk = some k := Option.isSome_iff_exists.mp hk
    obtain ⟨b, rfl, hb⟩ := tkey_rv ry ek
    rcases RTs.val ek q with ⟨v, d, e1, e2, r⟩ | ⟨e1, e2⟩
    · exact .inl ⟨v, d, e1 ▸ DGet.t h hb, e2, r⟩
    · exact .inr ⟨e1 ▸ DGet.t h hb, e2⟩
end
end DL
namespace DL
open PySem L2

/-! ### in -/
def flatD : D → Bool
  | .non => true
  | .bl _ => true
  | .int _ => true
  | .str _ => true
  | _ => false
def eqFlat : D → D → Bool
  | .non, .non => true
  | .bl a, .bl b => a == b
  | .bl a, .int b => (if a then 1 else 0) == b
  | .int a, .bl b => a == (if b then 1 else 0)
  | .int a, .int b => a == b
  | .str a, .str b => a == b
  | _, _ => false
theorem flat_rv {G : Gam} {H : Hp} {pi rho : List Addr} {v : V} {d : D} (r : RV G H pi rho v d) (f : flatD d = true) : flatV v = true := by
  cases r <;> first | rfl | cases f
theorem eqFlat_rv {G : Gam} {H : Hp} {pi rho : List Addr} {v w : V} {d e : D} (r : RV G H pi rho v d) (q : RV G H pi rho w e) (f : flatD d = true) (g : flatD e = true) : eqV v w = eqFlat d e := by
  cases r <;> cases q <;> first | rfl | cases f | cases g
theorem flats_rv {G : Gam} {H : Hp} {pi rho : List Addr} : ∀ {vs : List V} {ds : List D}, RVs G H pi rho vs ds → ds.all flatD = true → vs.all flatV = true
  | _, _, .nil, _ => rfl
  | _, _, .cons r rs, f => by
    rw [List.all_cons, Bool.and_eq_true] at f
    rw [List.all_cons, flat_rv r f.1, flats_rv rs f.2]; rfl
theorem anyFlat_rv {G : Gam} {H : Hp} {pi rho : List Addr} {x : V} {dx : D} (rx : RV G H pi rho x dx) (fx : flatD dx = true) : ∀ {vs : List V} {ds : List D}, RVs G H pi rho vs ds → ds.all flatD = true → inV x vs = ds.any fun y => eqFlat y dx
  | _, _, .nil, _ => rfl
  | _, _, .cons r rs, f => by
    rw [List.all_cons, Bool.and_eq_true] at f
    have ih := anyFlat_rv rx fx rs f.2
    unfold inV at ih ⊢
    rw [List.any_cons, List.any_cons, eqFlat_rv r rx f.1 fx, ih]
def inRes (neg : Bool) (b : Bool) (S : Store) : Res := .ok (.bl (if neg then !b else b)) S false
def vIn (neg : Bool) (x y : D) (S : Store) : Res := match y with
  | .str z => (match x with
    | .str w => inRes neg (!(Builtin.Str.occurrences z w 0 z.length 1).isEmpty) S
    | _ => .stuck)
  | .tup ys => if flatD x && ys.all flatD then inRes neg (ys.any fun y => eqFlat y x) S else .stuck
  | .ktup ys => if flatD x && ys.all flatD then inRes neg (ys.any fun y => eqFlat y x) S else .stuck
  | y => match dctOf S y with
    | some (tk, kvs) => if isKey tk x then inRes neg (dval kvs x).isSome S else .stuck
    | none => match lstOf S y with
      | some ys => (match snap 60 S x, allSome (ys.map (snap 60 S)) with
        | some p, some qs => inRes neg (qs.any fun z => PyData.eqv z p) S
        | _, _ => .stuck)
      | none => .stuck
def rInDct (neg : Bool) : R2 := fun x y H Q => ∃ a o, y = .ref a ∧ DGet H a x o ∧ Q (.bl (if neg then !o.isSome else o.isSome)) H
theorem op_inDct {X : Cx} (hu : X.A.units + 1 < cLine) : OpR X (compareOp .In) (rInDct false) := by
  intro pins s σ H x y v u Q I rx ry ⟨a, o, e, g, q⟩
  subst e
  cases ry
  exact d_in hu I g rx fun s' I' => ⟨.bl _, H, I', rfl, q⟩
theorem op_notInDct {X : Cx} (hu : X.A.units + 1 < cLine) : OpR X (compareOp .NotIn) (rInDct true) := by
  intro pins s σ H x y v u Q I rx ry ⟨a, o, e, g, q⟩
  subst e
  cases ry
  exact d_notIn hu I g rx fun s' I' => ⟨.bl _, H, I', rfl, q⟩
def rInStr (neg : Bool) : R2 := fun x y H Q => ∃ i j, x = .str i ∧ y = .str j ∧ Q (.bl (if neg then !(!(Builtin.Str.occurrences j i 0 j.length 1).isEmpty) else !(Builtin.Str.occurrences j i 0 j.length 1).isEmpty)) H
def rInDd (K : PySem.W.Frag) (neg : Bool) : R2 := fun x y H Q => ∃ d ds, Dp K H x d ∧ Dp K H y (.list ds) ∧ SeqAt.shaped d = true ∧ SeqAt.shaped (.list ds) = true ∧ Q (.bl (if neg then !(ds.any fun z => PyData.eqv z d) else (ds.any fun z => PyData.eqv z d))) H
def rInU (K : PySem.W.Frag) (neg : Bool) : R2 := fun x y H Q => rInStr neg x y H Q ∨ rIn K neg x y H Q ∨ rInDct neg x y H Q ∨ rInDd K neg x y H Q
theorem op_inU {X : Cx} (hu : X.A.units + 65 < cLine) : OpR X (compareOp .In) (rInU X.K false) := op_in_str.or (op_in_seq.or ((op_inDct (by omega)).or (op_inD hu)))
theorem op_notInU {X : Cx} (hu : X.A.units + 65 < cLine) : OpR X (compareOp .NotIn) (rInU X.K true) := op_notIn_str.or (op_notIn_seq.or ((op_notInDct (by omega)).or (op_notInD hu)))
theorem vIn_ok {G : Gam} {neg : Bool} : OpS G (rInU G.K neg) (vIn neg) := by
  intro W σ H pi rho S x y dx dy Q R rx ry h
  unfold vIn at h
  have tups : ∀ ys, seqOf S dy = some ys → PostE G W σ H pi rho Q (if flatD dx && ys.all flatD then inRes neg (ys.any fun y => eqFlat y dx) S else .stuck) → rInU G.K neg x y H Q := fun ys e h => by
    split at h
    · rename_i hf
      rw [Bool.and_eq_true] at hf
      obtain ⟨a, vs, rfl, hs, z, q⟩ := seqOf_ok R ry e
      refine .inr (.inl ⟨a, vs, rfl, hs, flat_rv rx hf.1, flats_rv q hf.2, ?_⟩)
      have := PostE.fin h R (.bl _)
      rw [anyFlat_rv rx hf.1 q hf.2]
      exact this
    · exact h.elim
  split at h
  · split at h
    · cases rx; cases ry
      exact .inl ⟨_, _, rfl, rfl, PostE.fin h R (.bl _)⟩
    · exact h.elim
  · exact tups _ rfl h
  · exact tups _ rfl h
  · split at h
    · rename_i tk kvs e
      split at h
      · rename_i hk
        obtain ⟨a, rfl, ro⟩ := dctOf_ok R ry e
        rcases dget_ok ro rx hk with ⟨v, d, g, e2, r⟩ | ⟨g, e2⟩
        · rw [e2] at h
          exact .inr (.inr (.inl ⟨a, _, rfl, g, PostE.fin h R (.bl _)⟩))
        · rw [e2] at h
          exact .inr (.inr (.inl ⟨a, _, rfl, g, PostE.fin h R (.bl _)⟩))
      · exact h.elim
    · split at h
      · rename_i ys e
        split at h
        · rename_i p qs e1 e2
          obtain ⟨a, vs, rfl, hs, z, q⟩ := lstOf_ok R ry e
          have s1 := snap_ok R _ _ _ _ rx e1
          have s2 := (snapAll_of _ (fun v d p r e => snap_ok R 60 v d p r e) q e2).lst (.inl (.inl hs))
          exact .inr (.inr (.inr ⟨p, qs, s1.1, s2.1, s1.shaped (by decide), s2.shaped (by decide), PostE.fin h R (.bl _)⟩))
        · exact h.elim
      · exact h.elim

/-! ### a[b] -/
def vIdx (x y : D) (S : Store) : Res := match x with
  | .str z => (match y with
    | .int i => (match atI z.cps.toList i with
      | some c => if z.length ≤ 16777216 then .ok (.str ⟨#[c]⟩) S false else .stuck
      | none => .stuck)
    | _ => .stuck)
  | x => match dctOf S x with
    | some (tk, kvs) => if isKey tk y then (match dval kvs y with
      | some d => .ok d S false
      | none => .stuck) else .stuck
    | none => match seqOf S x with
      | some xs => (match y with
        | .int i => (match atI xs i with
          | some d => .ok d S false
          | none => .stuck)
        | _ => .stuck)
      | none => .stuck
theorem RVs.atI {G : Gam} {H : Hp} {pi rho : List Addr} {vs : List V} {ds : List D} {i : Int} {d : D} (r : RVs G H pi rho vs ds) (h : L2.atI ds i = some d) : ∃ v, L2.atI vs i = some v ∧ RV G H pi rho v d := by
  unfold L2.atI at h ⊢
  rw [r.length]
  cases e : ixN ds.length i with
  | none => rw [e] at h; cases h
  | some j =>
    rw [e] at h
    exact r.get h
theorem strOk_at {z : Str} {i : Int} {c : Nat} (h : PyData.strOk z = true) (e : L2.atI z.cps.toList i = some c) : PyData.strOk ⟨#[c]⟩ = true := by
  obtain ⟨j, _, h2, _⟩ := atI_get e
  have hm : c ∈ z.cps.toList := List.mem_of_getElem? h2
  unfold PyData.strOk at h ⊢
  rw [Array.all_eq_true'] at h
  have := h c (by simpa using hm)
  simpa using this
def rIxDct : R2 := fun x y H Q => ∃ a v, x = .ref a ∧ DGet H a y (some v) ∧ Q v H
theorem ix_dct {X : Cx} (hu : X.A.units + 1 < cLine) : IxR X rIxDct := by
  intro value slice pins s σ H x y v u Q I rx ry h hs
  obtain ⟨a, z, rfl, g, q⟩ := h
  cases rx
  exact PyProof.Rows.tail_any (dict_typeIs I g) PySem.F.slot_dict_getitem.lookup (d_getItem hu I g ry fun w' s' I' r' => ⟨z, H, I', r', q⟩) hs
def rIxU (K : PySem.W.Frag) : R2 := fun x y H Q => rIxDct x y H Q ∨ rIx K x y H Q
theorem ix_U {X : Cx} (hu : X.A.units + 1 < cLine) : IxR X (rIxU X.K) := (ix_dct hu).or ix_seq
theorem vIdx_ok {G : Gam} : OpS G (rIxU G.K) vIdx := by
  intro W σ H pi rho S x y dx dy Q R rx ry h
  unfold vIdx at h
  split at h
  · split at h
    · split at h
      · rename_i e
        split at h
        · rename_i hz
          cases ry
          cases rx with | str ho =>
          exact .inr (.inr (.inr ⟨_, _, _, rfl, rfl, by rw [sizeLine_eq]; exact hz, e, h.fin R (.str (strOk_at ho e))⟩))
        · exact h.elim
      · exact h.elim
    · exact h.elim
  · split at h
    · rename_i tk kvs e
      split at h
      · rename_i hk
        split at h
        · rename_i d e2
          obtain ⟨a, rfl, ro⟩ := dctOf_ok R rx e
          rcases dget_ok ro ry hk with ⟨v, d', g, e3, r⟩ | ⟨g, e3⟩
          · rw [e2] at e3
            cases e3
            exact .inl ⟨a, v, rfl, g, h.fin R r⟩
          · rw [e2] at e3; cases e3
        · exact h.elim
      · exact h.elim
    · split at h
      · rename_i xs e
        split at h
        · split at h
          · rename_i i d e2
            cases ry
            obtain ⟨a, vs, rfl, hs, z, q⟩ := seqOf_ok R rx e
            obtain ⟨v, ev, r⟩ := q.atI e2
            rcases hs with hs | hs
            · exact .inr (.inl ⟨a, vs, _, v, rfl, rfl, hs, ev, h.fin R r⟩)
            · exact .inr (.inr (.inl ⟨a, vs, _, v, rfl, rfl, hs, ev, h.fin R r⟩))
          · exact h.elim
        · exact h.elim
      · exact h.elim

/-! ### slices -/
def cutD (xs : List D) (lo hi : Option Int) : List D := (xs.drop (HT.sIx xs.length 0 lo)).take (HT.sIx xs.length xs.length hi - HT.sIx xs.length 0 lo)
def vSlice (x : D) (lo hi : Option Int) (S : Store) : Res := match x with
  | .str z => if z.length ≤ 16777216 then .ok (.str (cutS z lo hi)) S false else .stuck
  | .tup xs => .ok (.tup (cutD xs lo hi)) S false
  | .scr ns => .ok (.lst (cutD (ns.map .int) lo hi)) S true
  | x => match lstOf S x with
    | some xs => .ok (.lst (cutD xs lo hi)) S true
    | none => .stuck
theorem RVs.cut {G : Gam} {H : Hp} {pi rho : List Addr} {vs : List V} {ds : List D} (r : RVs G H pi rho vs ds) (lo hi : Option Int) : RVs G H pi rho (cutV vs lo hi) (cutD ds lo hi) := by
  unfold cutV cutD
  rw [r.length]
  exact (r.drop _).take _
theorem strOk_mem {z : Str} (h : PyData.strOk z = true) : ∀ c ∈ z.cps.toList, c < 0x110000 := by
  unfold PyData.strOk at h
  rw [Array.all_eq_true'] at h
  intro c hc
  simpa using h c (by simpa using hc)
theorem strOk_of {z : Str} (h : ∀ c ∈ z.cps.toList, c < 0x110000) : PyData.strOk z = true := by
  unfold PyData.strOk
  rw [Array.all_eq_true']
  intro c hc
  simpa using h c (by simpa using hc)
theorem strOk_cut {z : Str} (h : PyData.strOk z = true) (lo hi : Option Int) : PyData.strOk (cutS z lo hi) = true := by
  refine strOk_of fun c hc => strOk_mem h c ?_
  unfold cutS at hc
  exact List.mem_of_mem_drop (List.mem_of_mem_take (by simpa using hc))
def rSlU (K : PySem.W.Frag) : V → Option Int → Option Int → Hp → VK → Prop := fun x lo hi H Q => rSlS x lo hi H Q ∨ rSlA K x lo hi H Q ∨ rSlL K x lo hi H Q
theorem sl_U {X : Cx} : SlR X (rSlU X.K) := sl_str.or (sl_tupA.or sl_list)
theorem vSlice_ok {G : Gam} {W : WX} {σ : St} {H : Hp} {pi rho : List Addr} {S : Store} {x : V} {dx : D} {Q : VK} (lo hi : Option Int) (R : Rel G H pi rho S) (rx : RV G H pi rho x dx) (h : PostE G W σ H pi rho Q (vSlice dx lo hi S)) : rSlU G.K x lo hi H Q := by
  have lists : ∀ xs, seqOf S dx = some xs → (∀ ys, dx ≠ .tup ys) → (∀ ys, dx ≠ .ktup ys) → PostE G W σ H pi rho Q (.ok (.lst (cutD xs lo hi)) S true) → rSlU G.K x lo hi H Q := fun xs e n1 n2 h => by
    have gen : ∃ a vs, x = .ref a ∧ SqL G.K H a vs ∧ vs.length ≤ sizeLine ∧ RVs G H pi rho vs xs := by
      cases dx with
      | tup ys => exact (n1 ys rfl).elim
      | ktup ys => exact (n2 ys rfl).elim
      | scr ns => cases e; cases rx with | scr h z => exact ⟨_, _, rfl, h.sq, by simpa using z, ints_rv ns⟩
      | _ =>
        obtain ⟨a, vs, e1, h1, z, q⟩ := lstOf_ok R rx e
        exact ⟨a, vs, e1, .inl (.inl h1), z, q⟩
    obtain ⟨a, vs, rfl, hs, z, q⟩ := gen
    exact .inr (.inr ⟨a, vs, rfl, hs, fun p hp => h.newL R (q.cut lo hi) (Nat.le_trans (cutV_length _ _ _) z) hp⟩)
  unfold vSlice at h
  split at h
  · split at h
    · rename_i hz
      cases rx with | str ho =>
      exact .inl ⟨_, rfl, by rw [sizeLine_eq]; exact hz, h.fin R (.str (strOk_cut ho _ _))⟩
    · exact h.elim
  · cases rx with | tup h1 z q =>
    refine .inr (.inl ⟨_, _, rfl, SqT.of h1, fun hw => ?_, fun hn p hp => eC_tup h R (q.cut lo hi) (Nat.le_trans (cutV_length _ _ _) z) hp rfl⟩)
    have e : ∀ xs : List D, HT.sIx xs.length 0 lo = 0 → HT.sIx xs.length xs.length hi = xs.length → cutD xs lo hi = xs := fun xs a b => by
      unfold cutD; rw [a, b]; simp
    rw [q.length] at hw
    rw [e _ hw.1 hw.2] at h
    exact h.fin R (.tup h1 z q)
  · exact lists _ rfl (fun _ e => by cases e) (fun _ e => by cases e) h
  · rename_i n1 n2 n3
    split at h
    · rename_i xs e
      refine lists xs ?_ n2 ?_ h
      · cases dx with
        | tup ys => exact (n2 ys rfl).elim
        | scr ys => exact (n3 ys rfl).elim
        | ktup ys => cases e
        | _ => exact e
      · intro ys q; subst q; cases e
    · exact h.elim

def ePart (o : Option ME) (env : Env') (S : Store) (f : Option Int → Store → Res) : Res := match o with
  | none => f none S
  | some m => (m env S).bind fun x S1 _ => match x with
    | .int i => f (some i) S1
    | _ => .stuck
def eSlice (a : ME) (lo hi : Option ME) : ME := fun env S => (a env S).bind fun x S1 _ => ePart lo env S1 fun l S2 => ePart hi env S2 fun u S3 => vSlice x l u S3
/-- a slice's part -/
inductive DO (X : Cx) (c : Ctx) (W : WX) : Option Expr → Option ME → Prop
  | none : DO X c W none none
  | some {e : Expr} {m : ME} (h : DE X c W e m) : DO X c W (some e) (some m)
section
variable {X : Cx} {c : Ctx} {W : WX} {a b e : Expr} {ma mb : ME} {pos : Pos}
theorem part_ok {e : Option Expr} {m : Option ME} (h : DO X c W e m) : ∃ t, PO X e t ∧ ∀ {σ : St} {H : Hp} {pi rho : List Addr} {S : Store} {env : Env'} {Q : VK} {f : Option Int → Store → Res} {Q' : Option Int → Hp → Prop}, Rel (gm X c) H pi rho S → REnv (gm X c) H pi rho σ env →
    PostE (gm X c) W σ H pi rho Q (ePart m env S f) → (∀ o H1 pi1 S1, Rel (gm X c) H1 pi1 rho S1 → Go H pi rho H1 pi1 → PostE (gm X c) W σ H1 pi1 rho Q (f o S1) → Q' o H1) → t σ H Q' := by
  cases h with
  | none => exact ⟨_, po_none, fun R N h k => k _ _ _ _ R .refl h⟩
  | some he =>
    refine ⟨_, po_some he, fun R N h k => tD.bind R N h fun v H1 d pi1 S1 fr R1 r1 g1 _ h1 => ?_⟩
    cases d with
    | int i => cases r1; exact ⟨i, rfl, k _ _ _ _ R1 g1 h1⟩
    | _ => exact h1.elim
theorem de_slice {lo hi : Option Expr} {ml mh : Option ME} {p2 : Pos} (ha : DE X c W a ma) (hl : DO X c W lo ml) (hh : DO X c W hi mh) : DE X c W (.Subscript a (.Slice lo hi none p2) pos) (eSlice ma ml mh) := by
  obtain ⟨tl, pl, kl⟩ := part_ok hl
  obtain ⟨th, ph, kh⟩ := part_ok hh
  exact PE_weak (pe_slice sl_U ha pl ph) fun σ H Q ⟨pi, rho, S, env, R, N, h⟩ => tD.bind R N h fun x H1 dx pi1 S1 _ R1 r1 g1 _ h1 => kl R1 (N.mono g1.x) h1 fun l H2 pi2 S2 R2 g2 h2 => kh R2 (N.mono (g1.trans g2).x) h2 fun u H3 pi3 S3 R3 g3 h3 => vSlice_ok l u R3 (r1.mono (g2.trans g3).x) h3
theorem de_ix (hu : X.A.units + 1 < cLine) (ha : DE X c W a ma) (hb : DE X c W b mb) (hs : PlainIx b := by intro _ _; rfl) : DE X c W (.Subscript a b pos) (eBin vIdx ma mb) :=
  PE_weak (pe_ix (ix_U hu) ha hb hs) fun σ H Q ⟨pi, rho, S, env, R, N, h⟩ => tD.bind R N h fun x H1 dx pi1 S1 _ R1 r1 g1 _ h1 => tD.bind R1 (N.mono g1.x) h1 fun y H2 dy pi2 S2 _ R2 r2 g2 _ h2 => vIdx_ok _ _ _ _ _ _ _ _ _ _ _ R2 (r1.mono g2.x) r2 h2
end
end DL
namespace DL
open PySem L2

/-! ### built-in functions -/
def vLen : MF
  | [x], S => match x with
    | .str z => if z.length ≤ 16777216 then .ok (.int z.length) S false else .stuck
    | x => match dctOf S x with
      | some (false, kvs) => .ok (.int kvs.length) S false
      | some (true, _) => .stuck
      | none => match seqOf S x with
        | some xs => .ok (.int xs.length) S false
        | none => .stuck
  | _, _ => .stuck
def rLenU (K : PySem.W.Frag) : List V → Hp → VK → Prop := fun xs H Q => (∃ x n, xs = [x] ∧ LenV K x H n ∧ Q (.int n) H) ∨ (∃ a kvs, xs = [V.ref a] ∧ Rd H a (.dK kvs) ∧ Q (.int kvs.length) H)
theorem call_lenR {X : Cx} : CallR X (.builtin "len") (fun xs H Q => ∃ a kvs, xs = [V.ref a] ∧ Rd H a (.dK kvs) ∧ Q (.int kvs.length) H) := by
  intro pins s σ H xs us Q I r h
  obtain ⟨a, kvs, rfl, ha, q⟩ := h
  obtain ⟨u, rfl, ru⟩ := vals1 r
  cases ru
  exact d_len I ha fun t s' I' => ⟨.int kvs.length, H, I', ⟨t, rfl⟩, q⟩
theorem call_lenU {X : Cx} : CallR X (.builtin "len") (rLenU X.K) := CallR.or call_len call_lenR
theorem RVs.one {G : Gam} {H : Hp} {pi rho : List Addr} {xs : List V} {d : D} (r : RVs G H pi rho xs [d]) : ∃ x, xs = [x] ∧ RV G H pi rho x d := by
  cases r with | cons r q => cases q; exact ⟨_, rfl, r⟩
theorem RVs.two {G : Gam} {H : Hp} {pi rho : List Addr} {xs : List V} {d e : D} (r : RVs G H pi rho xs [d, e]) : ∃ x y, xs = [x, y] ∧ RV G H pi rho x d ∧ RV G H pi rho y e := by
  cases r with | cons r q => cases q with | cons r2 q => cases q; exact ⟨_, _, rfl, r, r2⟩
theorem RKs.length {G : Gam} {H : Hp} {pi rho : List Addr} : ∀ {ks : List (Key × V)} {kvs : List (D × D)}, RKs G H pi rho ks kvs → ks.length = kvs.length
  | _, _, .nil => rfl
  | _, _, .cons _ _ r => by simp [RKs.length r]
theorem vLen_ok {G : Gam} : CallS G (rLenU G.K) vLen := by
  intro W σ H pi rho S xs ds Q R rx h
  unfold vLen at h
  split at h
  · obtain ⟨x, rfl, r⟩ := rx.one
    split at h
    · split at h
      · rename_i hz
        cases r
        exact .inl ⟨_, _, rfl, ⟨by rw [sizeLine_eq]; exact hz, rfl⟩, h.fin R (.int _)⟩
      · exact h.elim
    · split at h
      · rename_i kvs e
        obtain ⟨a, rfl, ks, h1, z, q⟩ := dctOf_ok R r e
        rw [← q.length] at h
        exact .inr ⟨a, ks, rfl, h1, h.fin R (.int _)⟩
      · exact h.elim
      · split at h
        · rename_i xs e
          obtain ⟨a, vs, rfl, hs, z, q⟩ := seqOf_ok R r e
          rw [← q.length] at h
          exact .inl ⟨_, _, rfl, hs.elim (fun hs => .inl ⟨vs, hs, rfl⟩) (fun hs => .inr ⟨vs, hs, rfl⟩), h.fin R (.int _)⟩
        · exact h.elim
  · exact h.elim
def vInt : MF
  | [.int i], S => .ok (.int i) S false
  | [.bl b], S => .ok (.int (if b then 1 else 0)) S false
  | _, _ => .stuck
theorem vInt_ok {G : Gam} : CallS G (fun xs H Q => (∃ i, xs = [.int i] ∧ Q (.int i) H) ∨ ∃ k, xs = [.bl k] ∧ Q (.int (if k then 1 else 0)) H) vInt := by
  intro W σ H pi rho S xs ds Q R rx h
  unfold vInt at h
  split at h
  · obtain ⟨x, rfl, r⟩ := rx.one
    cases r
    exact .inl ⟨_, rfl, h.fin R (.int _)⟩
  · obtain ⟨x, rfl, r⟩ := rx.one
    cases r
    exact .inr ⟨_, rfl, h.fin R (.int _)⟩
  · exact h.elim
/-- the bools of a list of bools -/
def blsOf : List D → Option (List Bool)
  | [] => some []
  | .bl b :: r => (blsOf r).map (b :: ·)
  | _ :: _ => none
theorem bls_rv {G : Gam} {H : Hp} {pi rho : List Addr} : ∀ {vs : List V} {ds : List D} {bs : List Bool}, RVs G H pi rho vs ds → blsOf ds = some bs → vs = bs.map V.bl
  | _, _, bs, .nil, e => by cases e; rfl
  | _, _, bs, .cons (d := d) (ds := ds) r rs, e => by
    cases d with
    | bl b =>
      obtain ⟨bs', e1, rfl⟩ := map_some (show (blsOf ds).map (b :: ·) = some bs from e)
      cases r
      rw [bls_rv rs e1]; rfl
    | _ => cases e
def vAll : MF
  | [x], S => match lstOf S x with
    | some xs => (match blsOf xs with
      | some bs => .ok (.bl (bs.all id)) S false
      | none => .stuck)
    | none => .stuck
  | _, _ => .stuck
theorem vAll_ok {G : Gam} : CallS G (rAll G.K) vAll := by
  intro W σ H pi rho S xs ds Q R rx h
  unfold vAll at h
  split at h
  · split at h
    · rename_i xs e
      split at h
      · rename_i bs e2
        obtain ⟨x, rfl, r⟩ := rx.one
        obtain ⟨a, vs, rfl, h1, z, q⟩ := lstOf_ok R r e
        have := bls_rv q e2
        subst this
        exact ⟨a, bs, rfl, .inl (.inl h1), h.fin R (.bl _)⟩
      · exact h.elim
    · exact h.elim
  · exact h.elim
def vList : MF
  | [x], S => match seqOf S x with
    | some xs => .ok (.lst xs) S true
    | none => match dctOf S x with
      | some (false, kvs) => .ok (.lst (kvs.map (·.1))) S true
      | _ => .stuck
  | _, _ => .stuck
/-! ### isinstance -/
inductive Tag where
  | non | bl | int | str | tup | lst | dct
  deriving DecidableEq
def Tag.nm : Tag → String
  | .non => "NoneType" | .bl => "bool" | .int => "int" | .str => "str" | .tup => "tuple" | .lst => "list" | .dct => "dict"
def tagOf (S : Store) : D → Option Tag
  | .non => some .non
  | .bl _ => some .bl
  | .int _ => some .int
  | .str _ => some .str
  | .tup _ => some .tup
  | .ktup _ => some .tup
  | .lst _ => some .lst
  | .scr _ => some .lst
  | .dct _ => some .dct
  | .ref n => match S[n]? with
    | some (.lst _) => some .lst
    | some (.dct _ _) => some .dct
    | _ => none
  | .obj _ _ => none
  | .fdct _ => none
  | .err _ => none
def isTag (t c : Tag) : Bool := t == c || (t == .bl && c == .int)
theorem kit_tag : ∀ t c : Tag, kitB t.nm c.nm = some (isTag t c) := by
  intro t c; cases t <;> cases c <;> decide +kernel
theorem ty_rv {G : Gam} {H : Hp} {pi rho : List Addr} {S : Store} {v : V} {d : D} {t : Tag} (R : Rel G H pi rho S) (r : RV G H pi rho v d) (e : tagOf S d = some t) : TyX G.K H v (.type t.nm) := by
  cases r with
  | non => cases e; exact .base .non
  | bl b => cases e; exact .base (.bl b)
  | int i => cases e; exact .base (.int i)
  | str h => cases e; exact .base (.str _)
  | tup h z q => cases e; exact .base (.tup h)
  | ktup h z q =>
    cases e
    obtain ⟨o, its, n, h1, h2, _⟩ := h
    exact .kTuple h1 h2
  | lst h n m z q => cases e; exact .base (.lst h)
  | scr h z =>
    cases e
    rcases h with ⟨o, h⟩ | ⟨o, its, n, h1, h2, _⟩
    · exact .base (.frz h)
    · exact .kList h1 h2
  | dct h n m z q => cases e; exact .base (.dK h)
  | fdct h z q => cases e
  | obj h n m q => cases e
  | err h n m => cases e
  | ref h =>
    obtain ⟨o, eo, ro⟩ := R.addr h
    have e' : (match (some o : Option O) with
      | some (.lst _) => some Tag.lst
      | some (.dct _ _) => some .dct
      | _ => none) = some t := by rw [← eo]; exact e
    cases o with
    | lst xs => cases e'; obtain ⟨vs, h1, _⟩ := ro; exact .base (.lst h1)
    | dct tk kvs =>
      cases e'
      cases tk with
      | false => obtain ⟨ks, h1, _⟩ := ro; exact .base (.dK h1)
      | true => obtain ⟨ks, h1, _⟩ := ro; exact .base (.dT h1)
    | ins c fs => cases e'
    | fz kvs => cases e'
def vIsi (c : Tag) (x : D) (S : Store) : Res := match tagOf S x with
  | some t => .ok (.bl (isTag t c)) S false
  | none => .stuck
/-- isinstance(x, (c1, c2, ..)) -/
def vIsiT (cs : List Tag) (x : D) (S : Store) : Res := match tagOf S x with
  | some t => .ok (.bl (cs.any fun c => isTag t c)) S false
  | none => .stuck
theorem kit_any {K : PySem.W.Frag} {t : Tag} : ∀ cs : List Tag, PySem.W.kitAny K (.type t.nm) (cs.map fun c => Value.type c.nm) = some (cs.any fun c => isTag t c)
  | [] => kitAny_nil
  | c :: cs => by
    rw [List.map_cons, List.any_cons]
    refine kitAny_cons (b := isTag t c) (kit_ty (kit_tag t c)) (fun e => ?_) (fun e => ?_)
    · rw [e, Bool.false_or]; exact kit_any cs
    · rw [e, Bool.true_or]
/-- a built-in class's name as an expression -/
def TyNm (X : Cx) (e : Expr) (c : Tag) : Prop := PE X e (tC (.ty c.nm))
theorem tyNm {X : Cx} {x : Str} {c : Tag} {pos : Pos} (hg : Gl X x) (hm : X.mg x = none) (hv : bootBuiltins x = some (.type c.nm)) (hn : x ≠ "__name__" := by decide) (hd : (x == ("__debug__" : Str)) = false := by decide) : TyNm X (.Name x pos) c :=
  pe_bltn hg hm hv rfl hn hd
inductive TyNms (X : Cx) : List Expr → List Tag → Prop
  | nil : TyNms X [] []
  | cons {e : Expr} {es : List Expr} {c : Tag} {cs : List Tag} (h : TyNm X e c) (r : TyNms X es cs) (hs : starEach (e :: es) X.env = (false, eval e X.env) :: starEach es X.env := by rfl) : TyNms X (e :: es) (c :: cs)
theorem TyNms.pa {X : Cx} {es : List Expr} {cs : List Tag} (h : TyNms X es cs) : PA X es (fun _ H Q => Q (cs.map fun c => V.ty c.nm) H) := by
  induction h with
  | nil => exact pa_nil
  | cons h r hs ih => exact PA_weak (pa_cons h ih hs) fun σ H Q q => q
section
variable {X : Cx} {c : Ctx} {W : WX} {a b e : Expr} {es : List Expr} {ma mb : ME} {pos : Pos}
theorem de_isi {p : Pos} {k : Tag} (hg : Gl X "isinstance") (hm : X.mg "isinstance" = none) (hv : bootBuiltins "isinstance" = some (.builtin "isinstance")) (ha : DE X c W a ma) (hb : TyNm X b k)
    (hs : starEach [a, b] X.env = (false, eval a X.env) :: starEach [b] X.env := by rfl) (hs2 : starEach [b] X.env = (false, eval b X.env) :: starEach [] X.env := by rfl) (hpl : (backTo pos (starEach [b] X.env)).any (·.1) = false := by rfl) :
    DE X c W (.Call (.Name "isinstance" p) [a, b] [] pos) (eUn (vIsi k) ma) :=
  PE_weak (pe_callB call_isi hg hm hv (pa_cons ha (pa_cons hb pa_nil hs2) hs) (by decide) (by decide) hs hpl) fun σ H Q ⟨pi, rho, S, env, R, N, h⟩ => tD.bind R N h fun x H1 dx pi1 S1 _ R1 r1 g1 _ h1 => by
    unfold vIsi at h1
    split at h1
    · rename_i t e
      exact ⟨x, _, _, _, _, rfl, .ty _, ty_rv R1 r1 e, kit_ty (kit_tag t k), PostE.fin h1 R1 (.bl _)⟩
    · exact h1.elim
theorem clsV_all : ∀ cs : List Tag, Paired ClsV (cs.map fun c => V.ty c.nm) (cs.map fun c => Value.type c.nm)
  | [] => .nil
  | c :: cs => .cons (.ty _) (clsV_all cs)
theorem de_isiT {p tp : Pos} {k : Nat} {cs : List Tag} (hg : Gl X "isinstance") (hm : X.mg "isinstance" = none) (hv : bootBuiltins "isinstance" = some (.builtin "isinstance")) (ha : DE X c W a ma) (hb : TyNms X es cs) (hn : cs.length ≤ 1000)
    (hs : starEach [a, .Tuple es k tp] X.env = (false, eval a X.env) :: starEach [.Tuple es k tp] X.env := by rfl) (hs2 : starEach [.Tuple es k tp] X.env = (false, eval (.Tuple es k tp) X.env) :: starEach [] X.env := by rfl) (hpl : (backTo pos (starEach [.Tuple es k tp] X.env)).any (·.1) = false := by rfl) :
    DE X c W (.Call (.Name "isinstance" p) [a, .Tuple es k tp] [] pos) (eUn (vIsiT cs) ma) :=
  PE_weak (pe_callB call_isiT hg hm hv (pa_cons ha (pa_cons (pe_tup hb.pa) pa_nil hs2) hs) (by decide) (by decide) hs hpl) fun σ H Q ⟨pi, rho, S, env, R, N, h⟩ => tD.bind R N h fun x H1 dx pi1 S1 _ R1 r1 g1 _ h1 => by
    unfold vIsiT at h1
    split at h1
    · rename_i t e
      refine ⟨by simpa using line1000 hn, fun q hq => ⟨x, q, _, _, _, _, rfl, upd_same, clsV_all cs, ty_rv (R1.new hq) (r1.mono (Ext.new hq)) e, kit_any cs, ?_⟩⟩
      exact PostE.fin (PostE.base (Go.new hq) h1) (R1.new hq) (.bl _)
    · exact h1.elim
end
/-! ### texts -/
def strsOf : List D → Option (List Str)
  | [] => some []
  | .str s :: r => (strsOf r).map (s :: ·)
  | _ :: _ => none
theorem strs_rv {G : Gam} {H : Hp} {pi rho : List Addr} : ∀ {vs : List V} {ds : List D} {bs : List Str}, RVs G H pi rho vs ds → strsOf ds = some bs → vs = bs.map V.str ∧ ∀ s ∈ bs, PyData.strOk s = true
  | _, _, bs, .nil, e => by cases e; exact ⟨rfl, fun _ h => by cases h⟩
  | _, _, bs, .cons (d := d) (ds := ds) r rs, e => by
    cases d with
    | str b =>
      obtain ⟨bs', e1, rfl⟩ := map_some (show (strsOf ds).map (b :: ·) = some bs from e)
      cases r with | str ho =>
      obtain ⟨e2, h2⟩ := strs_rv rs e1
      rw [e2]
      exact ⟨rfl, fun s hs => by
        rw [List.mem_cons] at hs
        rcases hs with rfl | hs
        · exact ho
        · exact h2 s hs⟩
    | _ => cases e
theorem rv_strs {G : Gam} {H : Hp} {pi rho : List Addr} : ∀ {bs : List Str}, (∀ s ∈ bs, PyData.strOk s = true) → RVs G H pi rho (bs.map V.str) (bs.map D.str)
  | [], _ => .nil
  | b :: r, h => .cons (.str (h b List.mem_cons_self)) (rv_strs fun s hs => h s (List.mem_cons_of_mem _ hs))
theorem strOk_tl {z : Str} : PyData.strOk z = true ↔ ∀ c ∈ TL.tl z, c < 0x110000 := ⟨strOk_mem, strOk_of⟩
theorem joinL_mem {S : List Nat} : ∀ {ps : List (List Nat)} {c : Nat}, c ∈ TL.joinL S ps → c ∈ S ∨ ∃ p ∈ ps, c ∈ p
  | [], c, h => by cases h
  | [p], c, h => .inr ⟨p, List.mem_cons_self, h⟩
  | p :: q :: r, c, h => by
    have h' : c ∈ p ++ (S ++ TL.joinL S (q :: r)) := h
    rw [List.mem_append, List.mem_append] at h'
    rcases h' with h' | h' | h'
    · exact .inr ⟨p, List.mem_cons_self, h'⟩
    · exact .inl h'
    · rcases joinL_mem h' with h2 | ⟨z, hz, h2⟩
      · exact .inl h2
      · exact .inr ⟨z, List.mem_cons_of_mem _ hz, h2⟩
theorem strOk_join {a : Str} {ys : List Str} (ha : PyData.strOk a = true) (hy : ∀ s ∈ ys, PyData.strOk s = true) : PyData.strOk (Txt.join a ys) = true := by
  rw [strOk_tl, TL.join_eq, TL.tl_join]
  intro c hc
  rcases joinL_mem hc with h | ⟨p, hp, h⟩
  · exact strOk_tl.mp ha c h
  · rw [List.mem_map] at hp
    obtain ⟨s, hs, rfl⟩ := hp
    exact strOk_tl.mp (hy s hs) c h
/-- a method of a built-in type, by values: the receiver's type is seen first -/
def eBM (ok : D → Store → Bool) (F : D → List D → Store → Res) (a : ME) (ms : List ME) : ME := fun env S => (a env S).bind fun x S1 _ => if ok x S1 = true then (eArgs ms env S1).bind fun ds S2 => F x ds S2 else .stuck
def isStrD : D → Store → Bool
  | .str _, _ => true
  | _, _ => false
def isLstD (x : D) (S : Store) : Bool := (lstOf S x).isSome
def MtS (G : Gam) (r : V → List V → Hp → VK → Prop) (F : D → List D → Store → Res) : Prop := ∀ (W : WX) (σ : St) (H : Hp) (pi rho : List Addr) (S : Store) (x : V) (xs : List V) (dx : D) (ds : List D) (Q : VK), Rel G H pi rho S → RV G H pi rho x dx → RVs G H pi rho xs ds → PostE G W σ H pi rho Q (F dx ds S) → r x xs H Q
def TyS (G : Gam) (T : String) (ok : D → Store → Bool) : Prop := ∀ (H : Hp) (pi rho : List Addr) (S : Store) (x : V) (dx : D), Rel G H pi rho S → RV G H pi rho x dx → ok dx S = true → tyV G.K T x H
theorem ty_str {G : Gam} : TyS G "str" isStrD := by
  intro H pi rho S x dx R r e
  cases r <;> first | rfl | cases e
theorem ty_lst {G : Gam} : TyS G "list" isLstD := by
  intro H pi rho S x dx R r e
  obtain ⟨ds, e⟩ := Option.isSome_iff_exists.mp e
  obtain ⟨a, vs, rfl, h, z, q⟩ := lstOf_ok R r e
  exact .inl ⟨rfl, vs, .inl (.inl h)⟩
section
variable {X : Cx} {c : Ctx} {W : WX} {o e : Expr} {es : List Expr} {mo : ME} {ms : List ME} {name : Str} {apos cpos : Pos} {T id : String} {r : V → List V → Hp → VK → Prop} {F : D → List D → Store → Res} {ok : D → Store → Bool}
theorem de_bm (pa : PlainAttrs T) (slot : Slot T name id) (hty : typeOf (.builtin id) = pure (.type "method_descriptor")) (hm : MtR X id r) (ty : TyS (gm X c) T ok) (hF : MtS (gm X c) r F) (ho : DE X c W o mo) (ha : DA X c W (e :: es) ms)
    (hbase : attributeBase o name X.env (eval o X.env) = eval o X.env := by rfl)
    (hfew : ((backTo cpos (starEach (e :: es) X.env)).all (fun x => !x.1) && (backToKw cpos (keywordEach [] X.env)).all (fun x => x.1.isSome)
      && decide ((e :: es).length + ([] : List Keyword).length + (if ([] : List Keyword).isEmpty then 0 else 1) < 30)) = true := by rfl)
    (hline : (apos.endLine == cpos.line) = true := by rfl) (hs : starEach (e :: es) X.env = (false, eval e X.env) :: starEach es X.env := by rfl) (hplain : (backTo cpos (starEach es X.env)).any (·.1) = false := by rfl) :
    DE X c W (.Call (.Attribute o name apos) (e :: es) [] cpos) (eBM ok F mo ms) :=
  PE_weak (pe_bm pa slot hty hm ho ha hbase hfew hline hs hplain) fun σ H Q ⟨pi, rho, S, env, R, N, h⟩ => tD.bind R N h fun x H1 dx pi1 S1 _ R1 r1 g1 _ h1 => by
    split at h1
    · rename_i hk
      exact ⟨ty _ _ _ _ _ _ R1 r1 hk, tDA.bind R1 (N.mono g1.x) h1 fun vs H2 ds pi2 S2 e R2 r2 g2 h2 => hF _ _ _ _ _ _ _ _ _ _ _ R2 (r1.mono g2.x) r2 h2⟩
    · exact h1.elim
end
def vJoin : D → List D → Store → Res
  | .str a, [x], S => match seqOf S x with
    | some xs => (match strsOf xs with
      | some ys => if (ys.map (·.length)).sum + ys.length * a.length ≤ 16777216 then .ok (.str (Txt.join a ys)) S false else .stuck
      | none => .stuck)
    | none => .stuck
  | _, _, _ => .stuck
theorem vJoin_ok {G : Gam} : MtS G (fun x xs H Q => ∃ a p, ∃ ys : List Str, x = .str a ∧ xs = [.ref p] ∧ (SqL G.K H p (ys.map V.str) ∨ SqT G.K H p (ys.map V.str)) ∧ (ys.map (·.length)).sum + ys.length * a.length ≤ 16777216 ∧ Q (.str (Txt.join a ys)) H) vJoin := by
  intro W σ H pi rho S x xs dx ds Q R rx rs h
  unfold vJoin at h
  split at h
  · split at h
    · rename_i zs e
      split at h
      · rename_i ys e2
        split at h
        · rename_i hz
          obtain ⟨y, rfl, ry⟩ := rs.one
          obtain ⟨p, vs, rfl, hs, z, q⟩ := seqOf_ok R ry e
          obtain ⟨e3, h3⟩ := strs_rv q e2
          subst e3
          cases rx with | str ho =>
          exact ⟨_, p, ys, rfl, rfl, hs, hz, h.fin R (.str (strOk_join ho h3))⟩
        · exact h.elim
      · exact h.elim
    · exact h.elim
  · exact h.elim
def vUpper : D → List D → Store → Res
  | .str a, [], S => if a.length ≤ 5592405 ∧ PyData.strOk (Txt.upper a) = true then .ok (.str (Txt.upper a)) S false else .stuck
  | _, _, _ => .stuck
/-! ### lists that change -/
/-- a list of the store changes -/
theorem lset_ok {G : Gam} {W : WX} {σ : St} {H : Hp} {pi rho : List Addr} {S : Store} {Q : VK} {n : Nat} {l : Addr} {ws : List V} {ys : List D} {v : V} {d : D} (R : Rel G H pi rho S) (hl : pi[n]? = some l) (q : RVs G H pi rho ws ys) (hz : ws.length ≤ sizeLine)
    (mu : ∃ ho, H l = some ho ∧ Muta ho) (r : RV G H pi rho v d) (h : PostE G W σ H pi rho Q (.ok d (S.set n (.lst ys)) false)) : Q v (upd H l (.lst ws)) := by
  have x : Ext H pi rho (upd H l (.lst ws)) pi rho := Ext.set R hl mu
  exact h _ _ _ (R.set hl mu ⟨ws, upd_same, hz, q.mono x⟩) (r.mono x) (Go.set R hl mu) fun e => by cases e
theorem lref_ok {G : Gam} {H : Hp} {pi rho : List Addr} {S : Store} {v : V} {n : Nat} {xs : List D} (R : Rel G H pi rho S) (r : RV G H pi rho v (.ref n)) (e : S[n]? = some (.lst xs)) : ∃ l ws, v = .ref l ∧ pi[n]? = some l ∧ H l = some (.lst ws) ∧ ws.length ≤ sizeLine ∧ RVs G H pi rho ws xs := by
  cases r with | ref h =>
  obtain ⟨o, eo, ro⟩ := R.addr h
  rw [e] at eo
  cases eo
  obtain ⟨ws, h1, z, q⟩ := ro
  exact ⟨_, ws, rfl, h, h1, z, q⟩
def vAppend : D → List D → Store → Res
  | .ref n, [y], S => match S[n]? with
    | some (.lst xs) => if xs.length < 16777216 then .ok .non (S.set n (.lst (xs ++ [y]))) false else .stuck
    | _ => .stuck
  | _, _, _ => .stuck
theorem vAppend_ok {G : Gam} : MtS G rAppend vAppend := by
  intro W σ H pi rho S x xs dx ds Q R rx rs h
  unfold vAppend at h
  split at h
  · split at h
    · rename_i e
      split at h
      · rename_i hz
        obtain ⟨y, rfl, ry⟩ := rs.one
        obtain ⟨l, ws, rfl, hl, h1, z, q⟩ := lref_ok R rx e
        have hz' : ws.length < sizeLine := by rw [q.length, sizeLine_eq]; exact hz
        exact ⟨l, ws, y, rfl, rfl, h1, hz', lset_ok R hl (q.append (.cons ry .nil)) (by rw [List.length_append]; exact hz') ⟨_, h1, trivial⟩ .non h⟩
      · exact h.elim
    · exact h.elim
  · exact h.elim
def vExtend : D → List D → Store → Res
  | .ref n, [y], S => match S[n]?, lstOf S y with
    | some (.lst xs), some ys => if xs.length + ys.length ≤ 16777216 then .ok .non (S.set n (.lst (xs ++ ys))) false else .stuck
    | _, _ => .stuck
  | _, _, _ => .stuck
theorem vExtend_ok {G : Gam} : MtS G rExtend vExtend := by
  intro W σ H pi rho S x xs dx ds Q R rx rs h
  unfold vExtend at h
  split at h
  · split at h
    · rename_i e e2
      split at h
      · rename_i hz
        obtain ⟨y, rfl, ry⟩ := rs.one
        obtain ⟨l, ws, rfl, hl, h1, z, q⟩ := lref_ok R rx e
        obtain ⟨b, vs, rfl, h2, z2, q2⟩ := lstOf_ok R ry e2
        have hz' : ws.length + vs.length ≤ sizeLine := by rw [q.length, q2.length, sizeLine_eq]; exact hz
        exact ⟨l, b, ws, vs, rfl, rfl, h1, h2, hz', lset_ok R hl (q.append q2) (by rw [List.length_append]; exact hz') ⟨_, h1, trivial⟩ .non h⟩
      · exact h.elim
    · exact h.elim
  · exact h.elim
end DL
namespace DL
open PySem L2

/-! ### statements -/
def PostS (G : Gam) (W : WX) (D : Ends) (H : Hp) (pi rho : List Addr) : FR → Prop
  | .nx env' S' => ∀ σ' H' pi', Rel G H' pi' rho S' → REnv G H' pi' rho σ' env' → Go H pi rho H' pi' → D.nx σ' H'
  | .bk env' S' => ∀ σ' H' pi', Rel G H' pi' rho S' → REnv G H' pi' rho σ' env' → Go H pi rho H' pi' → D.bk σ' H'
  | .ct env' S' => ∀ σ' H' pi', Rel G H' pi' rho S' → REnv G H' pi' rho σ' env' → Go H pi rho H' pi' → D.ct σ' H'
  | .rt d S' fr => ∀ v H' pi', Rel G H' pi' rho S' → RV G H' pi' rho v d → Go H pi rho H' pi' → (fr = true → Frsh G H H' pi' rho v d S') → D.rt v H'
  | .exc e env' S' => ∀ σ' cls dx H' pi', Rel G H' pi' rho S' → REnv G H' pi' rho σ' env' → Go H pi rho H' pi' → RExc G H' rho e cls dx → W cls dx σ' H'
  | .stuck => False
def tS (G : Gam) (W : WX) (m : MS) : TS := fun D σ H => ∃ pi rho S env, Rel G H pi rho S ∧ REnv G H pi rho σ env ∧ PostS G W D H pi rho (m env S)
def DS (X : Cx) (c : Ctx) (W : WX) (st : Stmt) (m : MS) : Prop := PS X st (tS (gm X c) W m)
def DSs (X : Cx) (c : Ctx) (W : WX) (st : List Stmt) (m : MS) : Prop := PSs X st (tS (gm X c) W m)
def Res.bindS (r : Res) (env : Env') (k : D → Store → Bool → FR) : FR := match r with
  | .ok d S fr => k d S fr
  | .exc e S => .exc e env S
  | .stuck => .stuck
@[simp] theorem Res.bindS_ok (d : D) (S : Store) (fr : Bool) (env : Env') (k : D → Store → Bool → FR) : (Res.ok d S fr).bindS env k = k d S fr := rfl
@[simp] theorem Res.bindS_exc (e : Exc) (S : Store) (env : Env') (k : D → Store → Bool → FR) : (Res.exc e S).bindS env k = .exc e env S := rfl
@[simp] theorem Res.bindS_stuck (env : Env') (k : D → Store → Bool → FR) : Res.stuck.bindS env k = .stuck := rfl
section
variable {G : Gam} {W : WX} {H H1 H' : Hp} {pi pi1 pi' rho : List Addr} {σ σ' : St} {env env' : Env'} {S S' : Store} {D : Ends}
theorem PostS.base (g : Go H pi rho H1 pi1) : ∀ {r : FR}, PostS G W D H pi rho r → PostS G W D H1 pi1 rho r
  | .nx _ _, h => fun σ' H' pi' R N g' => h σ' H' pi' R N (g.trans g')
  | .bk _ _, h => fun σ' H' pi' R N g' => h σ' H' pi' R N (g.trans g')
  | .ct _ _, h => fun σ' H' pi' R N g' => h σ' H' pi' R N (g.trans g')
  | .rt _ _ _, h => fun v H' pi' R r g' f => h v H' pi' R r (g.trans g') fun e => (f e).base g
  | .exc _ _ _, h => fun σ' c d H' pi' R N g' r => h σ' c d H' pi' R N (g.trans g') r
  | .stuck, h => h
theorem tD.bindS {m : ME} {k : DL.D → Store → Bool → FR} {Q' : VK} (R : Rel G H pi rho S) (N : REnv G H pi rho σ env) (h : PostS G W D H pi rho ((m env S).bindS env k))
    (kk : ∀ v H1 d pi1 S1 fr, Rel G H1 pi1 rho S1 → RV G H1 pi1 rho v d → Go H pi rho H1 pi1 → (fr = true → Frsh G H H1 pi1 rho v d S1) → PostS G W D H pi rho (k d S1 fr) → Q' v H1) : tD G W m σ H Q' := by
  refine ⟨pi, rho, S, env, R, N, ?_⟩
  cases e : m env S with
  | ok d S1 fr =>
    rw [e] at h
    intro v H1 pi1 R1 r g f1
    exact kk v H1 d pi1 S1 fr R1 r g f1 h
  | exc x S1 =>
    rw [e] at h
    exact fun cls dx H1 pi1 R1 g q => h σ cls dx H1 pi1 R1 (N.mono g.x) g q
  | stuck => rw [e] at h; exact h
theorem PostS.fin (h : PostS G W D H pi rho (.nx env S)) (R : Rel G H pi rho S) (N : REnv G H pi rho σ env) : D.nx σ H := h σ H pi R N .refl
end

def sSeq (a b : MS) : MS := fun env S => match a env S with
  | .nx env' S' => b env' S'
  | r => r
def sPass : MS := fun env S => .nx env S
def sRet (m : ME) : MS := fun env S => (m env S).bindS env fun d S1 fr => .rt d S1 fr
def sRetN : MS := fun env S => .rt .non S false
def sExpr (m : ME) : MS := fun env S => (m env S).bindS env fun _ S1 _ => .nx env S1
def sSet (i : Nat) (m : ME) : MS := fun env S => (m env S).bindS env fun d S1 _ => .nx (env.set i (.val d)) S1
def onS (x : D) (t u : FR) : FR := match x with
  | .bl true => t
  | .bl false => u
  | _ => .stuck
@[simp] theorem onS_t (t u : FR) : onS (.bl true) t u = t := rfl
@[simp] theorem onS_f (t u : FR) : onS (.bl false) t u = u := rfl
def sIf (c : ME) (a b : MS) : MS := fun env S => (c env S).bindS env fun x S1 _ => onS x (a env S1) (b env S1)
def sBrk : MS := fun env S => .bk env S
def sCt : MS := fun env S => .ct env S
section
variable {X : Cx} {c : Ctx} {W : WX} {st : Stmt} {sts : List Stmt} {e : Expr} {m : ME} {a b : MS} {pos : Pos}
theorem dss_nil : DSs X c W [] sPass := PSs_weak pss_nil fun D σ H ⟨pi, rho, S, env, R, N, h⟩ => h.fin R N
theorem dss_one (h : DS X c W st a) : DSs X c W [st] a := pss_one h
theorem dss_cons (h : DS X c W st a) (h2 : DSs X c W sts b) : DSs X c W (st :: sts) (sSeq a b) :=
  PSs_weak (pss_cons h h2) fun D σ H ⟨pi, rho, S, env, R, N, h⟩ => by
    refine ⟨pi, rho, S, env, R, N, ?_⟩
    unfold sSeq at h
    cases e : a env S with
    | nx env' S' =>
      rw [e] at h
      intro σ' H' pi' R' N' g
      exact ⟨pi', rho, S', env', R', N', PostS.base g h⟩
    | rt d S' fr => rw [e] at h; exact h
    | bk env' S' => rw [e] at h; exact h
    | ct env' S' => rw [e] at h; exact h
    | exc x env' S' => rw [e] at h; exact h
    | stuck => rw [e] at h; exact h
theorem ds_expr (he : DE X c W e m) (hs : swapsWith e none pos.line X.env = pure false := by rfl) : DS X c W (.Expr e pos) (sExpr m) :=
  PS_weak (ps_expr he hs) fun D σ H ⟨pi, rho, S, env, R, N, h⟩ => tD.bindS R N h fun v H1 d pi1 S1 fr R1 r1 g1 _ h1 => h1 σ H1 pi1 R1 (N.mono g1.x) g1
theorem ds_ret (he : DE X c W e m) : DS X c W (.Return (some e) pos) (sRet m) :=
  PS_weak (ps_ret he) fun D σ H ⟨pi, rho, S, env, R, N, h⟩ => tD.bindS R N h fun v H1 d pi1 S1 fr R1 r1 g1 f1 h1 => h1 v H1 pi1 R1 r1 g1 f1
theorem ds_set (i : Nat) {x : Str} {pos' : Pos} (hN : X.N.Nodup) (he : DE X c W e m) (hi : X.N[i]? = some x := by rfl) (hx : Loc X.env.scope x := by first | exact Or.inl rfl | exact Or.inr rfl) (hs : swapsWith e (some (.Name x pos')) pos.line X.env = pure false := by rfl)
    (hf : X.fn x = true ∨ X.env.scope.names.lookup x = some .local := by first | exact .inl rfl | exact .inr rfl) : DS X c W (.Assign [.Name x pos'] e pos) (sSet i m) :=
  PS_weak (ps_set hN hi hx he hs hf) fun D σ H ⟨pi, rho, S, env, R, N, h⟩ => tD.bindS R N h fun v H1 d pi1 S1 fr R1 r1 g1 _ h1 => h1 _ H1 pi1 R1 ((N.mono g1.x).set r1 i) g1
theorem ds_if {t : Expr} {p q : List Stmt} {mt : ME} (ht : DT X c W t mt) (ha : DSs X c W p a) (hb : DSs X c W q b) : DS X c W (.If t p q pos) (sIf mt a b) :=
  PS_weak (ps_if ht ha hb) fun D σ H ⟨pi, rho, S, env, R, N, h⟩ => tD.bindS R N h fun v H1 d pi1 S1 fr R1 r1 g1 _ h1 => by
    cases d with
    | bl k =>
      refine ⟨k, bl_of r1, ?_⟩
      cases k with
      | true => rw [if_pos rfl]; exact ⟨pi1, rho, S1, env, R1, N.mono g1.x, PostS.base g1 h1⟩
      | false => rw [if_neg Bool.false_ne_true]; exact ⟨pi1, rho, S1, env, R1, N.mono g1.x, PostS.base g1 h1⟩
    | _ => exact h1.elim
end

/-! ### targets -/
abbrev MG := D → Env' → Store → Option Env'
def gN (i : Nat) : MG := fun d env _ => some (env.set i (.val d))
def gAll : List MG → List D → Env' → Store → Option Env'
  | [], [], env, _ => some env
  | g :: gs, d :: ds, env, S => (g d env S).bind fun env1 => gAll gs ds env1 S
  | _, _, _, _ => none
def gT (gs : List MG) : MG := fun d env S => (seqOf S d).bind fun ds => gAll gs ds env S
theorem wipe_get (σ : St) : ∀ (vs : List Nat) (j : Nat), (wipe σ vs)[j]? = if j ∈ vs ∧ j < σ.length then some none else σ[j]?
  | [], j => by simp [wipe]
  | v :: vs, j => by
    unfold wipe
    by_cases hj : j = v
    · subst hj
      by_cases hl : j < σ.length
      · rw [List.getElem?_set_self (by rw [wipe_length]; exact hl), if_pos ⟨List.mem_cons_self, hl⟩]
      · rw [if_neg (fun q => hl q.2), List.getElem?_eq_none (by rw [List.length_set, wipe_length]; omega), List.getElem?_eq_none (by omega)]
    · rw [List.getElem?_set_ne (Ne.symm hj), wipe_get σ vs j]
      simp [hj]
theorem wipe_set (σ : St) {vs : List Nat} {i : Nat} (x : Option V) (h : i ∈ vs) : wipe (σ.set i x) vs = wipe σ vs := by
  apply List.ext_getElem?
  intro j
  rw [wipe_get, wipe_get, List.length_set]
  by_cases hj : j ∈ vs ∧ j < σ.length
  · rw [if_pos hj, if_pos hj]
  · rw [if_neg hj, if_neg hj]
    by_cases hi : j = i
    · subst hi
      have hl : ¬ j < σ.length := fun q => hj ⟨h, q⟩
      rw [List.getElem?_eq_none (by rw [List.length_set]; omega), List.getElem?_eq_none (by omega)]
    · rw [List.getElem?_set_ne (Ne.symm hi)]
/-- σ' is σ but for the slots is -/
def WipeAs (σ' σ : St) (is : List Nat) : Prop := ∀ vs : List Nat, (∀ i ∈ is, i ∈ vs) → wipe σ' vs = wipe σ vs
theorem WipeAs.trans {σ1 σ2 σ3 : St} {is js : List Nat} (a : WipeAs σ3 σ2 js) (b : WipeAs σ2 σ1 is) : WipeAs σ3 σ1 (is ++ js) := fun vs h => (a vs fun i hi => h i (List.mem_append_right _ hi)).trans (b vs fun i hi => h i (List.mem_append_left _ hi))
def DG (X : Cx) (c : Ctx) (tg : Expr) (g : MG) (is : List Nat) : Prop := PG X tg fun v σ H Q => ∃ pi rho S env d env', Rel (gm X c) H pi rho S ∧ REnv (gm X c) H pi rho σ env ∧ RV (gm X c) H pi rho v d ∧ g d env S = some env' ∧ ∀ σ', REnv (gm X c) H pi rho σ' env' → WipeAs σ' σ is → Q σ' H
def DGs (X : Cx) (c : Ctx) (tgs : List Expr) (gs : List MG) (is : List Nat) : Prop := PGs X tgs fun vs σ H Q => ∃ pi rho S env ds env', Rel (gm X c) H pi rho S ∧ REnv (gm X c) H pi rho σ env ∧ RVs (gm X c) H pi rho vs ds ∧ gAll gs ds env S = some env' ∧ ∀ σ', REnv (gm X c) H pi rho σ' env' → WipeAs σ' σ is → Q σ' H
theorem PG_weak {X : Cx} {e : Expr} {t t' : TG} (h : PG X e t) (f : ∀ v σ H Q, t' v σ H Q → t v σ H Q) : PG X e t' := ⟨fun pins s σ H v u Q I r q => h.run pins s σ H v u Q I r (f v σ H Q q)⟩
theorem PGs_weak {X : Cx} {e : List Expr} {t t' : TGs} (h : PGs X e t) (f : ∀ v σ H Q, t' v σ H Q → t v σ H Q) : PGs X e t' := ⟨fun pins s σ H v u Q I r q => h.run pins s σ H v u Q I r (f v σ H Q q)⟩
theorem PG_or {X : Cx} {e : Expr} {t t' : TG} (h : PG X e t) (h' : PG X e t') : PG X e (fun v σ H Q => t v σ H Q ∨ t' v σ H Q) := ⟨fun pins s σ H v u Q I r q => q.elim (fun q => h.run pins s σ H v u Q I r q) fun q => h'.run pins s σ H v u Q I r q⟩
section
variable {X : Cx} {c : Ctx} {W : WX} {e : Expr} {es : List Expr} {g : MG} {gs : List MG} {m : ME} {is js : List Nat} {pos : Pos}
theorem dg_name (i : Nat) {x : Str} (hN : X.N.Nodup) (hi : X.N[i]? = some x := by rfl) (hx : Loc X.env.scope x := by first | exact Or.inl rfl | exact Or.inr rfl) (hf : X.fn x = true ∨ X.env.scope.names.lookup x = some .local := by first | exact .inl rfl | exact .inr rfl) : DG X c (.Name x pos) (gN i) [i] :=
  PG_weak (pg_name hN hi hx hf) fun v σ H Q ⟨pi, rho, S, env, d, env', R, N, r, e, k⟩ => by
    cases e
    exact k _ (N.set r i) fun vs h => wipe_set σ _ (h i List.mem_cons_self)
theorem dgs_nil : DGs X c [] [] [] := PGs_weak pgs_nil fun vs σ H Q ⟨pi, rho, S, env, ds, env', R, N, r, e, k⟩ => by
  cases ds with
  | nil => cases e; cases r; exact ⟨rfl, k _ N fun _ _ => rfl⟩
  | cons d ds => cases e
theorem dgs_cons (h : DG X c e g is) (hs : DGs X c es gs js) (hk : (assignEach (e :: es) X.env).map (·.2) = assign e X.env :: (assignEach es X.env).map (·.2) := by rfl) : DGs X c (e :: es) (g :: gs) (is ++ js) :=
  PGs_weak (pgs_cons h hs hk) fun vs σ H Q ⟨pi, rho, S, env, ds, env', R, N, r, e, k⟩ => by
    cases ds with
    | nil => cases e
    | cons d ds =>
      cases r with
      | cons r rs =>
        have e' : (g d env S).bind (fun env1 => gAll gs ds env1 S) = some env' := e
        cases e1 : g d env S with
        | none => rw [e1] at e'; cases e'
        | some env1 =>
          rw [e1] at e'
          exact ⟨_, _, rfl, pi, rho, S, env, d, env1, R, N, r, e1, fun σ1 N1 w1 => ⟨pi, rho, S, env1, ds, env', R, N1, rs, e', fun σ2 N2 w2 => k σ2 N2 (w2.trans w1)⟩⟩
theorem gAll_length : ∀ {gs : List MG} {ds : List D} {env env' : Env'} {S : Store}, gAll gs ds env S = some env' → ds.length = gs.length
  | [], [], _, _, _, _ => rfl
  | [], _ :: _, _, _, _, e => by cases e
  | _ :: _, [], _, _, _, e => by cases e
  | g :: gs, d :: ds, env, env', S, e => by
    have e' : (g d env S).bind (fun env1 => gAll gs ds env1 S) = some env' := e
    cases e1 : g d env S with
    | none => rw [e1] at e'; cases e'
    | some env1 => rw [e1] at e'; simp [gAll_length (show gAll gs ds env1 S = some env' from e')]
theorem dg_tup {k : Nat} (hc : X.calm = true) (h : DGs X c es gs is) (hn : (assignEach es X.env).length = gs.length := by rfl) (hst : (assignEach es X.env).findIdx? (·.1) = none := by rfl) : DG X c (.Tuple es k pos) (gT gs) is :=
  PG_weak (PG_or (pg_lst hc h hn hst) (pg_tup hc h hn hst)) fun v σ H Q ⟨pi, rho, S, env, d, env', R, N, r, e, k⟩ => by
    unfold gT at e
    cases e1 : seqOf S d with
    | none => rw [e1] at e; cases e
    | some ds =>
      rw [e1] at e
      have e : gAll gs ds env S = some env' := e
      obtain ⟨a, vs, rfl, hs, z, q⟩ := seqOf_ok R r e1
      have hl : vs.length = gs.length := by rw [q.length]; exact gAll_length e
      rcases hs with hs | hs
      · exact .inl ⟨a, vs, rfl, hs, hl, pi, rho, S, env, ds, env', R, N, q, e, k⟩
      · exact .inr ⟨a, vs, rfl, hs, hl, pi, rho, S, env, ds, env', R, N, q, e, k⟩
end
def sAsg (g : MG) (m : ME) : MS := fun env S => (m env S).bindS env fun d S1 _ => match g d env S1 with
  | some env' => .nx env' S1
  | none => .stuck
section
variable {X : Cx} {c : Ctx} {W : WX} {e tg : Expr} {es : List Expr} {g : MG} {m : ME} {is : List Nat} {pos : Pos}
theorem ds_asg (he : DE X c W e m) (hg : DG X c tg g is) (hs : swapsWithSole [tg] e pos.line X.env = pure false := by rfl) (hw : swappedStores [tg] e X.env = pure none := by rfl)
    (h1 : (assignEach [tg] X.env).map (·.2) = [assign tg X.env] := by rfl) : DS X c W (.Assign [tg] e pos) (sAsg g m) :=
  PS_weak (ps_asg he hg hs hw h1) fun D σ H ⟨pi, rho, S, env, R, N, h⟩ => tD.bindS R N h fun v H1 d pi1 S1 fr R1 r1 g1 _ h1 => by
    split at h1
    · rename_i env' e
      exact ⟨pi1, rho, S1, env, d, env', R1, N.mono g1.x, r1, e, fun σ' N' _ => h1 σ' H1 pi1 R1 N' g1⟩
    · exact h1.elim
end
/-! ### o[i] = v -/
def dput (kvs : List (D × D)) (k v : D) : List (D × D) := if (kvs.any fun p => decide (p.1 = k)) = true then kvs.map (fun p => if p.1 = k then (p.1, v) else p) else kvs ++ [(k, v)]
def vSetItem (o i v : D) (S : Store) : Option Store := match o with
  | .ref n => (match S[n]? with
    | some (.lst xs) => (match i with
      | .int k => (match ixN xs.length k with
        | some j => some (S.set n (.lst (xs.set j v)))
        | none => none)
      | _ => none)
    | some (.dct tk kvs) => if isKey tk i = true ∧ kvs.length < 16777216 then some (S.set n (.dct tk (dput kvs i v))) else none
    | _ => none)
  | _ => none
def rSetDct : V → V → V → Hp → (Hp → Prop) → Prop := fun o i v H Q => ∃ a H', o = .ref a ∧ DPut H a i v H' ∧ Q H'
theorem set_dct {X : Cx} (hu : X.A.units + 1 < cLine) : PSet X rSetDct := by
  intro pins s σ H o i v ov iv u Q I ro ri rv ⟨a, H', e, g, q⟩
  subst e
  cases ro
  exact d_setItem hu I g ri rv fun s' I' => ⟨H', I', q⟩
theorem PSet_or {X : Cx} {t t' : TSet} (h : PSet X t) (h' : PSet X t') : PSet X (fun o i v H Q => t o i v H Q ∨ t' o i v H Q) := fun pins s σ H o i v ov iv u Q I ro ri rv q =>
  q.elim (fun q => h pins s σ H o i v ov iv u Q I ro ri rv q) fun q => h' pins s σ H o i v ov iv u Q I ro ri rv q
section
variable {G : Gam} {H : Hp} {pi rho : List Addr} {S : Store}
theorem RKs.any {kd : D} {k : Key} (ek : keyOf kd = some k) : ∀ {ks : List (Key × V)} {kvs : List (D × D)}, RKs G H pi rho ks kvs → (ks.any fun p => decide (p.1 = k)) = (kvs.any fun p => decide (p.1 = kd))
  | _, _, .nil => rfl
  | _, _, .cons (k := k') (kd := kd') e r rs => by
    rw [List.any_cons, List.any_cons, RKs.any ek rs]
    congr 1
    by_cases h : kd' = kd
    · subst h
      rw [e] at ek
      simp [Option.some.inj ek]
    · have h2 : ¬ k' = k := fun q => h (keyOf_inj e (q ▸ ek))
      simp [h, h2]
theorem RKs.append : ∀ {ks ks' : List (Key × V)} {kvs kvs' : List (D × D)}, RKs G H pi rho ks kvs → RKs G H pi rho ks' kvs' → RKs G H pi rho (ks ++ ks') (kvs ++ kvs')
  | _, _, _, _, .nil, q => q
  | _, _, _, _, .cons e r rs, q => .cons e r (RKs.append rs q)
theorem RKs.repl {kd : D} {k : Key} (ek : keyOf kd = some k) {v : V} {d : D} (r0 : RV G H pi rho v d) : ∀ {ks : List (Key × V)} {kvs : List (D × D)}, RKs G H pi rho ks kvs → RKs G H pi rho (ks.map fun p => if p.1 = k then (p.1, v) else p) (kvs.map fun p => if p.1 = kd then (p.1, d) else p)
  | _, _, .nil => .nil
  | _, _, .cons (k := k') (kd := kd') e r rs => by
    rw [List.map_cons, List.map_cons]
    by_cases h : kd' = kd
    · subst h
      have : k' = k := by rw [e] at ek; exact Option.some.inj ek
      subst this
      simp only [if_true]
      exact .cons e r0 (RKs.repl ek r0 rs)
    · have h2 : ¬ k' = k := fun q => h (keyOf_inj e (q ▸ ek))
      simp only [h, h2, if_false]
      exact .cons e r (RKs.repl ek r0 rs)
theorem RKs.put {kd : D} {k : Key} (ek : keyOf kd = some k) {v : V} {d : D} (r0 : RV G H pi rho v d) {ks : List (Key × V)} {kvs : List (D × D)} (q : RKs G H pi rho ks kvs) : RKs G H pi rho (putK ks k v) (dput kvs kd d) := by
  unfold putK dput
  rw [q.any ek]
  split
  · exact q.repl ek r0
  · exact q.append (.cons ek r0 .nil)
theorem RTs.any {kd : D} {k : List Key} (ek : tkeyOf kd = some k) : ∀ {ks : List (List Key × V)} {kvs : List (D × D)}, RTs G H pi rho ks kvs → (ks.any fun p => decide (p.1 = k)) = (kvs.any fun p => decide (p.1 = kd))
  | _, _, .nil => rfl
  | _, _, .cons (k := k') (kd := kd') e r rs => by
    rw [List.any_cons, List.any_cons, RTs.any ek rs]
    congr 1
    by_cases h : kd' = kd
    · subst h
      rw [e] at ek
      simp [Option.some.inj ek]
    · have h2 : ¬ k' = k := fun q => h (tkeyOf_inj e (q ▸ ek))
      simp [h, h2]
theorem RTs.append : ∀ {ks ks' : List (List Key × V)} {kvs kvs' : List (D × D)}, RTs G H pi rho ks kvs → RTs G H pi rho ks' kvs' → RTs G H pi rho (ks ++ ks') (kvs ++ kvs')
  | _, _, _, _, .nil, q => q
  | _, _, _, _, .cons e r rs, q => .cons e r (RTs.append rs q)
theorem RTs.repl {kd : D} {k : List Key} (ek : tkeyOf kd = some k) {v : V} {d : D} (r0 : RV G H pi rho v d) : ∀ {ks : List (List Key × V)} {kvs : List (D × D)}, RTs G H pi rho ks kvs → RTs G H pi rho (ks.map fun p => if p.1 = k then (p.1, v) else p) (kvs.map fun p => if p.1 = kd then (p.1, d) else p)
  | _, _, .nil => .nil
  | _, _, .cons (k := k') (kd := kd') e r rs => by
    rw [List.map_cons, List.map_cons]
    by_cases h : kd' = kd
    · subst h
      have : k' = k := by rw [e] at ek; exact Option.some.inj ek
      subst this
      simp only [if_true]
      exact .cons e r0 (RTs.repl ek r0 rs)
    · have h2 : ¬ k' = k := fun q => h (tkeyOf_inj e (q ▸ ek))
      simp only [h, h2, if_false]
      exact .cons e r (RTs.repl ek r0 rs)
theorem RTs.put {kd : D} {k : List Key} (ek : tkeyOf kd = some k) {v : V} {d : D} (r0 : RV G H pi rho v d) {ks : List (List Key × V)} {kvs : List (D × D)} (q : RTs G H pi rho ks kvs) : RTs G H pi rho (putK ks k v) (dput kvs kd d) := by
  unfold putK dput
  rw [q.any ek]
  split
  · exact q.repl ek r0
  · exact q.append (.cons ek r0 .nil)
theorem RTs.length : ∀ {ks : List (List Key × V)} {kvs : List (D × D)}, RTs G H pi rho ks kvs → ks.length = kvs.length
  | _, _, .nil => rfl
  | _, _, .cons _ _ r => by simp [RTs.length r]
/-- a thing of the store changes: Rel and Go behind it -/
theorem Rel.upd (R : Rel G H pi rho S) {n : Nat} {a : Addr} {ho : HO} {u : O} (h : pi[n]? = some a) (mu : ∃ ho, H a = some ho ∧ Muta ho) (r : RO G (L2.upd H a ho) pi rho a u) : Rel G (L2.upd H a ho) pi rho (S.set n u) ∧ Go H pi rho (L2.upd H a ho) pi := ⟨R.set h mu r, Go.set R h mu⟩
theorem vSetItem_ok {x y v : V} {dx dy d : D} {S' : Store} {Q : Hp → Prop} (R : Rel G H pi rho S) (rx : RV G H pi rho x dx) (ry : RV G H pi rho y dy) (rv : RV G H pi rho v d) (e : vSetItem dx dy d S = some S') (k : ∀ H', Rel G H' pi rho S' → Go H pi rho H' pi → Q H') :
    rSetL x y v H Q ∨ rSetDct x y v H Q := by
  unfold vSetItem at e
  split at e
  · rename_i n
    cases rx with | ref hn =>
    rename_i a
    obtain ⟨o, eo, ro⟩ := R.addr hn
    rw [eo] at e
    cases o with
    | lst xs =>
      dsimp only at e
      split at e
      · rename_i kk
        split at e
        · rename_i j ej
          cases e
          cases ry
          obtain ⟨ws, h1, z, q⟩ := ro
          have x := Ext.set (o := .lst (ws.set j v)) R hn ⟨_, h1, trivial⟩
          obtain ⟨R2, g2⟩ := R.upd (ho := .lst (ws.set j v)) (u := .lst (xs.set j d)) hn ⟨_, h1, trivial⟩ ⟨_, upd_same, by simpa using z, (q.set j rv).mono x⟩
          exact .inl ⟨a, ws, kk, j, rfl, rfl, h1, by rw [q.length]; exact ej, k _ R2 g2⟩
        · cases e
      · cases e
    | dct tk kvs =>
      dsimp only at e
      split at e
      · rename_i hk
        cases e
        cases tk with
        | false =>
          obtain ⟨ks, h1, z, q⟩ := ro
          obtain ⟨key, ek⟩ : ∃ key, keyOf dy = some key := Option.isSome_iff_exists.mp hk.1
          have := key_rv ry ek
          subst this
          have hz : ks.length < sizeLine := by rw [q.length, sizeLine_eq]; exact hk.2
          have x := Ext.set (o := .dK (putK ks key v)) R hn ⟨_, h1, trivial⟩
          obtain ⟨R2, g2⟩ := R.upd (ho := .dK (putK ks key v)) (u := .dct false (dput kvs dy d)) hn ⟨_, h1, trivial⟩ ⟨_, upd_same, Nat.le_trans (length_putK _ _ _) hz, (q.put ek rv).mono x⟩
          exact .inr ⟨a, _, rfl, DPut.k h1 hz, k _ R2 g2⟩
        | true =>
          obtain ⟨ks, h1, z, q⟩ := ro
          obtain ⟨key, ek⟩ : ∃ key, tkeyOf dy = some key := Option.isSome_iff_exists.mp hk.1
          obtain ⟨b, rfl, hb⟩ := tkey_rv ry ek
          have hz : ks.length < sizeLine := by rw [q.length, sizeLine_eq]; exact hk.2
          have x := Ext.set (o := .dT (putK ks key v)) R hn ⟨_, h1, trivial⟩
          obtain ⟨R2, g2⟩ := R.upd (ho := .dT (putK ks key v)) (u := .dct true (dput kvs dy d)) hn ⟨_, h1, trivial⟩ ⟨_, upd_same, Nat.le_trans (length_putK _ _ _) hz, (q.put ek rv).mono x⟩
          exact .inr ⟨a, _, rfl, DPut.t h1 hb hz, k _ R2 g2⟩
      · cases e
    | ins cc fs => cases e
    | fz kvs => cases e
  · cases e
end
def sItem (o i m : ME) : MS := fun env S => (m env S).bindS env fun d S1 _ => (o env S1).bindS env fun x S2 _ => (i env S2).bindS env fun y S3 _ => match vSetItem x y d S3 with
  | some S4 => .nx env S4
  | none => .stuck
section
variable {X : Cx} {c : Ctx} {W : WX} {e o i : Expr} {m mo mi : ME} {pos pos' : Pos}
theorem ds_item (hu : X.A.units + 1 < cLine) (ho : DE X c W o mo) (hi : DE X c W i mi) (he : DE X c W e m)
    (ha : ∀ v, assign (.Subscript o i pos') X.env v = (do
      let ov ← holding [v] (eval o X.env)
      let iv ← holding [v, ov] (eval i X.env)
      standAt pos'
      holding [v, ov, iv] (setItem ov iv v)
      release [v, ov, iv] []) := by intro _; rfl)
    (hs : swapsWithSole [.Subscript o i pos'] e pos.line X.env = pure false := by rfl) (hw : swappedStores [.Subscript o i pos'] e X.env = pure none := by rfl)
    (h1 : (assignEach [.Subscript o i pos'] X.env).map (·.2) = [assign (.Subscript o i pos') X.env] := by rfl) : DS X c W (.Assign [.Subscript o i pos'] e pos) (sItem mo mi m) :=
  PS_weak (ps_asg he (pg_sub ho hi (PSet_or set_list (set_dct hu)) ha) hs hw h1) fun D σ H ⟨pi, rho, S, env, R, N, h⟩ => tD.bindS R N h fun v H1 d pi1 S1 fr R1 r1 g1 _ h1 =>
    tD.bindS R1 (N.mono g1.x) (PostS.base g1 h1) fun x H2 dx pi2 S2 _ R2 r2 g2 _ h2 => tD.bindS R2 (N.mono (g1.trans g2).x) (PostS.base g2 h2) fun y H3 dy pi3 S3 _ R3 r3 g3 _ h3 => by
      have h3 := PostS.base g3 h3
      split at h3
      · rename_i S4 e4
        exact vSetItem_ok R3 (r2.mono g3.x) r3 (r1.mono (g2.trans g3).x) e4 fun H4 R4 g4 => h3 σ H4 pi3 R4 (N.mono (((g1.trans g2).trans g3).trans g4).x) g4
      · exact h3.elim
end
/-! ### fields -/
/-- what is asked of a class for its field f -/
structure ClF (K : PySem.W.Frag) (C : Addr) (f : Str) : Prop where
  cl : Cls K C
  no : NoAttr K C f
/-- an instance's fields -/
def insOf (S : Store) (cn : Nat) : D → Option (List (Str × D))
  | .obj c fs => if c = cn then some fs else none
  | .ref n => match S[n]? with
    | some (.ins c fs) => if c = cn then some fs else none
    | _ => none
  | _ => none
def vFld (cn : Nat) (f : Str) (x : D) (S : Store) : Res := match insOf S cn x with
  | some fs => (match fs.lookup f with
    | some d => .ok d S false
    | none => .stuck)
  | none => .stuck
section
variable {G : Gam} {H : Hp} {pi rho : List Addr} {S : Store}
end
def putD (f : Str) (v : D) : List (Str × D) → List (Str × D)
  | [] => [(f, v)]
  | (g, x) :: r => if g = f then (g, v) :: r else (g, x) :: putD f v r
def eFld (cn : Nat) (f : Str) (a : ME) : ME := eUn (vFld cn f) a
def sFldM (cn : Nat) (f : Str) (o m : ME) : MS := fun env S => (m env S).bindS env fun d S1 _ => (o env S1).bindS env fun x S2 _ => match x with
  | .ref n => (match S2[n]? with
    | some (.ins k fs) => if k = cn ∧ fs.length < 1000 then .nx env (S2.set n (.ins cn (putD f d fs))) else .stuck
    | _ => .stuck)
  | _ => .stuck
section
variable {X : Cx} {c : Ctx} {W : WX} {e o : Expr} {m mo : ME} {f : Str} {cn : Nat} {pos pos' : Pos}
end
end DL
namespace DL
open PySem PySem.Spec PyProof.Rows L2

/-! ### a def's end: what it made for itself alone is dropped -/
mutual
def D.lo (k : Nat) : D → Bool
  | .tup xs => D.loL k xs
  | .ktup xs => D.loL k xs
  | .fdct kvs => D.loK k kvs
  | .lst xs => D.loL k xs
  | .dct kvs => D.loK k kvs
  | .obj _ fs => D.loF k fs
  | .ref n => decide (n < k)
  | _ => true
def D.loL (k : Nat) : List D → Bool
  | [] => true
  | d :: r => D.lo k d && D.loL k r
def D.loK (k : Nat) : List (D × D) → Bool
  | [] => true
  | (_, d) :: r => D.lo k d && D.loK k r
def D.loF (k : Nat) : List (Str × D) → Bool
  | [] => true
  | (_, d) :: r => D.lo k d && D.loF k r
end
def O.lo (k : Nat) : O → Bool
  | .lst xs => D.loL k xs
  | .dct _ kvs => D.loK k kvs
  | .ins _ fs => D.loF k fs
  | .fz kvs => D.loK k kvs
/-- the first k things lean on no later ones (or are as they were) -/
def okDrop (S S' : Store) : Bool := (List.range S.length).all fun n => decide (S'[n]? = S[n]?) || match S'[n]? with
  | some o => o.lo S.length
  | none => true
def trunc (S S' : Store) : Store := if okDrop S S' = true then S'.take S.length else S'
def frzD (b : Bool) (k : Nat) (S' : Store) (d : D) : D × Bool := match d with
  | .ref n => if n < k then (d, false) else (match S'[n]? with
    | some (.lst ds) => (.lst ds, true)
    | some (.dct false kvs) => (.dct kvs, true)
    | some (.ins c fs) => if b = true then (.obj c fs, true) else (d, false)
    | _ => (d, false))
  | d => (d, false)
def finR (b : Bool) (S : Store) (d : D) (S' : Store) (fr : Bool) : Res :=
  if S'.length = S.length then .ok d S' fr else
    if (frzD b S.length S' d).1.lo S.length = true ∧ okDrop S S' = true then .ok (frzD b S.length S' d).1 (S'.take S.length) ((frzD b S.length S' d).2 || fr) else .ok d S' fr
section
variable {G : Gam} {H H1 H' : Hp} {pi pi1 pi' rho rho' : List Addr} {S S' : Store}
/-- a part of the mutable things alone -/
structure Sub (k : Nat) (pi pi' rho rho' : List Addr) : Prop where
  len : pi.length = k
  pre : ∀ n, n < k → pi[n]? = pi'[n]?
  out : ∀ a, a ∉ pi' → a ∉ rho' → a ∉ pi ∧ a ∉ rho
theorem mem_pre {k : Nat} (hl : pi.length = k) (pre : ∀ n, n < k → pi[n]? = pi'[n]?) {a : Addr} (h : a ∈ pi) : a ∈ pi' := by
  obtain ⟨n, hn⟩ := List.getElem?_of_mem h
  have : n < k := hl ▸ (List.getElem?_eq_some_iff.mp hn).1
  rw [pre n this] at hn
  exact List.mem_of_getElem? hn
mutual
theorem RV.sub {k : Nat} (s : Sub k pi pi' rho rho') : ∀ {v : V} {d : D}, RV G H pi' rho' v d → d.lo k = true → RV G H pi rho v d
  | _, _, .non, _ => .non
  | _, _, .bl b, _ => .bl b
  | _, _, .int i, _ => .int i
  | _, _, .str h, _ => .str h
  | _, _, .scr h z, _ => .scr h z
  | _, _, .err h n m, _ => .err h (s.out _ n m).1 (s.out _ n m).2
  | _, _, .tup h z r, b => .tup h z (RVs.sub s r (by simpa [D.lo] using b))
  | _, _, .ktup h z r, b => .ktup h z (RVs.sub s r (by simpa [D.lo] using b))
  | _, _, .fdct h z r, b => .fdct h z (RKs.sub s r (by simpa [D.lo] using b))
  | _, _, .lst h n m z r, b => .lst h (s.out _ n m).1 (s.out _ n m).2 z (RVs.sub s r (by simpa [D.lo] using b))
  | _, _, .dct h n m z r, b => .dct h (s.out _ n m).1 (s.out _ n m).2 z (RKs.sub s r (by simpa [D.lo] using b))
  | _, _, .obj h n m r, b => .obj h (s.out _ n m).1 (s.out _ n m).2 (RFs.sub s r (by simpa [D.lo] using b))
  | _, _, .ref h, b => .ref ((s.pre _ (by simpa [D.lo] using b)).trans h)
theorem RVs.sub {k : Nat} (s : Sub k pi pi' rho rho') : ∀ {v : List V} {d : List D}, RVs G H pi' rho' v d → D.loL k d = true → RVs G H pi rho v d
  | _, _, .nil, _ => .nil
  | _, _, .cons h r, b => by
    rw [D.loL, Bool.and_eq_true] at b
    exact .cons (RV.sub s h b.1) (RVs.sub s r b.2)
theorem RKs.sub {k : Nat} (s : Sub k pi pi' rho rho') : ∀ {v : List (Key × V)} {d : List (D × D)}, RKs G H pi' rho' v d → D.loK k d = true → RKs G H pi rho v d
  | _, _, .nil, _ => .nil
  | _, _, .cons e h r, b => by
    rw [D.loK, Bool.and_eq_true] at b
    exact .cons e (RV.sub s h b.1) (RKs.sub s r b.2)
theorem RFs.sub {k : Nat} (s : Sub k pi pi' rho rho') : ∀ {v : List (Str × V)} {d : List (Str × D)}, RFs G H pi' rho' v d → D.loF k d = true → RFs G H pi rho v d
  | _, _, .nil, _ => .nil
  | _, _, .cons h r, b => by
    rw [D.loF, Bool.and_eq_true] at b
    exact .cons (RV.sub s h b.1) (RFs.sub s r b.2)
end
theorem RTs.sub {k : Nat} (s : Sub k pi pi' rho rho') : ∀ {v : List (List Key × V)} {d : List (D × D)}, RTs G H pi' rho' v d → D.loK k d = true → RTs G H pi rho v d
  | _, _, .nil, _ => .nil
  | _, _, .cons e h r, b => by
    rw [D.loK, Bool.and_eq_true] at b
    exact .cons e (RV.sub s h b.1) (RTs.sub s r b.2)
theorem RO.sub {k : Nat} {a : Addr} (s : Sub k pi pi' rho rho') : ∀ {o : O}, RO G H pi' rho' a o → o.lo k = true → RO G H pi rho a o
  | .lst _, ⟨vs, h, z, r⟩, b => ⟨vs, h, z, r.sub s b⟩
  | .dct false _, ⟨vs, h, z, r⟩, b => ⟨vs, h, z, r.sub s b⟩
  | .dct true _, ⟨vs, h, z, r⟩, b => ⟨vs, h, z, r.sub s b⟩
  | .ins _ _, ⟨dx, vs, h, r⟩, b => ⟨dx, vs, h, r.sub s b⟩
  | .fz _, ⟨od, vs, h, z, r⟩, b => ⟨od, vs, h, z, r.sub s b⟩
mutual
theorem RV.lo : ∀ {v : V} {d : D}, RV G H pi rho v d → d.lo pi.length = true
  | _, _, .non => by simp [D.lo]
  | _, _, .bl b => by simp [D.lo]
  | _, _, .int i => by simp [D.lo]
  | _, _, .str h => by simp [D.lo]
  | _, _, .scr h z => by simp [D.lo]
  | _, _, .err h n m => by simp [D.lo]
  | _, _, .tup h z r => by simp [D.lo, RVs.lo r]
  | _, _, .ktup h z r => by simp [D.lo, RVs.lo r]
  | _, _, .fdct h z r => by simp [D.lo, RKs.lo r]
  | _, _, .lst h n m z r => by simp [D.lo, RVs.lo r]
  | _, _, .dct h n m z r => by simp [D.lo, RKs.lo r]
  | _, _, .obj h n m r => by simp [D.lo, RFs.lo r]
  | _, _, .ref h => by simp [D.lo, (List.getElem?_eq_some_iff.mp h).1]
theorem RVs.lo : ∀ {v : List V} {d : List D}, RVs G H pi rho v d → D.loL pi.length d = true
  | _, _, .nil => by simp [D.loL]
  | _, _, .cons h r => by simp [D.loL, RV.lo h, RVs.lo r]
theorem RKs.lo : ∀ {v : List (Key × V)} {d : List (D × D)}, RKs G H pi rho v d → D.loK pi.length d = true
  | _, _, .nil => by simp [D.loK]
  | _, _, .cons e h r => by simp [D.loK, RV.lo h, RKs.lo r]
theorem RFs.lo : ∀ {v : List (Str × V)} {d : List (Str × D)}, RFs G H pi rho v d → D.loF pi.length d = true
  | _, _, .nil => by simp [D.loF]
  | _, _, .cons h r => by simp [D.loF, RV.lo h, RFs.lo r]
end
theorem RTs.lo : ∀ {v : List (List Key × V)} {d : List (D × D)}, RTs G H pi rho v d → D.loK pi.length d = true
  | _, _, .nil => by simp [D.loK]
  | _, _, .cons e h r => by simp [D.loK, RV.lo h, RTs.lo r]
theorem RO.lo {a : Addr} : ∀ {o : O}, RO G H pi rho a o → o.lo pi.length = true
  | .lst _, ⟨_, _, _, r⟩ => r.lo
  | .dct false _, ⟨_, _, _, r⟩ => r.lo
  | .dct true _, ⟨_, _, _, r⟩ => r.lo
  | .ins _ _, ⟨_, _, _, r⟩ => r.lo
  | .fz _, ⟨_, _, _, _, r⟩ => r.lo
theorem Go.pre (g : Go H pi rho H' pi') {n : Nat} (h : n < pi.length) : pi[n]? = pi'[n]? := by
  have e : pi[n]? = some pi[n] := List.getElem?_eq_getElem h
  rw [e]; exact (g.x.ref _ _ e).symm
theorem Go.le (R : Rel G H pi rho S) (g : Go H pi rho H' pi') (hl : pi'.length = S'.length) : S.length ≤ S'.length := by
  rw [← R.len, ← hl]
  by_cases h : pi.length = 0
  · omega
  · have e : pi[pi.length - 1]? = some pi[pi.length - 1] := List.getElem?_eq_getElem (by omega)
    have := (List.getElem?_eq_some_iff.mp (g.x.ref _ _ e)).1
    omega
/-- the later things are dropped -/
theorem Rel.cut (R : Rel G H pi rho S) (g : Go H pi rho H' pi') {rho1 rho2 : List Addr} (R' : Rel G H' pi' rho1 S') (s : Sub S.length pi pi' rho2 rho1) (hd : ∀ a ∈ pi, a ∉ rho2) (ht : ∀ a ∈ rho2, H' a ≠ none) (h : okDrop S S' = true) : Rel G H' pi rho2 (S'.take S.length) := by
  have hl : S.length ≤ S'.length := g.le R R'.len
  refine ⟨by rw [R.len, List.length_take]; omega, R.nd, hd, ht, fun n o e => ?_⟩
  have hn : n < S.length := by
    have := (List.getElem?_eq_some_iff.mp e).1
    rw [List.length_take] at this; omega
  rw [List.getElem?_take_of_lt hn] at e
  obtain ⟨a, ha, ro⟩ := R'.at_ n o e
  refine ⟨a, (s.pre n hn).trans ha, ro.sub s ?_⟩
  unfold okDrop at h
  rw [List.all_eq_true] at h
  have hh := h n (List.mem_range.mpr hn)
  rw [Bool.or_eq_true] at hh
  rcases hh with hh | hh
  · have e2 : S[n]? = some o := (of_decide_eq_true hh).symm.trans e
    obtain ⟨b, _, rb⟩ := R.at_ n o e2
    have := rb.lo
    rw [R.len] at this
    exact this
  · rw [e] at hh; exact hh
theorem Go.cut (R : Rel G H pi rho S) (g : Go H pi rho H' pi') : Go H pi rho H' pi :=
  ⟨⟨g.x.tup, g.x.frz, fun a o e n m => ⟨(g.x.keep a o e n m).1, n, (g.x.keep a o e n m).2.2⟩, fun _ _ e => e, g.x.dom⟩, g.res, fun _ h n => (n h).elim⟩
end
section
variable {G : Gam} {W : WX} {σ : L2.St} {H : Hp} {pi rho : List Addr} {S S' : Store} {Q : VK}
theorem RO.toO_below {k : Nat} {d : D} {o : O} (e : toO d = some o) (h : d.lo k = true) : o.lo k = true := by
  cases d <;> simp [toO] at e <;> subst e <;> simpa [D.lo, O.lo] using h
/-- the end of a def: what is handed back -/
theorem finR_ok {b : Bool} (R : Rel G H pi rho S) {d : D} {fr : Bool} (h : PostE G W σ H pi rho Q (finR b S d S' fr)) {v : V} {H' : Hp} {pi' : List Addr} (R' : Rel G H' pi' rho S') (r : RV G H' pi' rho v d) (g : Go H pi rho H' pi') (f : fr = true → Frsh G H H' pi' rho v d S') : Q v H' := by
  unfold finR at h
  split at h
  · exact h v H' pi' R' r g f
  · split at h
    · rename_i hne hb
      obtain ⟨hb, hd⟩ := hb
      have hpre : ∀ n, n < S.length → pi[n]? = pi'[n]? := fun n hn => g.pre (by rw [R.len]; exact hn)
      have hm : ∀ a, a ∈ pi → a ∈ pi' := fun a => mem_pre R.len hpre
      have s : ∀ rho, Sub S.length pi pi' rho rho := fun rho => ⟨R.len, hpre, fun a n m => ⟨fun q => n (hm a q), m⟩⟩
      have R2 := R.cut g R' (s rho) R.dis R'.trk hd
      have keepCase : frzD b S.length S' d = (d, false) → Q v H' := fun e => by
        rw [e] at h hb
        refine h v H' pi R2 (r.sub (s rho) hb) (g.cut R) fun e => ?_
        obtain ⟨p, o, e1, np, nr, eo, ro, Rr⟩ := f (by simpa using e)
        exact ⟨p, o, e1, np, nr, eo, ro.sub (s _) (RO.toO_below eo hb), R.cut g Rr (s _) (fun a h => Rr.dis a (hm a h)) Rr.trk hd⟩
      cases d with
      | ref n =>
        by_cases hn : n < S.length
        · exact keepCase (by simp [frzD, hn])
        · have r0 := r
          cases r with | ref hp =>
          rename_i p
          obtain ⟨o, eo, ro⟩ := R'.addr hp
          have hpi : p ∉ pi := fun q => by
            obtain ⟨m, hm⟩ := List.getElem?_of_mem q
            have hm' : m < S.length := R.len ▸ (List.getElem?_eq_some_iff.mp hm).1
            rw [hpre m hm'] at hm
            have := R'.inj hm hp
            omega
          have hpm : p ∈ pi' := List.mem_of_getElem? hp
          have hrho : p ∉ rho := R'.dis p hpm
          have np : H p = none := g.new' p hpm hpi
          have s2 : Sub S.length pi pi' (p :: rho) rho := ⟨R.len, hpre, fun a n m => ⟨fun q => n (hm a q), fun q => by
            rw [List.mem_cons] at q
            rcases q with q | q
            · exact n (q ▸ hpm)
            · exact m q⟩⟩
          have dis2 : ∀ a ∈ pi, a ∉ p :: rho := fun a h q => by
            rw [List.mem_cons] at q
            rcases q with q | q
            · exact hpi (q ▸ h)
            · exact R.dis a h q
          have trk2 : ∀ a ∈ p :: rho, H' a ≠ none := fun a q => by
            rw [List.mem_cons] at q
            rcases q with q | q
            · obtain ⟨ho, e⟩ := ro.there
              rw [q, e]; exact fun z => by cases z
            · exact R'.trk a q
          have R3 := R.cut g R' s2 dis2 trk2 hd
          cases o with
          | lst ds =>
            have e : frzD b S.length S' (.ref n) = (.lst ds, true) := by simp [frzD, hn, eo]
            rw [e] at h hb
            obtain ⟨vs, h1, z, q⟩ := ro
            have lo : D.loL S.length ds = true := by simpa [D.lo] using hb
            exact h (.ref p) H' pi R2 (.lst h1 hpi hrho z (q.sub (s rho) lo)) (g.cut R) fun _ => ⟨p, _, rfl, np, hrho, rfl, ⟨vs, h1, z, q.sub s2 lo⟩, R3⟩
          | dct tk kvs =>
            cases tk with
            | false =>
              have e : frzD b S.length S' (.ref n) = (.dct kvs, true) := by simp [frzD, hn, eo]
              rw [e] at h hb
              obtain ⟨vs, h1, z, q⟩ := ro
              have lo : D.loK S.length kvs = true := by simpa [D.lo] using hb
              exact h (.ref p) H' pi R2 (.dct h1 hpi hrho z (q.sub (s rho) lo)) (g.cut R) fun _ => ⟨p, _, rfl, np, hrho, rfl, ⟨vs, h1, z, q.sub s2 lo⟩, R3⟩
            | true => exact keepCase (by simp [frzD, hn, eo])
          | fz kvs => exact keepCase (by simp [frzD, hn, eo])
          | ins c fs =>
            cases b with
            | false => exact keepCase (by simp [frzD, hn, eo])
            | true =>
              have e : frzD true S.length S' (.ref n) = (.obj c fs, true) := by simp [frzD, hn, eo]
              rw [e] at h hb
              obtain ⟨dx, vs, h1, q⟩ := ro
              have lo : D.loF S.length fs = true := by simpa [D.lo] using hb
              exact h (.ref p) H' pi R2 (.obj h1 hpi hrho (q.sub (s rho) lo)) (g.cut R) fun _ => ⟨p, _, rfl, np, hrho, rfl, ⟨dx, vs, h1, q.sub s2 lo⟩, R3⟩
      | _ => exact keepCase rfl
    · exact h v H' pi' R' r g f
theorem trunc_ok (R : Rel G H pi rho S) {e : Exc} (h : PostE G W σ H pi rho Q (.exc e (trunc S S'))) {cls : Value} {dx : Option Addr} {H' : Hp} {pi' : List Addr} (R' : Rel G H' pi' rho S') (g : Go H pi rho H' pi') (x : RExc G H' rho e cls dx) : W cls dx σ H' := by
  unfold trunc at h
  split at h
  · rename_i hd
    have hpre : ∀ n, n < S.length → pi[n]? = pi'[n]? := fun n hn => g.pre (by rw [R.len]; exact hn)
    have s : Sub S.length pi pi' rho rho := ⟨R.len, hpre, fun a n m => ⟨fun q => n (mem_pre R.len hpre q), m⟩⟩
    exact h cls dx H' pi (R.cut g R' s R.dis R'.trk hd) (g.cut R) x
  · exact h cls dx H' pi' R' g x
end
/-- a def by its body: nl further names behind the parameters -/
def dDef (nl : Nat) (body : MS) : MF := fun ds S => match body (ds.map .val ++ List.replicate nl .no) S with
  | .rt d S' fr => finR false S d S' fr
  | .nx _ S' => finR false S .non S' false
  | .exc e _ S' => .exc e (trunc S S')
  | _ => .stuck
abbrev PostC (G : Gam) (H : Hp) (pi rho : List Addr) (Q : VK) (E : XK) : Res → Prop := PostE G (fun cls dx _ H' => E cls dx H') [] H pi rho Q
/-- a def's promise: what F reckons -/
def spD (G : Gam) (n : Nat) (F : MF) : Sp := fun vs H Q E => ∃ pi rho S ds, Rel G H pi rho S ∧ RVs G H pi rho vs ds ∧ ds.length = n ∧ PostC G H pi rho Q E (F ds S)
section
variable {P : Program} {w : World} {K : PySem.W.Frag} {mg : Str → Option Value} {base : Heap} {cl : Nat → Addr}
/-- a def over its body, its errors bearing no context -/
theorem fun_n {x qual : Str} {st : Stmt} {f : Addr} {fd : FuncData} {N ps : List Str} {k : Nat} {sp : Sp} (F : Fun K x qual st f fd) (S : FnScope N ps (defScope st)) (len : ∀ vs H Q E, sp vs H Q E → vs.length = ps.length)
    (body : ∀ (cdv : Value) (A : Around) (outer : List Env) (s : Shared) (H : Hp) (vs : List V) (Q : VK) (E : XK), Room k (A.deeper (envOfC qual (defScope st) s.heap.objs.size f cdv)) → sp vs H Q E → ∃ t, PSs (cxOf (L2N.CX P w) P w K mg base N qual (defScope st) f cdv A outer s H E) (defBody st) t ∧ t { nx := fun _ H' => Q .non H', rt := Q } (L2.start N vs) H) :
    FnOk P w K mg base (L2N.CX P w) (k + 1) f fd ps sp := by
  rcases F.ex with ⟨_, _, _, _, _, _, c0, _, _, rfl, h1, h2⟩
  exact fn_of h1 h2 S len fun A o s H vs Q E r q => body c0 A o s H vs Q E r q
theorem def_ok {x qual : Str} {st : Stmt} {f : Addr} {fd : FuncData} {N ps : List Str} {k n nl : Nat} {body : MS} (F : Fun K x qual st f fd) (S : FnScope N ps (defScope st)) (hn : ps.length = n) (hl : N.length = n + nl)
    (hb : ∀ (cdv : Value) (A : Around) (outer : List Env) (s : Shared) (H : Hp) (E : XK), Room k (A.deeper (envOfC qual (defScope st) s.heap.objs.size f cdv)) →
      DSs (cxOf (L2N.CX P w) P w K mg base N qual (defScope st) f cdv A outer s H E) (cl, none) (fun cls dx _ H' => E cls dx H') (defBody st) body) :
    FnOk P w K mg base (L2N.CX P w) (k + 1) f fd ps (spD ⟨K, cl, none⟩ n (dDef nl body)) := by
  refine fun_n F S (fun vs H Q E h => ?_) (fun cdv A outer s H vs Q E hr h => ⟨_, hb cdv A outer s H E hr, ?_⟩)
  · obtain ⟨pi, rho, S, ds, R, r, e, _⟩ := h
    rw [r.length, e, hn]
  · obtain ⟨pi, rho, Sx, ds, R, r, e, h⟩ := h
    refine ⟨pi, rho, Sx, _, R, REnv.start r N, ?_⟩
    have enl : N.length - ds.length = nl := by omega
    rw [enl]
    unfold dDef at h
    cases eb : body (ds.map Sl.val ++ List.replicate nl Sl.no) Sx with
    | nx env' S' =>
      rw [eb] at h
      have h : PostC ⟨K, cl, none⟩ H pi rho Q E (finR false Sx .non S' false) := h
      exact fun σ' H' pi' R' N' g => finR_ok R h R' .non g fun z => by cases z
    | rt d S' fr =>
      rw [eb] at h
      have h : PostC ⟨K, cl, none⟩ H pi rho Q E (finR false Sx d S' fr) := h
      exact fun v H' pi' R' r' g f => finR_ok R h R' r' g f
    | exc x env' S' =>
      rw [eb] at h
      have h : PostC ⟨K, cl, none⟩ H pi rho Q E (.exc x (trunc Sx S')) := h
      exact fun σ' cls dx H' pi' R' N' g q => trunc_ok (σ := []) R h R' g q
    | bk env' S' => rw [eb] at h; exact h.elim
    | ct env' S' => rw [eb] at h; exact h.elim
    | stuck => rw [eb] at h; exact h.elim
end
/-- a new instance changes no more -/
def eFrz (m : ME) : ME := fun env S => (m env S).bind fun x S1 fr => finR true S x S1 fr
/-! ### calls -/
/-- the def called x keeps F, by at most level k -/
def DefOk (P : Program) (w : World) (K : PySem.W.Frag) (mg : Str → Option Value) (base : Heap) (cl : Nat → Addr) (k : Nat) (x : Str) (n : Nat) (F : MF) : Prop :=
  ∃ f fd ps, FnOk P w K mg base (L2N.CX P w) k f fd ps (spD ⟨K, cl, none⟩ n F) ∧ mg x = some (.ref f) ∧ PySem.W.keepIn K (.ref f) = true ∧ Binds K fd ps []
/-- o.m(..) -/
def eMeth (cn : Nat) (m : Str) (F : MF) (o : ME) (ms : List ME) : ME := fun env S => (o env S).bind fun x S1 _ => match insOf S1 cn x with
  | some fs => if (fs.lookup m).isNone = true then (eArgs ms env S1).bind fun ds S2 => F (x :: ds) S2 else .stuck
  | none => .stuck
/-- C(..) -/
def eNew (cn : Nat) (F : MF) (ms : List ME) : ME := fun env S => (eArgs ms env S).bind fun ds S1 => match F (.ref S1.length :: ds) (S1 ++ [.ins cn []]) with
  | .ok .non S2 _ => .ok (.ref S1.length) S2 false
  | .exc e S2 => .exc e (trunc S1 S2)
  | _ => .stuck
section
variable {X : Cx} {cl : Nat → Addr} {W : WX} {k j n cn : Nat} {x m : Str} {F : MF} {o e : Expr} {es : List Expr} {mo : ME} {ms : List ME} {p pos apos : Pos} {ta : TE} {t : TA} {CX : CXT} {f C : Addr} {fd : FuncData} {ps : List Str} {sp : Sp} {E : L2.St → XK}

/-- a callee's wish out of the caller's -/
theorem PostE.toC {G : Gam} {σ : L2.St} {H : Hp} {pi rho : List Addr} {Q : VK} : ∀ {r : Res}, PostE G W σ H pi rho Q r → PostC G H pi rho Q (WE W σ) r
  | .ok _ _ _, h => h
  | .exc _ _, h => h
  | .stuck, h => h
theorem de_call (T : DefOk X.prog X.w X.K X.mg X.base cl k x n F) (hr : Room j X.A) (hk : k ≤ j) (tk : L2N.Takes X W) (ha : DA X (cl, none) W (e :: es) ms) (hn : ms.length = n := by rfl) (hg : Gl X x := by rfl) (hdb : (x == ("__debug__" : Str)) = false := by decide)
    (he : starEach (e :: es) X.env = (false, eval e X.env) :: starEach es X.env := by rfl) (hpl : (backTo pos (starEach es X.env)).any (·.1) = false := by rfl) : DE X (cl, none) W (.Call (.Name x p) (e :: es) [] pos) (eCallF F ms) := by
  obtain ⟨f, fd, ps, T, hm, hkp, hb⟩ := T
  exact PE_weak (pe_callS T (hr.mono hk) hg hm hkp hb (fun σ => L2N.passAt tk σ) ha hdb he hpl) fun σ H Q ⟨pi, rho, S, env, R, N, h⟩ => tDA.bind R N h fun vs H1 ds pi1 S1 e R1 r1 g1 h1 =>
    ⟨pi1, rho, S1, ds, R1, r1, by rw [eArgs_length e]; exact hn, h1.toC⟩
end
end DL
namespace DL
open PySem L2

/-! ### what is walked -/
inductive IRes where
  | ok (items : List D) (g : Option (Nat × List D)) (S : Store)
  | exc (e : Exc) (S : Store)
  | stuck
def gdOk (g : Option (Nat × List D)) (S : Store) : Prop := match g with
  | none => True
  | some (n, xs) => S[n]? = some (.lst xs)
instance (g : Option (Nat × List D)) (S : Store) : Decidable (gdOk g S) := by
  unfold gdOk; cases g <;> infer_instance
/-- the iterator J walks the items -/
structure WalkD (G : Gam) (H1 : Hp) (pi1 rho : List Addr) (items : List D) (gd : Option (Nat × List D)) (J : It) : Prop where
  fit : items.length ≤ sizeLine
  go : ∀ (rho' : List Addr) (i : Nat) (H' : Hp) (pi' : List Addr) (S' : Store) (d : D), Rel G H' pi' rho' S' → Ext H1 pi1 rho H' pi' rho' → gdOk gd S' → items[i]? = some d →
    J.go i H' ∧ ∀ x H'', J.yld i H' x H'' → Rel G H'' pi' rho' S' ∧ Go H' pi' rho' H'' pi' ∧ RV G H'' pi' rho' x d
  stop : ∀ (rho' : List Addr) (i : Nat) (H' : Hp) (pi' : List Addr) (S' : Store), Rel G H' pi' rho' S' → Ext H1 pi1 rho H' pi' rho' → gdOk gd S' → items.length ≤ i → J.stop i H'
abbrev MI := Env' → Store → IRes
def PostI (G : Gam) (W : WX) (σ : St) (H : Hp) (pi rho : List Addr) (R : It → Hp → Prop) : IRes → Prop
  | .ok items g S1 => ∀ H1 pi1 J, Rel G H1 pi1 rho S1 → Go H pi rho H1 pi1 → WalkD G H1 pi1 rho items g J → R J H1
  | .exc e S1 => ∀ cls dx H1 pi1, Rel G H1 pi1 rho S1 → Go H pi rho H1 pi1 → RExc G H1 rho e cls dx → W cls dx σ H1
  | .stuck => False
def DI (X : Cx) (c : Ctx) (W : WX) (tg iter : Expr) (mi : MI) : Prop := ∃ wi, PI X tg iter wi ∧ ∀ {σ : St} {H : Hp} {pi rho : List Addr} {S : Store} {env : Env'} {R : It → Hp → Prop}, Rel (gm X c) H pi rho S → REnv (gm X c) H pi rho σ env →
  PostI (gm X c) W σ H pi rho R (mi env S) → wi σ H R
theorem PI_or {X : Cx} {tg it : Expr} {w w' : TI} (h : PI X tg it w) (h' : PI X tg it w') : PI X tg it (fun σ H R => w σ H R ∨ w' σ H R) := ⟨fun pins s σ H R I q => q.elim (fun q => h.run pins s σ H R I q) fun q => h'.run pins s σ H R I q⟩
/-- the items of a value that is walked -/
def itemsOf (S : Store) : D → Option (List D × Option (Nat × List D))
  | .ref n => match S[n]? with
    | some (.lst xs) => some (xs, some (n, xs))
    | _ => none
  | .str z => if z.length ≤ 16777216 then some (z.cps.toList.map fun c => .str ⟨#[c]⟩, none) else none
  | d => (seqOf S d).map fun xs => (xs, none)
section
variable {G : Gam} {H H1 H' : Hp} {pi pi1 pi' rho rho' : List Addr} {S S' : Store}
theorem walk_l {a : Addr} {gd : Option (Nat × List D)} {ds : List D} (hz : ds.length ≤ sizeLine) (h : ∀ rho' H' pi' S', Rel G H' pi' rho' S' → Ext H1 pi1 rho H' pi' rho' → gdOk gd S' → ∃ ws, SqL G.K H' a ws ∧ RVs G H' pi' rho' ws ds) : WalkD G H1 pi1 rho ds gd (Itl G.K a) := by
  refine ⟨hz, fun rho' i H' pi' S' d R x g e => ?_, fun rho' i H' pi' S' R x g e => ?_⟩
  · obtain ⟨ws, hs, qw⟩ := h rho' H' pi' S' R x g
    obtain ⟨v, ev, r⟩ := qw.get e
    refine ⟨⟨ws, v, hs, ev⟩, fun y H'' hy => ?_⟩
    obtain ⟨rfl, hy⟩ := hy
    have := hy ws hs
    rw [ev] at this
    cases this
    exact ⟨R, .refl, r⟩
  · obtain ⟨ws, hs, qw⟩ := h rho' H' pi' S' R x g
    exact ⟨ws, hs, by rw [qw.length]; exact e⟩
theorem walk_t {a : Addr} {gd : Option (Nat × List D)} {ds : List D} (hz : ds.length ≤ sizeLine) (h : ∀ rho' H' pi' S', Rel G H' pi' rho' S' → Ext H1 pi1 rho H' pi' rho' → gdOk gd S' → ∃ ws, SqT G.K H' a ws ∧ RVs G H' pi' rho' ws ds) : WalkD G H1 pi1 rho ds gd (Itt G.K a) := by
  refine ⟨hz, fun rho' i H' pi' S' d R x g e => ?_, fun rho' i H' pi' S' R x g e => ?_⟩
  · obtain ⟨ws, hs, qw⟩ := h rho' H' pi' S' R x g
    obtain ⟨v, ev, r⟩ := qw.get e
    refine ⟨⟨ws, v, hs, ev⟩, fun y H'' hy => ?_⟩
    obtain ⟨rfl, hy⟩ := hy
    have := hy ws hs
    rw [ev] at this
    cases this
    exact ⟨R, .refl, r⟩
  · obtain ⟨ws, hs, qw⟩ := h rho' H' pi' S' R x g
    exact ⟨ws, hs, by rw [qw.length]; exact e⟩
/-- a text is walked -/
theorem walk_s {z : Str} (ho : PyData.strOk z = true) (hz : z.length ≤ 16777216) : WalkD G H1 pi1 rho (z.cps.toList.map fun c => D.str ⟨#[c]⟩) none (Its z) := by
  refine ⟨by rw [List.length_map, sizeLine_eq]; exact hz, fun rho' i H' pi' S' d R x g e => ?_, fun rho' i H' pi' S' R x g e => ?_⟩
  · rw [List.getElem?_map] at e
    cases ec : z.cps.toList[i]? with
    | none => rw [ec] at e; cases e
    | some c =>
      rw [ec] at e
      cases e
      have hi : i < z.cps.size := by
        have := (List.getElem?_eq_some_iff.mp ec).1
        simpa using this
      refine ⟨hi, fun y H'' hy => ?_⟩
      obtain ⟨rfl, c', ec', rfl⟩ := hy
      have : c' = c := by
        have e1 : z.cps.toList[i]? = some c' := by simpa using ec'
        rw [ec] at e1; exact (Option.some.inj e1).symm
      subst this
      refine ⟨R, .refl, .str (strOk_of fun d hd => ?_)⟩
      have : d = c' := by simpa using hd
      subst this
      exact strOk_mem ho d (List.mem_of_getElem? ec)
  · have : z.cps.toList.length ≤ i := by simpa using e
    show z.cps.size ≤ i
    simpa using this
end
section
variable {X : Cx} {c : Ctx} {W : WX} {tg e : Expr} {m : ME}
def Res.bindI (r : Res) (f : D → Store → IRes) : IRes := match r with
  | .ok d S1 _ => f d S1
  | .exc e S1 => .exc e S1
  | .stuck => .stuck
def ARes.bindI (r : ARes) (f : List D → Store → IRes) : IRes := match r with
  | .ok d S1 => f d S1
  | .exc e S1 => .exc e S1
  | .stuck => .stuck
theorem tDA.bindI {G : Gam} {σ : St} {H : Hp} {pi rho : List Addr} {S : Store} {env : Env'} {ms : List ME} {f : List D → Store → IRes} {Q : It → Hp → Prop} {Q' : List V → Hp → Prop} (R : Rel G H pi rho S) (N : REnv G H pi rho σ env)
    (h : PostI G W σ H pi rho Q ((eArgs ms env S).bindI f)) (k : ∀ v H1 d pi1 S1, Rel G H1 pi1 rho S1 → RVs G H1 pi1 rho v d → Go H pi rho H1 pi1 → PostI G W σ H pi rho Q (f d S1) → Q' v H1) : tDA G W ms σ H Q' := by
  refine ⟨pi, rho, S, env, R, N, ?_⟩
  cases e : eArgs ms env S with
  | ok d S1 =>
    rw [e] at h
    exact fun v H1 pi1 R1 r g => k v H1 d pi1 S1 R1 r g h
  | exc x S1 => rw [e] at h; exact h
  | stuck => rw [e] at h; exact h
def fVal (d : D) (S : Store) : IRes := match itemsOf S d with
  | some (xs, g) => .ok xs g S
  | none => .stuck
def iVal (m : ME) : MI := fun env S => (m env S).bindI fVal
/-- which of the three walks a value wants -/
inductive Wk where
  | l | t | s
  deriving DecidableEq
def wkOf : D → Wk
  | .tup _ => .t
  | .ktup _ => .t
  | .str _ => .s
  | _ => .l
theorem wk_fits {G : Gam} {H : Hp} {pi rho : List Addr} {v : V} {d : D} {items : List D} {gd : Option (Nat × List D)} {S : Store} (R : Rel G H pi rho S) (r : RV G H pi rho v d) (e : itemsOf S d = some (items, gd)) :
    match wkOf d with
    | .l => ∃ a, v = .ref a ∧ (∃ xs, SqL G.K H a xs) ∧ WalkD G H pi rho items gd (Itl G.K a)
    | .t => ∃ a, v = .ref a ∧ (∃ xs, SqT G.K H a xs) ∧ WalkD G H pi rho items gd (Itt G.K a)
    | .s => ∃ z, v = .str z ∧ WalkD G H pi rho items gd (Its z) := by
  cases r with
  | str ho =>
    rename_i z
    have e : (if z.length ≤ 16777216 then some (z.cps.toList.map fun c => D.str ⟨#[c]⟩, (none : Option (Nat × List D))) else none) = some (items, gd) := e
    split at e
    · rename_i hz
      cases e
      exact ⟨z, rfl, walk_s ho hz⟩
    · cases e
  | lst h n m z q =>
    cases e
    exact ⟨_, rfl, ⟨_, .inl (.inl h)⟩, walk_l (by rw [← q.length]; exact z) fun rho' H' pi' S' R' x g => ⟨_, .inl (.inl (x.keep _ _ h n m).1), q.mono x⟩⟩
  | tup h z q =>
    cases e
    exact ⟨_, rfl, ⟨_, SqT.of h⟩, walk_t (by rw [← q.length]; exact z) fun rho' H' pi' S' R' x g => ⟨_, SqT.of (x.tup _ _ h), q.mono x⟩⟩
  | ktup h z q =>
    cases e
    exact ⟨_, rfl, ⟨_, .inr h⟩, walk_t (by rw [← q.length]; exact z) fun rho' H' pi' S' R' x g => ⟨_, .inr h, q.mono x⟩⟩
  | scr h z =>
    cases e
    refine ⟨_, rfl, ⟨_, h.sq⟩, walk_l (by simpa using z) fun rho' H' pi' S' R' x g => ⟨_, ?_, ints_rv _⟩⟩
    exact (h.elim (fun ⟨o, h⟩ => .inl ⟨o, x.frz _ _ _ h⟩) .inr : SqF G.K H' _ _).sq
  | ref h =>
    rename_i a n
    have e' : (match S[n]? with
      | some (.lst xs) => some (xs, some (n, xs))
      | _ => none) = some (items, gd) := e
    obtain ⟨o, eo, ro⟩ := R.addr h
    rw [eo] at e'
    cases o with
    | lst xs =>
      cases e'
      obtain ⟨ws, h1, z, q⟩ := ro
      refine ⟨a, rfl, ⟨_, .inl (.inl h1)⟩, walk_l (by rw [← q.length]; exact z) fun rho' H' pi' S' R' x g => ?_⟩
      obtain ⟨o, eo, ro⟩ := R'.addr (x.ref _ _ h)
      have g : S'[n]? = some (.lst items) := g
      rw [g] at eo
      cases eo
      obtain ⟨ws', h2, _, q2⟩ := ro
      exact ⟨ws', .inl (.inl h2), q2⟩
    | dct tk kvs => cases e'
    | ins c fs => cases e'
    | fz kvs => cases e'
  | _ => cases e
theorem di_val (he : DE X c W e m) : DI X c W tg e (iVal m) := by
  refine ⟨_, PI_or (pi_list he) (PI_or (pi_tup he) (pi_str he)), fun {σ H pi rho S env RR} R N h => ?_⟩
  have via : ∀ {Q' : VK}, (∀ v H1 d pi1 S1, m env S = .ok d S1 (match m env S with | .ok _ _ f => f | _ => false) → Rel (gm X c) H1 pi1 rho S1 → RV (gm X c) H1 pi1 rho v d → Go H pi rho H1 pi1 → PostI (gm X c) W σ H pi rho RR (fVal d S1) → Q' v H1) → tD (gm X c) W m σ H Q' := fun kk => by
    refine ⟨pi, rho, S, env, R, N, ?_⟩
    unfold iVal at h
    cases em : m env S with
    | ok d S1 fr =>
      rw [em] at h kk
      exact fun v H1 pi1 R1 r g _ => kk v H1 d pi1 S1 rfl R1 r g h
    | exc x S1 => rw [em] at h; exact h
    | stuck => rw [em] at h; exact h
  have use : ∀ {d : D} {S1 : Store} {v : V} {H1 : Hp} {pi1 : List Addr} {w : Wk}, wkOf d = w → Rel (gm X c) H1 pi1 rho S1 → RV (gm X c) H1 pi1 rho v d → Go H pi rho H1 pi1 → PostI (gm X c) W σ H pi rho RR (fVal d S1) →
      match w with
      | .l => ∃ a, v = .ref a ∧ (∃ xs, SqL X.K H1 a xs) ∧ RR (Itl X.K a) H1
      | .t => ∃ a, v = .ref a ∧ (∃ xs, SqT X.K H1 a xs) ∧ RR (Itt X.K a) H1
      | .s => ∃ z, v = .str z ∧ RR (Its z) H1 := by
    intro d S1 v H1 pi1 w ew R1 r g hp
    unfold fVal at hp
    cases e2 : itemsOf S1 d with
    | none => rw [e2] at hp; exact hp.elim
    | some p =>
      obtain ⟨items, gd⟩ := p
      rw [e2] at hp
      have f := wk_fits R1 r e2
      rw [ew] at f
      cases w with
      | l => obtain ⟨a, e, s, w⟩ := f; exact ⟨a, e, s, hp H1 pi1 _ R1 g w⟩
      | t => obtain ⟨a, e, s, w⟩ := f; exact ⟨a, e, s, hp H1 pi1 _ R1 g w⟩
      | s => obtain ⟨z, e, w⟩ := f; exact ⟨z, e, hp H1 pi1 _ R1 g w⟩
  have pick : ∀ w : Wk, (∀ d S1 fr, m env S = .ok d S1 fr → wkOf d = w) → (iList X.K (tD (gm X c) W m) σ H RR ∨ iTup X.K (tD (gm X c) W m) σ H RR ∨ iStr (tD (gm X c) W m) σ H RR) := fun w hw => by
    cases w with
    | l => exact .inl (via fun v H1 d pi1 S1 e R1 r g hp => use (hw _ _ _ e) R1 r g hp)
    | t => exact .inr (.inl (via fun v H1 d pi1 S1 e R1 r g hp => use (hw _ _ _ e) R1 r g hp))
    | s => exact .inr (.inr (via fun v H1 d pi1 S1 e R1 r g hp => use (hw _ _ _ e) R1 r g hp))
  cases em : m env S with
  | ok d S1 fr => exact pick (wkOf d) fun d' S1' fr' e => by rw [em] at e; cases e; rfl
  | exc x S1 => exact pick .l fun d' S1' fr' e => by rw [em] at e; cases e
  | stuck => exact pick .l fun d' S1' fr' e => by rw [em] at e; cases e
/-- the ints of a range -/
def rngL (lo : Int) (n : Nat) : List D := (List.range n).map fun i => .int (lo + (i : Nat))
theorem walk_rng {G : Gam} {H1 : Hp} {pi1 rho : List Addr} {lo : Int} {n : Nat} (hz : n ≤ 16777216) : WalkD G H1 pi1 rho (rngL lo n) none (Itr lo n) := by
  refine ⟨by simp [rngL, sizeLine_eq, hz], fun rho' i H' pi' S' d R x g e => ?_, fun rho' i H' pi' S' R x g e => ?_⟩
  · unfold rngL at e
    rw [List.getElem?_map] at e
    by_cases hi : i < n
    · rw [List.getElem?_range hi] at e
      cases e
      refine ⟨hi, fun y H'' hy => ?_⟩
      obtain ⟨rfl, rfl⟩ := hy
      exact ⟨R, .refl, .int _⟩
    · rw [List.getElem?_eq_none (by simpa using hi)] at e; cases e
  · have : n ≤ i := by simpa [rngL] using e
    exact this
def fRng1 : List D → Store → IRes
  | [.int j], S1 => if -(2 ^ 62) ≤ j ∧ j ≤ 16777216 then .ok (rngL 0 j.toNat) none S1 else .stuck
  | _, _ => .stuck
def fRng2 : List D → Store → IRes
  | [.int i, .int j], S1 => if -(2 ^ 62) ≤ i ∧ i < 2 ^ 62 ∧ -(2 ^ 62) ≤ j ∧ j < 2 ^ 62 ∧ j - i ≤ 16777216 then .ok (rngL i (j - i).toNat) none S1 else .stuck
  | _, _ => .stuck
def iArg (f : List D → Store → IRes) (ms : List ME) : MI := fun env S => (eArgs ms env S).bindI f
theorem rng1_w {G : Gam} {σ : St} {H : Hp} {pi rho : List Addr} {S : Store} {env : Env'} {ma : ME} {RR : It → Hp → Prop} (R : Rel G H pi rho S) (N : REnv G H pi rho σ env) (h : PostI G W σ H pi rho RR (iArg fRng1 [ma] env S)) : iRng1 (tDA G W [ma]) σ H RR :=
  tDA.bindI R N h fun vs H1 ds pi1 S1 R1 r g h => by
    match ds, r, h with
    | [.int j], r, h =>
      have h : PostI G W σ H pi rho RR (if -(2 ^ 62) ≤ j ∧ j ≤ 16777216 then .ok (rngL 0 j.toNat) none S1 else .stuck) := h
      split at h
      · rename_i hj
        obtain ⟨x, rfl, rx⟩ := r.one
        cases rx
        exact ⟨_, rfl, hj.1, by omega, h H1 pi1 _ R1 g (walk_rng (by omega))⟩
      · exact h.elim
theorem di_range1 {a : Expr} {ma : ME} {p pos : Pos} (hg : Gl X "range") (hm : X.mg "range" = none) (ha : DA X c W [a] [ma]) (hs : starEach [a] X.env = [(false, eval a X.env)] := by rfl) : DI X c W tg (.Call (.Name "range" p) [a] [] pos) (iArg fRng1 [ma]) :=
  ⟨_, pi_range1 hg hm ha hs, fun {σ H pi rho S env RR} R N h => rng1_w R N h⟩
end

/-! ### for -/
def forL (gd : Option (Nat × List D)) (g : MG) (b : MS) : List D → Env' → Store → FR
  | [], env, S => if gdOk gd S then .nx env S else .stuck
  | x :: r, env, S => if gdOk gd S then (match g x env S with
    | some env1 => (match b env1 S with
      | .nx env' S' => forL gd g b r env' S'
      | .ct env' S' => forL gd g b r env' S'
      | .bk env' S' => .nx env' S'
      | r => r)
    | none => .stuck) else .stuck
def sFor (mi : MI) (g : MG) (b : MS) : MS := fun env S => match mi env S with
  | .ok items gd S1 => forL gd g b items env S1
  | .exc e S1 => .exc e env S1
  | .stuck => .stuck
section
variable {X : Cx} {c : Ctx} {W : WX} {tg iter : Expr} {mi : MI} {g : MG} {b : MS} {body : List Stmt} {pos : Pos}
theorem ds_for (hp : PassesOwn (model X.prog X.w) X.A X.env X.xe) (hc : X.calm = true) (hi : DI X c W tg iter mi) {is : List Nat} (hg : DG X c tg g is) (hb : DSs X c W body b) (hs : ∀ x, foldedSetIterable iter X.env x = pure x := by intro _; rfl) : DS X c W (.For tg iter body [] pos) (sFor mi g b) := by
  obtain ⟨wi, pi_, k⟩ := hi
  refine PS_weak (ps_for hp hc pi_ hg hb hs) fun D σ H ⟨pi, rho, S, env, R, N, h⟩ => ?_
  refine k R N ?_
  unfold sFor at h
  cases em : mi env S with
  | stuck => rw [em] at h; exact h
  | exc e S1 =>
    rw [em] at h
    exact fun cls dx H1 pi1 R1 g1 q => h σ cls dx H1 pi1 R1 (N.mono g1.x) g1 q
  | ok items gd S1 =>
    rw [em] at h
    intro H1 pi1 J R1 g1 w
    have h := PostS.base g1 h
    refine ⟨fun i m σ' H' => m = items.length - i ∧ i ≤ items.length ∧ ∃ pi' S' env', Rel (gm X c) H' pi' rho S' ∧ REnv (gm X c) H' pi' rho σ' env' ∧ Go H1 pi1 rho H' pi' ∧ PostS (gm X c) W D H1 pi1 rho (forL gd g b (items.drop i) env' S'),
      ⟨_, rfl, Nat.zero_le _, pi1, S1, env, R1, N.mono g1.x, .refl, by rw [List.drop_zero]; exact h⟩, ?_⟩
    rintro i m σ' H' ⟨rfl, hi, pi', S', env', R', N', g', h'⟩
    by_cases hlt : i < items.length
    · have ed : items.drop i = items[i] :: items.drop (i + 1) := List.drop_eq_getElem_cons hlt
      have ei : items[i]? = some items[i] := List.getElem?_eq_getElem hlt
      rw [ed] at h'
      unfold forL at h'
      split at h'
      · rename_i gok
        obtain ⟨go, yld⟩ := w.go rho i H' pi' S' _ R' g'.x gok ei
        refine .inr ⟨go, fun σ3 H3 => ∃ pi3 S3 env3, Rel (gm X c) H3 pi3 rho S3 ∧ REnv (gm X c) H3 pi3 rho σ3 env3 ∧ Go H1 pi1 rho H3 pi3 ∧ PostS (gm X c) W D H1 pi1 rho (forL gd g b (items.drop (i + 1)) env3 S3), fun σ3 H3 ⟨pi3, S3, env3, a1, a2, a3, a4⟩ => ⟨_, by omega, rfl, hlt, pi3, S3, env3, a1, a2, a3, a4⟩, fun x H2 hy => ?_⟩
        obtain ⟨R2, g2, rx⟩ := yld x H2 hy
        split at h'
        · rename_i env1 eg
          refine ⟨pi', rho, S', env', _, env1, R2, N'.mono g2.x, rx, eg, fun σ2 N2 _ => ⟨pi', rho, S', env1, R2, N2, ?_⟩⟩
          have gg := g'.trans g2
          cases eb : b env1 S' with
          | nx env3 S3 => rw [eb] at h'; exact fun σ3 H3 pi3 R3 N3 g3 => ⟨pi3, S3, env3, R3, N3, gg.trans g3, h'⟩
          | ct env3 S3 => rw [eb] at h'; exact fun σ3 H3 pi3 R3 N3 g3 => ⟨pi3, S3, env3, R3, N3, gg.trans g3, h'⟩
          | bk env3 S3 => rw [eb] at h'; exact fun σ3 H3 pi3 R3 N3 g3 => h' σ3 H3 pi3 R3 N3 (gg.trans g3)
          | rt d S3 fr => rw [eb] at h'; exact PostS.base gg h'
          | exc x env3 S3 => rw [eb] at h'; exact PostS.base gg h'
          | stuck => rw [eb] at h'; exact h'
        · exact h'.elim
      · exact h'.elim
    · have ed : items.drop i = [] := List.drop_eq_nil_of_le (by omega)
      rw [ed] at h'
      unfold forL at h'
      split at h'
      · rename_i gok
        exact .inl ⟨w.stop rho i H' pi' S' R' g'.x gok (by omega), h' σ' H' pi' R' N' g'⟩
      · exact h'.elim
end
/-! ### while -/
section
variable {X : Cx} {c : Ctx} {W : WX} {t : Expr} {mt : ME} {b : MS} {body : List Stmt} {pos : Pos}
end
end DL
namespace DL
open PySem L2

/-! ### comprehensions -/
def wipeE (env : Env') : List Nat → Env'
  | [] => env
  | v :: vs => (wipeE env vs).set v .no
def oTest : Option ME → ME
  | none => fun _ S => .ok (.bl true) S false
  | some t => t
def compL (gd : Option (Nat × List D)) (g : MG) (t : Option ME) (m : ME) (env : Env') : List D → List D → Store → Res
  | [], acc, S => if gdOk gd S then .ok (.lst acc) S true else .stuck
  | x :: r, acc, S => if gdOk gd S then (match g x env S with
    | some env1 => (match oTest t env1 S with
      | .ok (.bl true) S1 _ => (match m env1 S1 with
        | .ok d S2 _ => compL gd g t m env r (acc ++ [d]) S2
        | _ => .stuck)
      | .ok (.bl false) S1 _ => compL gd g t m env r acc S1
      | _ => .stuck)
    | none => .stuck) else .stuck
def eComp (own : List Nat) (mi : MI) (g : MG) (t : Option ME) (m : ME) : ME := fun env S => match mi env S with
  | .ok items gd S1 => compL gd g t m (wipeE env own) items [] S1
  | .exc e S1 => .exc e S1
  | .stuck => .stuck
section
variable {G : Gam} {H H1 H' : Hp} {pi pi1 pi' rho rho1 : List Addr} {S S' : Store} {σ : St} {env : Env'}
theorem REnv.wipe (N : REnv G H pi rho σ env) : ∀ vs : List Nat, REnv G H pi rho (L2.wipe σ vs) (wipeE env vs)
  | [] => N
  | v :: vs => (REnv.wipe N vs).setNo v none
theorem wipe_wipe (σ : St) (vs : List Nat) : wipe (wipe σ vs) vs = wipe σ vs := by
  apply List.ext_getElem?
  intro j
  rw [wipe_get, wipe_length, wipe_get]
  by_cases hj : j ∈ vs ∧ j < σ.length
  · rw [if_pos hj, if_pos hj]
  · rw [if_neg hj, if_neg hj]
/-- a reserved thing is set free of the reserve -/
theorem Ext.unres {p : Addr} : Ext H pi (p :: rho) H pi rho := ⟨fun _ _ e => e, fun _ _ _ e => e, fun b u e n m => ⟨e, n, fun q => m (List.mem_cons_of_mem _ q)⟩, fun _ _ e => e, fun _ e => e⟩
theorem Rel.unres {p : Addr} (R : Rel G H pi (p :: rho) S) : Rel G H pi rho S := ⟨R.len, R.nd, fun a h q => R.dis a h (List.mem_cons_of_mem _ q), fun a q => R.trk a (List.mem_cons_of_mem _ q), fun n o e => by
  obtain ⟨a, ha, r⟩ := R.at_ n o e
  exact ⟨a, ha, r.mono .unres rfl⟩⟩
/-- the reserved list at p is written -/
theorem Ext.updR {p : Addr} {vs : List V} {o : HO} (hp : H p = some (.lst vs)) : Ext H pi (p :: rho) (upd H p o) pi (p :: rho) := by
  refine ⟨fun b xs q => ?_, fun b u w q => ?_, fun b u q nb nr => ⟨?_, nb, nr⟩, fun _ _ e => e, fun b q => ?_⟩
  · have : b ≠ p := fun z => by subst z; rw [hp] at q; cases q
    rw [upd_ne this]; exact q
  · have : b ≠ p := fun z => by subst z; rw [hp] at q; cases q
    rw [upd_ne this]; exact q
  · have : b ≠ p := fun z => nr (z ▸ List.mem_cons_self)
    rw [upd_ne this]; exact q
  · by_cases hb : b = p
    · subst hb; rw [upd_same]; exact fun z => by cases z
    · rw [upd_ne hb]; exact q
theorem Rel.updR {p : Addr} {vs : List V} {o : HO} (R : Rel G H pi (p :: rho) S) (hp : H p = some (.lst vs)) : Rel G (L2.upd H p o) pi (p :: rho) S :=
  ⟨R.len, R.nd, R.dis, fun b hb => (Ext.updR (pi := pi) (rho := rho) hp).dom b (R.trk b hb), fun n u e => by
    obtain ⟨a, ha, r⟩ := R.at_ n u e
    have : a ≠ p := fun z => R.dis a (List.mem_of_getElem? ha) (z ▸ List.mem_cons_self)
    exact ⟨a, ha, r.mono (Ext.updR hp) (upd_ne this)⟩⟩
end
abbrev W0 : WX := fun _ _ _ _ => False
/-- the test of a clause, if there is one -/
inductive DIf (X : Cx) (c : Ctx) : List Expr → Option ME → Prop
  | none : DIf X c [] none
  | one {e : Expr} {m : ME} (h : DT X c W0 e m) : DIf X c [e] (some m)
/-- the place of the clause's block -/
abbrev Blk (X : Cx) (scope : Scope) (s : Shared) (H : Hp) (C : Addr) (cl : List (Str × Addr)) (fp : List Addr) : Cx := X.blk s H scope (compEnvC scope cl C X.env) fp
section
variable {X : Cx} {c : Ctx} {W : WX} {elt tg iter : Expr} {ifs : List Expr} {scope : Scope} {own : List (Str × Nat)} {pos : Pos} {mi : MI} {g : MG} {t : Option ME} {m : ME} {is : List Nat}
theorem comp_ok {σ : St} {H H1 : Hp} {pi pi1 rho : List Addr} {S1 : Store} {env : Env'} {Q : VK} {items : List D} {gd : Option (Nat × List D)} {J : It} {vs : List Nat} {tt : TT} {G : Gam} {gT : TG} (N : REnv G H1 pi1 rho σ env) (R1 : Rel G H1 pi1 rho S1) (w : WalkD G H1 pi1 rho items gd J)
    (hg : ∀ v σ H Q, (∃ pi rho S env d env', Rel G H pi rho S ∧ REnv G H pi rho σ env ∧ RV G H pi rho v d ∧ g d env S = some env' ∧ ∀ σ', REnv G H pi rho σ' env' → WipeAs σ' σ is → Q σ' H) → gT v σ H Q) (his : ∀ i ∈ is, i ∈ vs)
    (ht : ∀ {σ : St} {H : Hp} {pi rho : List Addr} {S : Store} {env : Env'} {Q : Bool → Hp → Prop}, Rel G H pi rho S → REnv G H pi rho σ env → PostE G W0 σ H pi rho (fun v H' => ∃ k, v = .bl k ∧ Q k H') (oTest t env S) → tt σ H Q)
    (h : PostE G W σ H1 pi1 rho Q (compL gd g t m (wipeE env vs) items [] S1)) :
    ∀ Dd, H1 Dd = none → ∃ Wv : Nat → Nat → Hp → Prop, (∃ m, Wv 0 m (upd H1 Dd (.lst []))) ∧ ∀ i k H, Wv i k H →
      (J.stop i H ∧ Q (.ref Dd) H) ∨ (J.go i H ∧ ∃ Nx : Hp → Prop, (∀ H', Nx H' → ∃ m', m' < k ∧ Wv (i + 1) m' H') ∧ ∀ x H', J.yld i H x H' → gT x (wipe σ vs) H' fun σ2 H2 => wipe σ2 vs = wipe σ vs ∧ tt σ2 H2 fun b H3 =>
        if b = true then tD G W0 m σ2 H3 fun y H4 => ∃ acc, H4 Dd = some (.lst acc) ∧ acc.length < sizeLine ∧ Nx (upd H4 Dd (.lst (acc ++ [y]))) else Nx H3) := by
  intro Dd hD
  have hDr : Dd ∉ rho := R1.freeR hD
  have x0 : Ext H1 pi1 rho (upd H1 Dd (.lst [])) pi1 (Dd :: rho) := Ext.newR hD
  -- what holds between the turns
  refine ⟨fun i k H' => k = items.length - i ∧ i ≤ items.length ∧ ∃ pi' S' acc vs', Rel G H' pi' (Dd :: rho) S' ∧ Ext (upd H1 Dd (.lst [])) pi1 (Dd :: rho) H' pi' (Dd :: rho) ∧ (∀ a o, a ∈ rho → H1 a = some o → H' a = some o) ∧ (∀ a, a ∈ pi' → a ∉ pi1 → H1 a = none) ∧
      H' Dd = some (.lst vs') ∧ RVs G H' pi' (Dd :: rho) vs' acc ∧ acc.length ≤ i ∧ PostE G W σ H1 pi1 rho Q (compL gd g t m (wipeE env vs) (items.drop i) acc S'), ⟨_, rfl, Nat.zero_le _, pi1, S1, [], [], R1.newR hD, .refl, fun a o m e => ?_, fun a h n => (n h).elim, upd_same, .nil, Nat.zero_le _, by rw [List.drop_zero]; exact h⟩, ?_⟩
  · rw [upd_ne (ne_of_none e hD)]; exact e
  rintro i k H' ⟨rfl, hi, pi', S', acc, vs', R', x', res', new', hDl, qacc, hacc, h'⟩
  have xx := x0.trans x'
  by_cases hlt : i < items.length
  · have ed : items.drop i = items[i] :: items.drop (i + 1) := List.drop_eq_getElem_cons hlt
    have ei : items[i]? = some items[i] := List.getElem?_eq_getElem hlt
    rw [ed] at h'
    unfold compL at h'
    split at h'
    · rename_i gok
      obtain ⟨go, yld⟩ := w.go (Dd :: rho) i H' pi' S' _ R' xx gok ei
      refine .inr ⟨go, fun H3 => ∃ pi3 S3 acc3 vs3, Rel G H3 pi3 (Dd :: rho) S3 ∧ Ext (upd H1 Dd (.lst [])) pi1 (Dd :: rho) H3 pi3 (Dd :: rho) ∧ (∀ a o, a ∈ rho → H1 a = some o → H3 a = some o) ∧ (∀ a, a ∈ pi3 → a ∉ pi1 → H1 a = none) ∧
        H3 Dd = some (.lst vs3) ∧ RVs G H3 pi3 (Dd :: rho) vs3 acc3 ∧ acc3.length ≤ i + 1 ∧ PostE G W σ H1 pi1 rho Q (compL gd g t m (wipeE env vs) (items.drop (i + 1)) acc3 S3), fun H3 ⟨pi3, S3, acc3, vs3, a⟩ => ⟨_, by omega, rfl, hlt, pi3, S3, acc3, vs3, a⟩, fun x H2 hy => ?_⟩
      obtain ⟨R2, g2, rx⟩ := yld x H2 hy
      split at h'
      · rename_i env1 eg
        refine hg _ _ _ _ ⟨pi', Dd :: rho, S', _, _, env1, R2, ((N.mono (xx.trans g2.x)).wipe vs), rx, eg, fun σ2 N2 w2 => ⟨(w2 vs his).trans (wipe_wipe σ vs), ?_⟩⟩
        · refine ht R2 N2 ?_
          have stepG : ∀ {H3 pi3}, Go H2 pi' (Dd :: rho) H3 pi3 → (∀ a, a ∈ pi3 → a ∉ pi1 → H1 a = none) := fun {H3 pi3} g3 a h n => by
            by_cases m : a ∈ pi'
            · exact new' a m n
            · have z := (g2.trans g3).new' a h m
              cases e : H1 a with
              | none => rfl
              | some o => exact absurd z (xx.dom a (by rw [e]; exact fun z => by cases z))
          cases et : oTest t env1 S' with
          | exc e S3 => rw [et] at h'; exact h'.elim
          | stuck => rw [et] at h'; exact h'.elim
          | ok b S3 fr =>
            rw [et] at h'
            cases b with
            | bl b =>
              intro v H3 pi3 R3 r3 g3 _
              refine ⟨b, bl_of r3, ?_⟩
              have gg := g2.trans g3
              have hD3 : H3 Dd = some (.lst vs') := gg.res _ _ List.mem_cons_self hDl
              cases b with
              | false =>
                rw [if_neg Bool.false_ne_true]
                exact ⟨pi3, S3, acc, vs', R3, x'.trans gg.x, fun a o m e => gg.res a o (List.mem_cons_of_mem _ m) (res' a o m e), stepG g3, hD3, qacc.mono gg.x, by omega, h'⟩
              | true =>
                rw [if_pos rfl]
                refine ⟨pi3, Dd :: rho, S3, env1, R3, N2.mono g3.x, ?_⟩
                dsimp only at h'
                cases em : m env1 S3 with
                | exc e S4 => rw [em] at h'; exact h'.elim
                | stuck => rw [em] at h'; exact h'.elim
                | ok d S4 fr4 =>
                  rw [em] at h'
                  intro y H4 pi4 R4 r4 g4 _
                  have ga := gg.trans g4
                  have hD4 : H4 Dd = some (.lst vs') := ga.res _ _ List.mem_cons_self hDl
                  have q4 : RVs G H4 pi4 (Dd :: rho) (vs' ++ [y]) (acc ++ [d]) := (qacc.mono ga.x).append (.cons r4 .nil)
                  have hz : vs'.length < sizeLine := by
                    have := qacc.length
                    have := w.fit
                    omega
                  have xu : Ext H4 pi4 (Dd :: rho) (upd H4 Dd (.lst (vs' ++ [y]))) pi4 (Dd :: rho) := Ext.updR hD4
                  refine ⟨vs', hD4, hz, pi4, S4, acc ++ [d], vs' ++ [y], R4.updR hD4, (x'.trans ga.x).trans xu, fun a o m e => ?_, stepG (g3.trans g4), upd_same, q4.mono xu, by rw [List.length_append]; show acc.length + 1 ≤ i + 1; omega, h'⟩
                  have hne : a ≠ Dd := fun z => hDr (z ▸ m)
                  rw [upd_ne hne]
                  exact ga.res a o (List.mem_cons_of_mem _ m) (res' a o m e)
            | _ => exact h'.elim
      · exact h'.elim
    · exact h'.elim
  · have ed : items.drop i = [] := List.drop_eq_nil_of_le (by omega)
    rw [ed] at h'
    unfold compL at h'
    split at h'
    · rename_i gok
      refine .inl ⟨w.stop (Dd :: rho) i H' pi' S' R' xx gok (by omega), ?_⟩
      have hpi : Dd ∉ pi' := fun q => R'.dis Dd q List.mem_cons_self
      have hz : vs'.length ≤ sizeLine := by
        have := qacc.length
        have := w.fit
        omega
      have gg : Go H1 pi1 rho H' pi' := ⟨xx.trans .unres, res', new'⟩
      exact h' (.ref Dd) H' pi' R'.unres (.lst hDl hpi hDr hz (qacc.mono .unres)) gg fun _ => ⟨Dd, _, rfl, hD, hDr, rfl, ⟨vs', hDl, hz, qacc⟩, R'⟩
    · exact h'.elim
/-- what is asked of the walked thing -/
def DIw (X : Cx) (c : Ctx) (W : WX) (wi : TI) (mi : MI) : Prop := ∀ {σ : St} {H : Hp} {pi rho : List Addr} {S : Store} {env : Env'} {R : It → Hp → Prop}, Rel (gm X c) H pi rho S → REnv (gm X c) H pi rho σ env → PostI (gm X c) W σ H pi rho R (mi env S) → wi σ H R
theorem comp_lc0 {wi : TI} (k : DIw X c W wi mi)
    (hg : ∀ (s : Shared) (H : Hp) (C : Addr) (cl : List (Str × Addr)) (fp : List Addr), DG (Blk X scope s H C cl fp) c tg g is) (his : ∀ i ∈ is, i ∈ own.map (·.2))
    (ht : ∀ (s : Shared) (H : Hp) (C : Addr) (cl : List (Str × Addr)) (fp : List Addr), DIf (Blk X scope s H C cl fp) c ifs t) :
    ∃ (gT : TG) (tt : TT), (∀ (s : Shared) (H : Hp) (C : Addr) (cl : List (Str × Addr)) (fp : List Addr), PG (Blk X scope s H C cl fp) tg gT) ∧ (∀ (s : Shared) (H : Hp) (C : Addr) (cl : List (Str × Addr)) (fp : List Addr), PTs (Blk X scope s H C cl fp) ifs tt) ∧
      ∀ (σ : St) (H : Hp) (Q : VK), tD (gm X c) W (eComp (own.map (·.2)) mi g t m) σ H Q → tLc wi gT tt (tD (gm X c) W0 m) (own.map (·.2)) σ H Q := by
  have hpt : ∃ tt : TT, (∀ (s : Shared) (H : Hp) (C : Addr) (cl : List (Str × Addr)) (fp : List Addr), PTs (Blk X scope s H C cl fp) ifs tt) ∧ ∀ {σ : St} {H : Hp} {pi rho : List Addr} {S : Store} {env : Env'} {Q : Bool → Hp → Prop}, Rel (gm X c) H pi rho S → REnv (gm X c) H pi rho σ env → PostE (gm X c) W0 σ H pi rho (fun v H' => ∃ k, v = .bl k ∧ Q k H') (oTest t env S) → tt σ H Q := by
    cases t with
    | none =>
      refine ⟨tYes, fun s H C cl fp => ?_, fun R N h => ?_⟩
      · cases ht s H C cl fp with | none => exact pts_nil
      · obtain ⟨k, e, q⟩ := PostE.fin h R (.bl true)
        cases e; exact q
    | some mt =>
      refine ⟨tB (tD (gm X c) W0 mt), fun s H C cl fp => ?_, fun R N h => ⟨_, _, _, _, R, N, h⟩⟩
      cases ht s H C cl fp with | one h => exact pts_one h
  obtain ⟨tt, hpt, htt⟩ := hpt
  refine ⟨fun v σ H Q => ∃ pi rho S env d env', Rel (gm X c) H pi rho S ∧ REnv (gm X c) H pi rho σ env ∧ RV (gm X c) H pi rho v d ∧ g d env S = some env' ∧ ∀ σ', REnv (gm X c) H pi rho σ' env' → WipeAs σ' σ is → Q σ' H, tt, fun s H C cl fp => hg s H C cl fp, hpt, fun σ H Q ⟨pi, rho, S, env, R, N, h⟩ => ?_⟩
  refine k R N ?_
  unfold eComp at h
  cases em : mi env S with
  | stuck => rw [em] at h; exact h
  | exc e S1 => rw [em] at h; exact h
  | ok items gd S1 =>
    rw [em] at h
    intro H1 pi1 J R1 g1 w
    have h := PostE.base g1 h
    exact comp_ok (G := gm X c) (W := W) (H := H) (pi := pi) (N.mono g1.x) R1 w (fun v σ H Q q => q) his htt h
theorem comp_lc (hi : DI X c W tg iter mi)
    (hg : ∀ (s : Shared) (H : Hp) (C : Addr) (cl : List (Str × Addr)) (fp : List Addr), DG (Blk X scope s H C cl fp) c tg g is) (his : ∀ i ∈ is, i ∈ own.map (·.2))
    (ht : ∀ (s : Shared) (H : Hp) (C : Addr) (cl : List (Str × Addr)) (fp : List Addr), DIf (Blk X scope s H C cl fp) c ifs t) :
    ∃ (wi : TI) (gT : TG) (tt : TT), PI X tg iter wi ∧ (∀ (s : Shared) (H : Hp) (C : Addr) (cl : List (Str × Addr)) (fp : List Addr), PG (Blk X scope s H C cl fp) tg gT) ∧ (∀ (s : Shared) (H : Hp) (C : Addr) (cl : List (Str × Addr)) (fp : List Addr), PTs (Blk X scope s H C cl fp) ifs tt) ∧
      ∀ (σ : St) (H : Hp) (Q : VK), tD (gm X c) W (eComp (own.map (·.2)) mi g t m) σ H Q → tLc wi gT tt (tD (gm X c) W0 m) (own.map (·.2)) σ H Q := by
  obtain ⟨wi, pi_, k⟩ := hi
  obtain ⟨gT, tt, r⟩ := comp_lc0 (m := m) k hg his ht
  exact ⟨wi, gT, tt, pi_, r⟩
theorem de_comp (hc : X.calm = true) (hN : X.N.Nodup) (hi : DI X c W tg iter mi) (ok : BlkOk X.N X.env.scope scope own)
    (hg : ∀ (s : Shared) (H : Hp) (C : Addr) (cl : List (Str × Addr)) (fp : List Addr), DG (Blk X scope s H C cl fp) c tg g is)
    (ht : ∀ (s : Shared) (H : Hp) (C : Addr) (cl : List (Str × Addr)) (fp : List Addr), DIf (Blk X scope s H C cl fp) c ifs t)
    (he : ∀ (s : Shared) (H : Hp) (C : Addr) (cl : List (Str × Addr)) (fp : List Addr), DE (Blk X scope s H C cl fp) c W0 elt m) (his : ∀ i ∈ is, i ∈ own.map (·.2) := by decide) (hs : ∀ x, foldedSetIterable iter X.env x = pure x := by intro _; rfl) :
    DE X c W (.ListComp elt [⟨tg, iter, ifs, 0⟩] scope pos) (eComp (own.map (·.2)) mi g t m) := by
  obtain ⟨wi, gT, tt, h1, h2, h3, h4⟩ := comp_lc (m := m) hi hg his ht
  exact PE_weak (pe_lc (te := tD (gm X c) W0 m) hc hN h1 ok h2 h3 (fun s H C cl fp => he s H C cl fp) hs) h4
/-- name = [..], both on one line, the name a plain local one -/
theorem ds_setLc (i : Nat) {y : Str} {py spos : Pos} (hc : X.calm = true) (hN : X.N.Nodup) (hi : DI X c W tg iter mi) (ok : BlkOk X.N X.env.scope scope own)
    (hg : ∀ (s : Shared) (H : Hp) (C : Addr) (cl : List (Str × Addr)) (fp : List Addr), DG (Blk X scope s H C cl fp) c tg g is)
    (ht : ∀ (s : Shared) (H : Hp) (C : Addr) (cl : List (Str × Addr)) (fp : List Addr), DIf (Blk X scope s H C cl fp) c ifs t)
    (he : ∀ (s : Shared) (H : Hp) (C : Addr) (cl : List (Str × Addr)) (fp : List Addr), DE (Blk X scope s H C cl fp) c W0 elt m) (his : ∀ i ∈ is, i ∈ own.map (·.2) := by decide)
    (hy : X.N[i]? = some y := by rfl) (hyl : X.env.scope.names.lookup y = some .local := by rfl)
    (hsw : swapsWith (.ListComp elt [⟨tg, iter, ifs, 0⟩] scope pos) (some (.Name y py)) spos.line X.env = pure true := by exact sw_true rfl rfl rfl (by decide +kernel)) (hs : ∀ x, foldedSetIterable iter X.env x = pure x := by intro _; rfl) :
    DS X c W (.Assign [.Name y py] (.ListComp elt [⟨tg, iter, ifs, 0⟩] scope pos) spos) (sSet i (eComp (own.map (·.2)) mi g t m)) := by
  obtain ⟨wi, gT, tt, h1, h2, h3, h4⟩ := comp_lc (m := m) hi hg his ht
  refine PS_weak (ps_setLc (i := i) (te := tD (gm X c) W0 m) hc hN hy hyl hsw h1 ok h2 h3 (fun s H C cl fp => he s H C cl fp) hs) fun D σ H ⟨pi, rho, S, env, R, N, h⟩ => h4 σ H _ ?_
  exact tD.bindS R N h fun v H1 d pi1 S1 fr R1 r1 g1 _ h1 => h1 _ H1 pi1 R1 ((N.mono g1.x).set r1 i) g1
end
end DL
namespace DL
open PySem L2

/-! ### x op= e at a name -/
def sAug (i : Nat) (f : D → D → Store → Res) (m : ME) : MS := fun env S => match env[i]? with
  | some (.val x) => (m env S).bindS env fun y S1 _ => (f x y S1).bindS env fun z S2 _ => .nx (env.set i (.val z)) S2
  | _ => .stuck
section
variable {X : Cx} {c : Ctx} {W : WX} {e : Expr} {m : ME} {pos : Pos}
end
/-! ### an exception is raised -/
structure ExcOk (K : PySem.W.Frag) (mg : Str → Option Value) (cl : Nat → Addr) (x : Str) (cn : Nat) : Prop where
  g : mg x = some (.ref (cl cn))
  x : PySem.W.excIn K (cl cn) [.type "ValueError", .type "Exception", .type "BaseException", .type "object"] "ValueError.__new__" = true
  k : PySem.W.keepIn K (.ref (cl cn)) = true
  b : PySem.W.subIn K (.ref (cl cn)) (.type "BaseException") = some true
  t : PySem.W.typeIn K (.ref (cl cn)) = some (.type "type")
def sRaise (cn : Nat) : MS := fun env S => .exc ⟨cn, none⟩ env S
section
variable {X : Cx} {c : Ctx} {W : WX} {pos : Pos}
end
theorem takesN0 {X : Cx} : L2N.Takes X (fun _ _ _ _ => False) := fun u s' ⟨_, _, _, _, _, _, _, _, _, _, _, _, _, _, _, _, w⟩ => w.elim
/-! ### the law's end -/
/-- the law's promise -/
def spL (K : PySem.W.Frag) : Sp := fun vs H Q _ => ∃ (a : Addr) (ns : List Int), vs = [.ref a] ∧ SqL K H a (ns.map V.int) ∧ Only H ∧ ns.length ≤ 63 ∧ ∀ H', Q (.bl true) H'
end DL
namespace DL
open PySem L2
theorem hu1 {k : Nat} {A : Around} (hr : Room k A) : A.units + 1 < cLine := by have := hr.un; omega
theorem hu64 {k : Nat} {A : Around} (hr : Room k A) : A.units + 64 < cLine := by have := hr.un; omega
theorem hu65 {k : Nat} {A : Around} (hr : Room k A) : A.units + 65 < cLine := by have := hr.un; omega
/-- a text, an int of the module -/
def CS (mg : Str → Option Value) (x s : Str) : Prop := ∃ t, mg x = some (.str s t)
def CI (mg : Str → Option Value) (x : Str) (i : Int) : Prop := ∃ t, mg x = some (.int i t)
section
variable {X : Cx} {c : Ctx} {W : WX} {pos : Pos}
theorem de_cs {x s : Str} (h : CS X.mg x s) (ho : PyData.strOk s = true := by decide +kernel) (hg : Gl X x := by rfl) (hd : (x == ("__debug__" : Str)) = false := by decide) : DE X c W (.Name x pos) (eC (.str s)) := by
  obtain ⟨t, h⟩ := h
  exact de_gstr hg h ⟨t, rfl⟩ ho hd
theorem de_ci {x : Str} {i : Int} (h : CI X.mg x i) (hg : Gl X x := by rfl) (hd : (x == ("__debug__" : Str)) = false := by decide) : DE X c W (.Name x pos) (eC (.int i)) := by
  obtain ⟨t, h⟩ := h
  exact de_gint hg h ⟨t, rfl⟩ hd
end
end DL
namespace DL
open PySem L2

/-! ### displays of dicts -/
def flat2 {α : Type} : List (α × α) → List α
  | [] => []
  | (a, b) :: r => a :: b :: flat2 r
def prs {α : Type} : List α → List (α × α)
  | a :: b :: r => (a, b) :: prs r
  | _ => []
def putAll : List (D × D) → List (D × D) → List (D × D)
  | acc, [] => acc
  | acc, (k, v) :: r => putAll (dput acc k v) r
def keysAll : List (D × D) → Bool
  | [] => true
  | (k, _) :: r => (keyOf k).isSome && keysAll r
def eDct0 : ME := fun _ S => .ok (.dct []) S true
def eDctT : ME := fun _ S => .ok (.ref S.length) (S ++ [.dct true []]) false
def eDct (ps : List (ME × ME)) : ME := fun env S => (eArgs (flat2 ps) env S).bind fun ds S1 => if keysAll (prs ds) = true then .ok (.dct (putAll [] (prs ds))) S1 true else .stuck
section
variable {G : Gam} {W : WX} {H H1 H' : Hp} {pi pi1 pi' rho : List Addr} {σ σ' : St} {env env' : Env'} {S S' : Store} {Q : VK}
theorem PostA.step {m : ME} {ms : List ME} {Q : List V → Hp → Prop} (R : Rel G H pi rho S) (N : REnv G H pi rho σ env) (h : PostA G W σ H pi rho Q (eArgs (m :: ms) env S)) :
    tD G W m σ H fun v H1 => ∃ pi1 S1, Rel G H1 pi1 rho S1 ∧ REnv G H1 pi1 rho σ env ∧ PostA G W σ H1 pi1 rho (fun vs H' => Q (v :: vs) H') (eArgs ms env S1) := by
  refine ⟨pi, rho, S, env, R, N, ?_⟩
  have h' : PostA G W σ H pi rho Q ((m env S).binda fun d S1 => (eArgs ms env S1).cons d) := h
  cases e1 : m env S with
  | ok d S1 fr =>
    rw [e1] at h'
    intro v H1 pi1 R1 r g f1
    have h2 : PostA G W σ H pi rho Q ((eArgs ms env S1).cons d) := h'
    refine ⟨pi1, S1, R1, N.mono g.x, ?_⟩
    cases e2 : eArgs ms env S1 with
    | ok ds S2 =>
      rw [e2] at h2
      intro vs H2 pi2 R2 r2 g2
      exact h2 (v :: vs) H2 pi2 R2 (.cons (r.mono g2.x) r2) (g.trans g2)
    | exc x S2 =>
      rw [e2] at h2
      exact fun cls dx H2 pi2 R2 g2 q => h2 cls dx H2 pi2 R2 (g.trans g2) q
    | stuck => rw [e2] at h2; exact h2
  | exc x S1 => rw [e1] at h'; exact h'
  | stuck => rw [e1] at h'; exact h'
theorem tD.mono {m : ME} {Q' : VK} (h : tD G W m σ H Q) (k : ∀ v H1, Q v H1 → Q' v H1) : tD G W m σ H Q' := by
  obtain ⟨p0, r0, S0, env0, R0, N0, q0⟩ := h
  refine ⟨p0, r0, S0, env0, R0, N0, ?_⟩
  cases e : m env0 S0 with
  | stuck => rw [e] at q0; exact q0
  | exc x S1 => rw [e] at q0; exact q0
  | ok d S1 fr => rw [e] at q0; exact fun v H1 pi1 R1 r1 g1 f1 => k v H1 (q0 v H1 pi1 R1 r1 g1 f1)
theorem tPairs_of : ∀ (ps : List (ME × ME)) {H : Hp} {pi : List Addr} {S : Store} {Q : List (V × V) → Hp → Prop}, Rel G H pi rho S → REnv G H pi rho σ env → PostA G W σ H pi rho (fun vs H' => Q (prs vs) H') (eArgs (flat2 ps) env S) →
    tPairs (ps.map fun p => (tD G W p.1, tD G W p.2)) σ H Q
  | [], H, pi, S, Q, R, N, h => h [] H pi R .nil .refl
  | (a, b) :: r, H, pi, S, Q, R, N, h => by
    refine (PostA.step R N h).mono fun v H1 ⟨pi1, S1, R1, N1, h1⟩ => ?_
    refine (PostA.step R1 N1 h1).mono fun w H2 ⟨pi2, S2, R2, N2, h2⟩ => ?_
    exact tPairs_of r R2 N2 h2
theorem RVs.prs : ∀ {vs : List V} {ds : List D}, RVs G H pi rho vs ds → keysAll (DL.prs ds) = true → ∃ ks : List (Key × V), DL.prs vs = ks.map (fun kv => (kV kv.1, kv.2)) ∧ RKs G H pi rho ks (DL.prs ds)
  | _, _, .nil, _ => ⟨[], rfl, .nil⟩
  | _, _, .cons _ .nil, _ => ⟨[], rfl, .nil⟩
  | _, _, .cons r1 (.cons r2 q), hk => by
    have hk : ((keyOf _).isSome && keysAll _) = true := hk
    rw [Bool.and_eq_true] at hk
    obtain ⟨k, ek⟩ := Option.isSome_iff_exists.mp hk.1
    obtain ⟨ks, e, r⟩ := RVs.prs q hk.2
    refine ⟨(k, _) :: ks, ?_, .cons ek r2 r⟩
    show (_, _) :: DL.prs _ = _
    rw [e, key_rv r1 ek]; rfl
theorem RKs.putAll : ∀ {more : List (Key × V)} {mk : List (D × D)} {ks : List (Key × V)} {kvs : List (D × D)}, RKs G H pi rho more mk → RKs G H pi rho ks kvs → RKs G H pi rho (mergeK ks more) (DL.putAll kvs mk)
  | _, _, _, _, .nil, r => r
  | _ :: _, _ :: _, _, _, .cons e r0 q, r => by
    have := RKs.putAll q (RKs.put e r0 r)
    exact this
theorem prs_length {α : Type} : ∀ l : List α, (prs l).length ≤ l.length
  | [] => Nat.le_refl _
  | [_] => Nat.zero_le _
  | _ :: _ :: r => by have := prs_length r; simp [prs]; omega
theorem prs_len2 {α : Type} : ∀ l : List α, 2 * (prs l).length ≤ l.length
  | [] => Nat.le_refl _
  | [_] => Nat.zero_le _
  | _ :: _ :: r => by have := prs_len2 r; simp [prs]; omega
theorem flat2_length {α : Type} : ∀ l : List (α × α), (flat2 l).length = 2 * l.length
  | [] => rfl
  | (_, _) :: r => by have := flat2_length r; simp [flat2]; omega
theorem Ext.updK {p : Addr} {vs : List (Key × V)} {o : HO} (hp : H p = some (.dK vs)) : Ext H pi (p :: rho) (upd H p o) pi (p :: rho) := by
  refine ⟨fun b xs q => ?_, fun b u w q => ?_, fun b u q nb nr => ⟨?_, nb, nr⟩, fun _ _ e => e, fun b q => ?_⟩
  · have : b ≠ p := fun z => by subst z; rw [hp] at q; cases q
    rw [upd_ne this]; exact q
  · have : b ≠ p := fun z => by subst z; rw [hp] at q; cases q
    rw [upd_ne this]; exact q
  · have : b ≠ p := fun z => nr (z ▸ List.mem_cons_self)
    rw [upd_ne this]; exact q
  · by_cases hb : b = p
    · subst hb; rw [upd_same]; exact fun z => by cases z
    · rw [upd_ne hb]; exact q
theorem Rel.updK {p : Addr} {vs : List (Key × V)} {o : HO} (R : Rel G H pi (p :: rho) S) (hp : H p = some (.dK vs)) : Rel G (L2.upd H p o) pi (p :: rho) S :=
  ⟨R.len, R.nd, R.dis, fun b hb => (Ext.updK (pi := pi) (rho := rho) hp).dom b (R.trk b hb), fun n u e => by
    obtain ⟨a, ha, r⟩ := R.at_ n u e
    have : a ≠ p := fun z => R.dis a (List.mem_of_getElem? ha) (z ▸ List.mem_cons_self)
    exact ⟨a, ha, r.mono (Ext.updK hp) (upd_ne this)⟩⟩
/-- what is behind the making of a reserved thing, seen from ahead of it -/
theorem Go.resNew {p : Addr} {o : HO} (hp : H p = Option.none) (g : Go (upd H p o) pi (p :: rho) H' pi') (hr : p ∉ rho) : Go H pi rho H' pi' := by
  refine ⟨((Ext.newR hp).trans g.x).trans .unres, fun a u m e => g.res a u (List.mem_cons_of_mem _ m) (by rw [upd_ne (ne_of_none e hp)]; exact e), fun a h n => ?_⟩
  have := g.new' a h n
  by_cases ha : a = p
  · subst ha; exact hp
  · rw [upd_ne ha] at this; exact this
end
section
variable {X : Cx} {c : Ctx} {W : WX} {pos : Pos} {a b k v : Expr} {ma mb mk mv : ME} {ms : List (ME × ME)}
structure DP (X : Cx) (c : Ctx) (W : WX) (pos : Pos) (ks : List (Option Expr)) (vs : List Expr) (ms : List (ME × ME)) : Prop where
  run : PPs X pos ks vs (ms.map fun p => (tD (gm X c) W p.1, tD (gm X c) W p.2))
theorem dp_nil : DP X c W pos [] [] [] := ⟨pps_nil⟩
theorem dp_cons {ks : List (Option Expr)} {vs : List Expr} (hk : DE X c W k mk) (hv : DE X c W v mv) (hr : DP X c W pos ks vs ms) : DP X c W pos (some k :: ks) (v :: vs) ((mk, mv) :: ms) := ⟨pps_cons hk hv hr.run⟩
theorem de_dct {ks : List (Option Expr)} {vs : List Expr} (h : DP X c W pos ks vs ms) (hall : ks.all (·.isSome) = true) (hl : ks.length = vs.length) (h0 : ks ≠ []) (h15 : ks.length ≤ 15) (hm : ms.length ≤ 15 := by decide) : DE X c W (.Dict ks vs pos) (eDct ms) := by
  refine PE_weak (pe_disp h.run hall hl h0 h15) fun σ H Q ⟨pi, rho, S, env, R, N, h⟩ => fun p hp => ?_
  have hr := R.freeR hp
  refine tPairs_of ms (R.newR hp) (N.mono (Ext.newR hp)) ?_
  have h : PostE (gm X c) W σ H pi rho Q ((eArgs (flat2 ms) env S).bind fun ds S1 => if keysAll (prs ds) = true then .ok (.dct (putAll [] (prs ds))) S1 true else .stuck) := h
  cases e : eArgs (flat2 ms) env S with
  | stuck => rw [e] at h; exact h
  | exc x S1 =>
    rw [e] at h
    exact fun cls dx H' pi' R' g' q => h cls dx H' pi' R'.unres (g'.resNew hp hr) q.unres
  | ok ds S1 =>
    rw [e] at h
    intro vs H2 pi2 R2 r2 g2
    have h : PostE (gm X c) W σ H pi rho Q (if keysAll (prs ds) = true then .ok (.dct (putAll [] (prs ds))) S1 true else .stuck) := h
    split at h
    · rename_i hk
      obtain ⟨kvs, ekv, rk⟩ := r2.prs hk
      have hH2 : H2 p = some (.dK []) := g2.res p _ List.mem_cons_self upd_same
      have hlen : kvs.length ≤ 15 := by
        have e1 : (prs vs).length = kvs.length := by rw [ekv, List.length_map]
        have e2 := prs_len2 vs
        have e3 : vs.length = ds.length := r2.length
        have e4 := eArgs_length e
        rw [flat2_length] at e4
        omega
      have xu : Ext H2 pi2 (p :: rho) (upd H2 p (.dK (mergeK [] kvs))) pi2 (p :: rho) := Ext.updK hH2
      have ru : RKs (gm X c) (upd H2 p (.dK (mergeK [] kvs))) pi2 (p :: rho) (mergeK [] kvs) (putAll [] (prs ds)) := RKs.mono xu (RKs.putAll rk .nil)
      have hz : (mergeK [] kvs).length ≤ sizeLine := by
        have := length_mergeK kvs []
        have e0 : ([] : List (Key × V)).length = 0 := rfl
        rw [e0] at this
        rw [sizeLine_eq]; omega
      have R3 := R2.updK (o := .dK (mergeK [] kvs)) hH2
      have hpi2 : p ∉ pi2 := fun q => R2.dis p q List.mem_cons_self
      refine ⟨hH2, kvs, ekv, hlen, ?_⟩
      have g3 : Go (upd H p (.dK [])) pi (p :: rho) (upd H2 p (.dK (mergeK [] kvs))) pi2 → True := fun _ => trivial
      have gg : Go H pi rho (upd H2 p (.dK (mergeK [] kvs))) pi2 := by
        have g := g2.resNew hp hr
        refine ⟨(((Ext.newR hp).trans g2.x).trans xu).trans .unres, fun a u m e => ?_, g.new'⟩
        have : a ≠ p := fun z => hr (z ▸ m)
        rw [upd_ne this]; exact g.res a u m e
      exact h (.ref p) _ pi2 R3.unres (.dct upd_same hpi2 hr hz (ru.mono .unres)) gg fun _ => ⟨p, _, rfl, hp, hr, rfl, ⟨_, upd_same, hz, ru⟩, R3⟩
    · exact h.elim

/-! ### a, b = x, y -/
def sPar (i j : Nat) (a b : ME) : MS := fun env S => (a env S).bindS env fun x S1 _ => (b env S1).bindS env fun y S2 _ => .nx ((env.set i (.val x)).set j (.val y)) S2
/-- name += int -/
def vAddI : D → D → Store → Res
  | .int i, .int j, S => .ok (.int (i + j)) S false
  | _, _, _ => .stuck
end
end DL
namespace DL
open PySem PySem.Spec PyProof.Rows L2

/-! ### l.remove(x) -/
end DL
namespace DL
open PySem L2
/-- a def of which nothing is asked -/
theorem defOk_zero {P : Program} {w : World} {K : PySem.W.Frag} {mg : Str → Option Value} {base : Heap} {cl : Nat → Addr} {k n : Nat} {x : Str} {f : Addr} {fd : FuncData} {ps : List Str} (hm : mg x = some (.ref f)) (hk : PySem.W.keepIn K (.ref f) = true) (hb : Binds K fd ps []) :
    DefOk P w K mg base cl k x n (fun _ _ => .stuck) :=
  ⟨f, fd, ps, ⟨fun vs H Q E ⟨_, _, _, _, _, _, _, h⟩ => h.elim, fun A outer s H args us vs Q E _ _ _ _ ⟨_, _, _, _, _, _, _, h⟩ => h.elim⟩, hm, hk, hb⟩
end DL
/-! While an error is handled: walks of lists and ranges, comprehensions. -/
namespace DL
open PySem PySem.Spec PyProof.Rows L2 L2H HotX

section
variable {prog : Program} {w : World} {A : Around} {E : Value → Shared → Prop} {s : Shared}
end

/-! ### a list comprehension there -/
section
variable {X : Cx}
end
end DL
/-! Errors that are caught: the suite's words, the clause. -/
namespace DL
open PySem PySem.Spec PyProof.Rows L2 L2H HotX


/-! ### a value leans on no caught error -/
section
variable {K : PySem.W.Frag} {cl : Nat → Addr} {x1 x2 : Option (Addr × Exc)} {H : Hp} {pi rho : List Addr}
/-- a slot without its error -/
def clr : Sl → Sl
  | .exc _ => .no
  | x => x
@[simp] theorem clr_val (d : D) : clr (.val d) = .val d := rfl
@[simp] theorem clr_no : clr .no = .no := rfl
@[simp] theorem clr_exc (e : Exc) : clr (.exc e) = .no := rfl
end

/-! ### the error that is handled -/
/-- what is told of the classes of errors: ex their numbers, root the one above all -/
structure ErrTab (K : PySem.W.Frag) (cl : Nat → Addr) (root : Nat) (ex : List Nat) : Prop where
  is : ∀ n ∈ ex, ExcC K (cl n)
  sub : ∀ n ∈ ex, ∀ m ∈ ex, PySem.W.subIn K (.ref (cl n)) (.ref (cl m)) = some (n == m || m == root)
  val : ∀ n ∈ ex, PySem.W.subIn K (.ref (cl n)) (.type "ValueError") = some true
  cls : ∀ n ∈ ex, (PySem.W.clsIn K (cl n)).isSome = true ∧ PySem.W.typeIn K (.ref (cl n)) = some (.type "type")
section
variable {K : PySem.W.Frag} {cl : Nat → Addr} {root n m : Nat} {ex : List Nat}
end
def errOf (ex : List Nat) (env : Env') (i : Nat) (f : Nat → Res) : Res := match env[i]? with
  | some (.exc e) => if e.c ∈ ex then f e.c else .stuck
  | _ => .stuck
def eIsE (root : Nat) (ex : List Nat) (i m : Nat) : ME := fun env S => errOf ex env i fun n => .ok (.bl (n == m || m == root)) S false
def eIsV (ex : List Nat) (i : Nat) : ME := fun env S => errOf ex env i fun _ => .ok (.bl true) S false
def eIsT (root : Nat) (ex : List Nat) (i : Nat) (ms : List Nat) : ME := fun env S => errOf ex env i fun n => .ok (.bl (ms.any fun m => n == m || m == root)) S false
section
variable {X : Cx} {cl : Nat → Addr} {W : WX} {a : Addr} {e : Exc} {root : Nat} {ex : List Nat} {pos p : Pos} {n : Str} {q : Pos}
end
end DL
/-! Defs that are told the error that is handled; comprehensions there; the except clause. -/
namespace DL
open PySem PySem.Spec PyProof.Rows L2 L2H HotX

/-! ### such a def -/
section
variable {P : Program} {w : World} {K : PySem.W.Frag} {mg : Str → Option Value} {base : Heap} {cl : Nat → Addr}
end
def eCallE (F : Exc → Store → Res) (i : Nat) : ME := fun env S => match env[i]? with
  | some (.exc e) => F e S
  | _ => .stuck
section
variable {X : Cx} {cl : Nat → Addr} {W : WX} {a : Addr} {e : Exc} {j k : Nat} {x n : Str} {p q pos : Pos} {F : Exc → Store → Res}
end

/-! ### comprehensions while an error is handled -/
section
variable {X : Cx} {c : Ctx} {W : WX} {tg e : Expr} {m : ME}
def fValH (d : D) (S : Store) : IRes := if wkOf d = .l then fVal d S else .stuck
def iValH (m : ME) : MI := fun env S => (m env S).bindI fValH
end
section
variable {X : Cx} {c : Ctx} {W : WX} {elt tg iter : Expr} {ifs : List Expr} {scope : Scope} {own : List (Str × Nat)} {pos : Pos} {mi : MI} {g : MG} {t : Option ME} {m : ME} {is : List Nat}
end

/-! ### try: .. except C as n: .. -/
def fClr (i : Nat) : FR → FR
  | .nx env S => .nx ((env.map clr).set i .no) S
  | .bk env S => .bk ((env.map clr).set i .no) S
  | .ct env S => .ct ((env.map clr).set i .no) S
  | .rt d S fr => .rt d S fr
  | _ => .stuck
/-- except C as n; root, ex: the classes; m: C's number; i: n's slot -/
def sTryAs (root : Nat) (ex : List Nat) (m i : Nat) (a b : MS) : MS := fun env S => match a env S with
  | .exc e env1 S1 => if e.c ∈ ex ∧ e.fld = none then (if (e.c == m || m == root) = true then fClr i (b (env1.set i (.exc e)) S1) else .exc e env1 S1) else .stuck
  | r => r
section
variable {X : Cx} {cl : Nat → Addr} {W : WX} {root m : Nat} {ex : List Nat} {x n : Str} {body suite : List Stmt} {b₀ : Stmt} {np pos pos' : Pos} {ma mb : MS}
def fClr0 : FR → FR
  | .nx env S => .nx (env.map clr) S
  | .bk env S => .bk (env.map clr) S
  | .ct env S => .ct (env.map clr) S
  | .rt d S fr => .rt d S fr
  | _ => .stuck
def pickH (root c : Nat) : List (Nat × MS) → Option MS
  | [] => none
  | (m, b) :: r => if (c == m || m == root) = true then some b else pickH root c r
def sTryM (root : Nat) (ex : List Nat) (a : MS) (bs : List (Nat × MS)) : MS := fun env S => match a env S with
  | .exc e env1 S1 => if e.c ∈ ex ∧ e.fld = none then (match pickH root e.c bs with
    | some b => fClr0 (b env1 S1)
    | none => .exc e env1 S1) else .stuck
  | r => r
end
end DL
namespace DL
open PySem PySem.Spec PyProof.Rows L2 L2H
/-- the classes of errors, told at once: the first is the one above all -/
def errB (K : PySem.W.Frag) (Cs : List Addr) : Bool :=
  (Cs.all fun D => PySem.W.findIn K (.ref D) "__getattribute__" == some (some (.builtin "BaseException.__getattribute__")) && (PySem.W.findIn K (.ref D) "__getattr__" == some none && (PySem.W.subIn K (.ref D) (.type "BaseException") == some true &&
    (PySem.W.hasDictIn K D && (PySem.W.findIn K (.ref D) "__class__" == some (some (.builtin "object.__class__")) && (PySem.W.specialIn K (.builtin "object.__class__") "__get__" == some (some (.builtin "getset_descriptor.__get__")) &&
    (PySem.W.takesIn K (.builtin "object.__class__") == some true && (PySem.W.mroIn K D (.type "object") == some true && (PySem.W.subIn K (.ref D) (.type "ValueError") == some true && ((PySem.W.clsIn K D).isSome && PySem.W.typeIn K (.ref D) == some (.type "type"))))))))))) &&
  (List.range Cs.length).all fun n => (List.range Cs.length).all fun m => PySem.W.subIn K (.ref (Cs.getD n 0)) (.ref (Cs.getD m 0)) == some (n == m || m == 0)
theorem errTab_of {K : PySem.W.Frag} {Cs : List Addr} (l : Nat) (h : errB K (Cs.take l) = true) (hl : l ≤ Cs.length := by exact Nat.le_of_ble_eq_true rfl) : ErrTab K (fun n => Cs.getD n 0) 0 (List.range l) := by
  have tl : (Cs.take l).length = l := by rw [List.length_take]; omega
  unfold errB at h
  rw [Bool.and_eq_true] at h
  obtain ⟨h1, h2⟩ := h
  rw [List.all_eq_true] at h1 h2
  rw [tl] at h2
  have at_ : ∀ n, n < l → (Cs.take l).getD n 0 = Cs.getD n 0 := fun n hn => by
    rw [List.getD_eq_getElem?_getD, List.getD_eq_getElem?_getD, List.getElem?_take_of_lt hn]
  have one : ∀ n, n ∈ List.range l → Cs.getD n 0 ∈ Cs.take l := fun n hn => by
    have hn := List.mem_range.mp hn
    rw [← at_ n hn, List.getD_eq_getElem?_getD, List.getElem?_eq_getElem (by omega)]
    exact List.getElem_mem _
  have all : ∀ n, n ∈ List.range l → _ := fun n hn => h1 _ (one n hn)
  simp only [Bool.and_eq_true, beq_iff_eq] at all
  refine ⟨fun n hn => ?_, fun n hn m hm => ?_, fun n hn => ?_, fun n hn => ?_⟩
  · obtain ⟨a1, a2, a3, a4, a5, a6, a7, a8, _⟩ := all n hn
    exact ⟨a1, a2, a3, a4, a5, a6, a7, a8⟩
  · have := h2 n hn
    rw [List.all_eq_true] at this
    have := this m hm
    rw [beq_iff_eq, at_ n (List.mem_range.mp hn), at_ m (List.mem_range.mp hm)] at this
    exact this
  · exact (all n hn).2.2.2.2.2.2.2.2.1
  · exact ⟨(all n hn).2.2.2.2.2.2.2.2.2.1, (all n hn).2.2.2.2.2.2.2.2.2.2⟩

/-! ### a text times an int -/
def vMulS : D → D → Store → Res
  | .str x, .int k, S => if 0 < x.length ∧ 1 ≤ k ∧ k ≤ 1000 ∧ x.length ≤ 1000 then .ok (.str (Txt.mul x k)) S false else .stuck
  | x, y, S => vMul x y S
def rMulS : R2 := fun x y H Q => ∃ (z : Str) (k : Int), x = .str z ∧ y = .int k ∧ MulOk z k ∧ Q (.str (Txt.mul z k)) H
theorem op_mulS {X : Cx} : OpR X (binaryOp .Mult) rMulS := by
  intro pins s σ H x y v u Q I rx ry h
  obtain ⟨z, k, rfl, rfl, hz, q⟩ := h
  obtain ⟨t, rfl⟩ := rx
  obtain ⟨t', rfl⟩ := ry
  exact SB.mul hz fun t2 k2 => ⟨.str (Txt.mul z k), H, I.tok _, ⟨_, rfl⟩, q⟩
theorem foldl_cps (c : Array Nat) : ∀ (n : Nat) (a : Array Nat), ((List.replicate n c).foldl (· ++ ·) a).toList = a.toList ++ (List.replicate n c.toList).flatten
  | 0, a => by simp
  | n + 1, a => by
    rw [List.replicate_succ, List.foldl_cons, foldl_cps c n, List.replicate_succ, List.flatten_cons, Array.toList_append, List.append_assoc]
theorem mul_tl {x : Str} {k : Int} (h : 1 ≤ k) (hx : 0 < x.length) : (Txt.mul x k).cps.toList = (List.replicate k.toNat x.cps.toList).flatten := by
  unfold Txt.mul
  rw [if_neg (by omega)]
  by_cases h1 : k = 1
  · subst h1
    rw [if_pos (by simp)]; simp
  · rw [if_neg (by simp; omega)]
    show ((List.replicate k.toNat x.cps).foldl (· ++ ·) #[]).toList = _
    rw [foldl_cps]; rfl
theorem vMulS_ok {G : Gam} : OpS G (fun x y H Q => rMulS x y H Q ∨ (rI CMul (fun i j => .int (i * j)) x y H Q ∨ rRep x y H Q)) vMulS := by
  intro W σ H pi rho S x y dx dy Q R rx ry h
  unfold vMulS at h
  split at h
  · rename_i z k
    split at h
    · rename_i hc
      obtain ⟨h0, h1, h2, h3⟩ := hc
      cases rx with | str ho =>
      cases ry
      refine .inl ⟨_, _, rfl, rfl, ⟨?_, fun _ _ => ?_, fun _ _ => ?_⟩, h.fin R (.str (strOk_of fun c hc => ?_))⟩
      · simp; omega
      · have e : ((2 : Int) ^ 63 - 1) / k ≥ 1000 := (Int.le_ediv_iff_mul_le (by omega)).mpr (by omega)
        omega
      · unfold Builtin.Str.tooLong
        have : z.length * k.toNat ≤ 1000 * 1000 := Nat.mul_le_mul h3 (by omega)
        simp [sizeLine_eq]; omega
      · rw [mul_tl h1 h0] at hc
        obtain ⟨l, hl, hc⟩ := List.mem_flatten.mp hc
        rw [List.eq_of_mem_replicate hl] at hc
        exact strOk_mem ho c hc
    · exact h.elim
  · exact .inr (vMul_ok W σ H pi rho _ x y _ _ Q R rx ry h)
end DL
/-! A dict is in no list of texts. -/
namespace DL
open PySem PySem.Spec PyProof.Rows L2 L2H PySem.SeqAt
section
variable {l : Addr} {es : Array DictEntry} {ep : Nat} {dd : Option Addr} {sl : Array (Option Value)} {b : Str} {u : Tok}
theorem dict_declines_str : Meets (Builtin.«dict.__eq__» ⟨[.ref l, .str b u], []⟩) (fun _ R s => s.heap.get? l = some { cls := .type "dict", dict := dd, data := .dict es ep, slots := sl } ∧ R (.ok (.ret .notImplemented)) s) :=
  .of_wp fun prog w A R s h => by obtain ⟨hp, g, d, tk, os⟩ := s; obtain ⟨hl, h⟩ := h; have f1 := F.sub_str_dict; wp_walk using wpAny_loadPart' hl; exact ⟨_, rfl, h⟩
theorem str_declines_dict : Meets (Builtin.«str.__eq__» ⟨[.str b u, .ref l], []⟩) (fun _ R s => s.heap.get? l = some { cls := .type "dict", dict := dd, data := .dict es ep, slots := sl } ∧ R (.ok (.ret .notImplemented)) s) :=
  .of_wp fun prog w A R s h => by obtain ⟨hp, g, d, tk, os⟩ := s; obtain ⟨hl, h⟩ := h; wp_walk using wpAny_loadPart' hl, wpAny_load hl; exact ⟨_, rfl, h⟩
theorem str_no_dict {A : Around} {s : Shared} (hl : s.heap.get? l = some { cls := .type "dict", dict := dd, data := .dict es ep, slots := sl }) (hu : A.units < cLine) : EqAt A s (.str b u) (.ref l) false := fun prog w E Q h => by
  unfold eqBool
  refine wpAny_holding (wpAny_ite_split (fun hab => absurd (eq_of_beq hab) nofun) fun _ => ?_)
  refine wpAny_bind (rc_eq_decline_or (k := false) (typeIs_str s b u) ⟨_, hl, rfl⟩ (by decide) F.sub_dict_str F.slot_str_eq F.slot_dict_eq_refl ?_ ?_ (fun _ hq => wpAny_of_eq (rfl : isSame (.str b u) (.ref l) = pure false) hq) (.inr hu) (wpAny_truthy_bool h))
  · exact fun _ hq => call_meets F.slot_str_eq (typeIs_str s b u) F.entry_str_eq (F.args_str_eq_2 _ _) str_declines_dict ⟨hl, hq⟩
  · exact fun _ hq => call_meets F.slot_dict_eq_refl ⟨_, hl, rfl⟩ F.entry_dict_eq (F.args_dict_eq_2 _ _) dict_declines_str ⟨hl, hq⟩
end
def rInDS (K : PySem.W.Frag) (neg : Bool) : R2 := fun x y H Q => ∃ (a b : Addr) (ks : List (Key × V)) (vs : List V), x = .ref a ∧ H a = some (.dK ks) ∧ y = .ref b ∧ SqL K H b vs ∧ (∀ v ∈ vs, ∃ s, v = .str s) ∧ Q (.bl neg) H
section
variable {X : Cx}
theorem inDS_core {pins : List (Addr × Obj)} {σ : L2.St} {H : Hp} {s : Shared} (hu : X.A.units + 65 < cLine) (I : L2.Inv X pins σ H s) {a b : Addr} {ks : List (Key × V)} {vs : List V} (ha : H a = some (.dK ks)) (hb : SqL X.K H b vs) (hs : ∀ v ∈ vs, ∃ s, v = .str s) :
    ∃ items, s.heap.IsList b items ∧ ∀ y, y ∈ items → EqAt X.A.in1 s y (.ref a) false := by
  obtain ⟨its, rv, p, hz⟩ := I.list hb
  refine ⟨_, p.isList, fun y hy => ?_⟩
  obtain ⟨_, _, ws, _, o, es, ep, h1, h2, h3, _⟩ := (show ObjOk X.prog X.w H s.heap a (.dK ks) from I.hok a _ ha)
  obtain ⟨oc, od, dt, sl⟩ := o
  obtain ⟨i1, i2, i3⟩ := h2
  simp only at h3 i1
  subst h3 i1
  obtain ⟨j, hj⟩ := List.getElem?_of_mem (show y ∈ its by simpa using hy)
  have hl := rv.length
  have hj' : j < vs.length := by rw [hl]; exact (List.getElem?_eq_some_iff.mp hj).1
  obtain ⟨u, hu2, ru⟩ := rv.get (List.getElem?_eq_getElem hj')
  rw [hj] at hu2
  cases hu2
  obtain ⟨z, ez⟩ := hs _ (List.getElem_mem hj')
  rw [ez] at ru
  obtain ⟨t, rfl⟩ := ru
  exact str_no_dict h1 (by show X.A.units + 1 < cLine; omega)
theorem op_inDS (hu : X.A.units + 65 < cLine) : OpR X (compareOp .In) (rInDS X.K false) := by
  intro pins s σ H x y v u Q I rx ry ⟨a, b, ks, vs, ex, ha, ey, hb, hs, q⟩
  subst ex ey
  cases rx; cases ry
  obtain ⟨items, hl, he⟩ := inDS_core hu I ha hb hs
  exact in_listAt (fun _ => false) hl he ⟨.bl false, H, I, by simp [L2.RelV], q⟩
theorem op_notInDS (hu : X.A.units + 65 < cLine) : OpR X (compareOp .NotIn) (rInDS X.K true) := by
  intro pins s σ H x y v u Q I rx ry ⟨a, b, ks, vs, ex, ha, ey, hb, hs, q⟩
  subst ex ey
  cases rx; cases ry
  obtain ⟨items, hl, he⟩ := inDS_core hu I ha hb hs
  exact notIn_listAt (fun _ => false) hl he ⟨.bl true, H, I, by simp [L2.RelV], q⟩
end
def isS : D → Bool
  | .str _ => true
  | _ => false
def vInX (neg : Bool) (x y : D) (S : Store) : Res := match x with
  | .dct kvs => (match lstOf S y with
    | some ys => if ys.all isS = true then inRes neg false S else .stuck
    | none => .stuck)
  | x => vIn neg x y S
theorem vInX_ok {G : Gam} {neg : Bool} : OpS G (fun x y H Q => rInDS G.K neg x y H Q ∨ rInU G.K neg x y H Q) (vInX neg) := by
  intro W σ H pi rho S x y dx dy Q R rx ry h
  unfold vInX at h
  split at h
  · split at h
    · rename_i e
      split at h
      · rename_i hs
        obtain ⟨b, vs, rfl, h1, z, q⟩ := lstOf_ok R ry e
        cases rx with | dct hd _ _ _ _ =>
        refine .inl ⟨_, b, _, vs, rfl, hd, rfl, .inl (.inl h1), fun v hv => ?_, ?_⟩
        · obtain ⟨i, hi⟩ := List.getElem?_of_mem hv
          obtain ⟨d, hd, r⟩ := q.get' hi
          have := (List.all_eq_true.mp hs) d (List.mem_of_getElem? hd)
          cases d with
          | str w => cases r; exact ⟨_, rfl⟩
          | _ => cases this
        · have := PostE.fin h R (.bl _)
          cases neg <;> exact this
      · exact h.elim
    · exact h.elim
  · exact .inr (vIn_ok W σ H pi rho S x y _ dy Q R rx ry h)
end DL
/-! Sets of texts that are sorted or counted at once; sorted lists of data. -/
namespace DL
open PySem PySem.Spec PyProof.Rows L2

section
variable {P : Program} {w : World} {h h' : Heap} {a : Addr} {ks : List Str}
end
section
variable {P : Program} {w : World} {A : Around} {E : Value → Shared → Prop} {s : Shared} {a : Addr} {ks : List Str}
/-! ### set(xs) of a list of texts -/
end
end DL
namespace DL
open PySem PySem.Spec PyProof.Rows L2
open PySem.W (dataLe AllAlike Sortable alike EachIs sorted_data list_sort_data sort_maps dataLe_str)

/-! ### sorted(xs) of a list of data -/
section
variable {X : Cx}
end
section
variable {G : Gam} {H : Hp} {pi rho : List Addr}
end
/-! ### len(set(xs)), sorted(set(xs)) of a list of texts -/
def strLe (a b : Str) : Bool := decide (a.cps.toList ≤ b.cps.toList)
section
variable {X : Cx}
end
section
variable {G : Gam} {H : Hp} {pi rho : List Addr} {S : Store} {x : V} {dx : D} {ks : List Str}
end
section
variable {X : Cx} {c : Ctx} {W : WX} {a : Expr} {ma : ME} {p p2 q pos : Pos}
end
end DL
namespace DL
open PySem PySem.Spec PyProof.Rows L2

/-! ### slices of lists with a step -/
def pickL {α : Type} (xs : List α) (lo hi st : Option Int) : List α := (sliceRange (sliceBounds lo hi st xs.length).1 (sliceBounds lo hi st xs.length).2.1 (sliceBounds lo hi st xs.length).2.2).filterMap (xs[·]?)
section
variable {X : Cx} {e : Expr} {te : TE} {lo hi st : Option Expr} {tl th tk : TO} {pos p2 : Pos}
end
def vSlice3 (x : D) (lo hi st : Option Int) (S : Store) : Res := if st = some 0 then .stuck else match seqL S x with
  | some xs => .ok (.lst (pickL xs lo hi st)) S true
  | none => .stuck
where
  seqL (S : Store) : D → Option (List D)
  | .scr ns => some (ns.map .int)
  | x => lstOf S x
def eSlice3 (a : ME) (lo hi st : Option ME) : ME := fun env S => (a env S).bind fun x S1 _ => ePart lo env S1 fun l S2 => ePart hi env S2 fun u S3 => ePart st env S3 fun k S4 => vSlice3 x l u k S4
section
variable {X : Cx} {c : Ctx} {W : WX} {a : Expr} {ma : ME} {pos p2 : Pos} {lo hi st : Option Expr} {ml mh mk : Option ME}
end
theorem pick_rev {α : Type} (xs : List α) : pickL xs none none (some (-1)) = xs.reverse := by
  unfold pickL
  rw [PySem.W.krv_bounds]
  show ((sliceRange ((xs.length : Int) - 1) (-1) (-1)).filterMap (xs[·]?)) = _
  rw [PySem.W.krv_sliceRange, PySem.W.krv_range, List.filterMap_reverse]
  have := PySem.W.krv_all xs.toArray
  simp only [List.size_toArray, List.getElem?_toArray] at this
  rw [this]
end DL
namespace DL
open PySem PySem.Spec PyProof.Rows L2

/-! ### list(range(n)), min(i, j), max(i, j), tuple(xs) -/
def vLstRng (x : D) (S : Store) : Res := match x with
  | .int n => if -(2 ^ 61) ≤ n ∧ n ≤ 16777216 then .ok (.lst (rngL 0 n.toNat)) S true else .stuck
  | _ => .stuck
section
variable {X : Cx} {c : Ctx} {W : WX} {a : Expr} {ma : ME} {p p2 q pos : Pos}
end
def vMin2 : MF
  | [.int i, .int j], S => .ok (.int (if j < i then j else i)) S false
  | _, _ => .stuck
def vMax2 : MF
  | [.int i, .int j], S => .ok (.int (if j > i then j else i)) S false
  | _, _ => .stuck
def vTuple : MF
  | [x], S => match x with
    | .tup xs => .ok (.tup xs) S false
    | x => match lstOf S x with
      | some xs => .ok (.tup xs) S false
      | none => .stuck
  | _, _ => .stuck
theorem vTuple_ok {G : Gam} : CallS G (fun xs H Q => ∃ p ys, xs = [.ref p] ∧ ((SqL G.K H p ys ∧ ∀ l, H l = none → Q (.ref l) (upd H l (.tup ys))) ∨ (SqT G.K H p ys ∧ Q (.ref p) H))) vTuple := by
  intro W σ H pi rho S xs ds Q R rx h
  unfold vTuple at h
  split at h
  · obtain ⟨x, rfl, r⟩ := rx.one
    split at h
    · cases r with | tup h1 z q =>
      exact ⟨_, _, rfl, .inr ⟨SqT.of h1, h.fin R (.tup h1 z q)⟩⟩
    · split at h
      · rename_i xs e
        obtain ⟨a, vs, rfl, h1, z, q⟩ := lstOf_ok R r e
        exact ⟨a, vs, rfl, .inl ⟨.inl (.inl h1), fun p hp => eC_tup h R q z hp rfl⟩⟩
      · exact h.elim
  · exact h.elim
end DL
namespace DL
open PySem PySem.Spec PyProof.Rows L2
/-! ### tuples of whole numbers, compared -/
def intsOfD : List D → Option (List Int)
  | [] => some []
  | .int i :: r => (intsOfD r).map (i :: ·)
  | _ :: _ => none
def vLtX (x y : D) (S : Store) : Res := match x, y with
  | .tup xs, .tup ys => match intsOfD xs, intsOfD ys with
    | some ns, some ms => .ok (.bl (HT.lexLt ns ms)) S false
    | _, _ => .stuck
  | x, y => vLt x y S
end DL
namespace DL
open PySem PySem.Spec PyProof.Rows L2
open PySem.W (minD AlikeAll alike min_list_data)
/-! ### min(xs) of a list of tuples of whole numbers -/
end DL
namespace DL
open PySem PySem.Spec PyProof.Rows L2
/-! ### == of lists of unlike lengths, whatever is in them -/
end DL
/-! Plain steps: what the readings answer. -/
namespace DL
open PySem L2
abbrev KE := Exc → Store → Prop
abbrev KV' := D → Store → Bool → Prop
abbrev KS := Env' → Store → Prop
abbrev KX := Exc → Env' → Store → Prop
abbrev NoE : KE := fun _ _ => False
/-- a mark that keeps simp out of what is asked behind -/
structure Tg {α : Type} (a : α) : Type where
/-- the answer is a value, of which P, or an error, of which E -/
def Ok (E : KE) (r : Res) (P : KV') (_ : Tg (E, P) := ⟨⟩) : Prop := match r with
  | .ok d S fr => P d S fr
  | .exc e S => E e S
  | _ => False
/-- a body's end -/
structure KB where
  nx : KS
  bk : KS
  ct : KS
  rt : KV'
  ex : KX
def OkS (K : KB) (r : FR) (_ : Tg K := ⟨⟩) : Prop := match r with
  | .nx e S => K.nx e S
  | .bk e S => K.bk e S
  | .ct e S => K.ct e S
  | .rt d S fr => K.rt d S fr
  | .exc x e S => K.ex x e S
  | .stuck => False
def OkA (E : KE) (r : ARes) (P : List D → Store → Prop) (_ : Tg (E, P) := ⟨⟩) : Prop := match r with
  | .ok ds S => P ds S
  | .exc e S => E e S
  | .stuck => False
section
variable {E : KE} {P P' : KV'} {K : KB} {env : Env'} {S : Store} {Q : List D → Store → Prop}
@[simp] theorem ok_ok {d : D} {fr : Bool} : Ok E (.ok d S fr) P ↔ P d S fr := Iff.rfl
@[simp] theorem ok_exc {e : Exc} : Ok E (.exc e S) P ↔ E e S := Iff.rfl
@[simp] theorem ok_stuck : Ok E .stuck P ↔ False := Iff.rfl
@[simp] theorem ok_ite {c : Prop} [Decidable c] {r : Res} : Ok E (if c then r else .stuck) P ↔ c ∧ Ok E r P := by
  by_cases h : c <;> simp [h]
@[simp] theorem ok_bind {r : Res} {f : D → Store → Bool → Res} : Ok E (r.bind f) P ↔ Ok E r fun d S fr => Ok E (f d S fr) P := by cases r <;> exact Iff.rfl
@[simp] theorem oka_ok {d : List D} : OkA E (.ok d S) Q ↔ Q d S := Iff.rfl
@[simp] theorem oka_bind {r : ARes} {f : List D → Store → Res} : Ok E (r.bind f) P ↔ OkA E r fun d S => Ok E (f d S) P := by cases r <;> exact Iff.rfl
@[simp] theorem oka_nil : OkA E (eArgs [] env S) Q ↔ Q [] S := Iff.rfl
@[simp] theorem oka_cons {m : ME} {ms : List ME} : OkA E (eArgs (m :: ms) env S) Q ↔ Ok E (m env S) fun d S _ => OkA E (eArgs ms env S) fun ds S => Q (d :: ds) S := by
  have : eArgs (m :: ms) env S = (m env S).binda fun d S1 => (eArgs ms env S1).cons d := rfl
  rw [this]
  cases m env S with
  | ok d S1 fr =>
    show OkA E ((eArgs ms env S1).cons d) Q ↔ OkA E (eArgs ms env S1) _
    cases eArgs ms env S1 <;> exact Iff.rfl
  | _ => exact Iff.rfl
theorem Ok.mono {E' : KE} {r : Res} (h : Ok E r P) (k : ∀ d S fr, P d S fr → P' d S fr) (x : ∀ e S, E e S → E' e S) : Ok E' r P' := by
  cases r with
  | ok d S fr => exact k _ _ _ h
  | exc e S => exact x _ _ h
  | _ => exact h
theorem ok_cg {r : Res} (h : ∀ d S fr, P d S fr ↔ P' d S fr) : Ok E r P ↔ Ok E r P' := by
  cases r with
  | ok d S fr => exact h _ _ _
  | _ => exact Iff.rfl
theorem oka_cg {Q' : List D → Store → Prop} {r : ARes} (h : ∀ d S, Q d S ↔ Q' d S) : OkA E r Q ↔ OkA E r Q' := by
  cases r with
  | ok d S => exact h _ _
  | _ => exact Iff.rfl
/-- a call that refuses nothing -/
theorem Ok.call {r : Res} (h : Ok NoE r P) (k : ∀ d S fr, P d S fr → P' d S fr) : Ok E r P' := h.mono k fun _ _ => False.elim
theorem OkS.mono {K' : KB} {r : FR} (h : OkS K r) (n : ∀ e S, K.nx e S → K'.nx e S) (b : ∀ e S, K.bk e S → K'.bk e S) (c : ∀ e S, K.ct e S → K'.ct e S) (k : ∀ d S fr, K.rt d S fr → K'.rt d S fr) (x : ∀ y e S, K.ex y e S → K'.ex y e S) : OkS K' r := by
  cases r with
  | nx e S => exact n _ _ h
  | bk e S => exact b _ _ h
  | ct e S => exact c _ _ h
  | rt d S fr => exact k _ _ _ h
  | exc y e S => exact x _ _ _ h
  | stuck => exact h
/-! ### expressions -/
@[simp] theorem ok_var {i : Nat} : Ok E (eVar i env S) P ↔ ∃ d, env[i]? = some (.val d) ∧ P d S false := by
  unfold eVar
  split
  · rename_i d e
    simp [e]
  · rename_i h
    simp only [ok_stuck, false_iff, not_exists, not_and]
    exact fun d e => (h d e).elim
@[simp] theorem ok_c {d : D} : Ok E (eC d env S) P ↔ P d S false := Iff.rfl
@[simp] theorem ok_ebin {f : D → D → Store → Res} {a b : ME} : Ok E (eBin f a b env S) P ↔ Ok E (a env S) fun x S1 _ => Ok E (b env S1) fun y S2 _ => Ok E (f x y S2) P := by
  unfold eBin; rw [ok_bind]; exact ok_cg fun _ _ _ => ok_bind
@[simp] theorem ok_eun {f : D → Store → Res} {a : ME} : Ok E (eUn f a env S) P ↔ Ok E (a env S) fun x S1 _ => Ok E (f x S1) P := by
  unfold eUn; simp only [ok_bind]
@[simp] theorem ok_onB {b : Bool} {t u : Res} : Ok E (onB (.bl b) t u) P ↔ if b = true then Ok E t P else Ok E u P := by cases b <;> simp
@[simp] theorem ok_and {a b : ME} : Ok E (eAnd a b env S) P ↔ Ok E (a env S) fun x S1 _ => Ok E (onB x (b env S1) (.ok (.bl false) S1 false)) P := by
  unfold eAnd; simp only [ok_bind]
@[simp] theorem ok_or {a b : ME} : Ok E (eOr a b env S) P ↔ Ok E (a env S) fun x S1 _ => Ok E (onB x (.ok (.bl true) S1 false) (b env S1)) P := by
  unfold eOr; simp only [ok_bind]
@[simp] theorem ok_not {a : ME} : Ok E (eNot a env S) P ↔ Ok E (a env S) fun x S1 _ => Ok E (onB x (.ok (.bl false) S1 false) (.ok (.bl true) S1 false)) P := by
  unfold eNot; simp only [ok_bind]
@[simp] theorem ok_ifE {t a b : ME} : Ok E (eIfE t a b env S) P ↔ Ok E (t env S) fun x S1 _ => Ok E (onB x (a env S1) (b env S1)) P := by
  unfold eIfE; simp only [ok_bind]
@[simp] theorem ok_chain {f g : D → D → Store → Res} {a b c : ME} : Ok E (eChain f g a b c env S) P ↔
    Ok E (a env S) fun x S1 _ => Ok E (b env S1) fun y S2 _ => Ok E (f x y S2) fun z S3 _ => Ok E (onB z ((c env S3).bind fun w S4 _ => g y w S4) (.ok (.bl false) S3 false)) P := by
  unfold eChain; rw [ok_bind]; exact ok_cg fun _ _ _ => ok_bind.trans (ok_cg fun _ _ _ => ok_bind)
@[simp] theorem ok_tup {ms : List ME} : Ok E (eTup ms env S) P ↔ OkA E (eArgs ms env S) fun ds S1 => P (.tup ds) S1 false := by unfold eTup; rw [oka_bind]; exact Iff.rfl
@[simp] theorem ok_lst {ms : List ME} : Ok E (eLst ms env S) P ↔ OkA E (eArgs ms env S) fun ds S1 => P (.lst ds) S1 true := by unfold eLst; rw [oka_bind]; exact Iff.rfl
@[simp] theorem ok_callF {F : MF} {ms : List ME} : Ok E (eCallF F ms env S) P ↔ OkA E (eArgs ms env S) fun ds S1 => Ok E (F ds S1) P := by unfold eCallF; simp only [oka_bind]
@[simp] theorem ok_dct0 : Ok E (eDct0 env S) P ↔ P (.dct []) S true := Iff.rfl
@[simp] theorem ok_dctT : Ok E (eDctT env S) P ↔ P (.ref S.length) (S ++ [.dct true []]) false := Iff.rfl
@[simp] theorem ok_dct {ps : List (ME × ME)} : Ok E (eDct ps env S) P ↔ OkA E (eArgs (flat2 ps) env S) fun ds S1 => keysAll (prs ds) = true ∧ P (.dct (putAll [] (prs ds))) S1 true := by unfold eDct; rw [oka_bind]; exact oka_cg fun _ _ => ok_ite
@[simp] theorem ok_thaw {a : ME} : Ok E (eThaw a env S) P ↔ Ok E (a env S) fun d S1 fr => Ok E (thawR d S1 fr) P := by unfold eThaw; simp only [ok_bind]
@[simp] theorem ok_bm {ok : D → Store → Bool} {F : D → List D → Store → Res} {a : ME} {ms : List ME} : Ok E (eBM ok F a ms env S) P ↔ Ok E (a env S) fun x S1 _ => ok x S1 = true ∧ OkA E (eArgs ms env S1) fun ds S2 => Ok E (F x ds S2) P := by
  unfold eBM; rw [ok_bind]; exact ok_cg fun _ _ _ => ok_ite.trans (and_congr_right fun _ => oka_bind)
@[simp] theorem ok_slice {a : ME} {lo hi : Option ME} : Ok E (eSlice a lo hi env S) P ↔ Ok E (a env S) fun x S1 _ => Ok E (ePart lo env S1 fun l S2 => ePart hi env S2 fun u S3 => vSlice x l u S3) P := by
  unfold eSlice; simp only [ok_bind]
@[simp] theorem ok_part0 {f : Option Int → Store → Res} : Ok E (ePart none env S f) P ↔ Ok E (f none S) P := Iff.rfl
@[simp] theorem ok_part1 {m : ME} {f : Option Int → Store → Res} : Ok E (ePart (some m) env S f) P ↔ Ok E (m env S) fun x S1 _ => ∃ i, x = .int i ∧ Ok E (f (some i) S1) P := by
  unfold ePart; simp only [ok_bind]
  cases m env S with
  | ok d S1 fr =>
    simp only [ok_ok]
    cases d <;> simp
  | _ => exact Iff.rfl
/-! ### statements -/
@[simp] theorem oks_nx {e : Env'} : OkS K (.nx e S) ↔ K.nx e S := Iff.rfl
@[simp] theorem oks_rt {d : D} {fr : Bool} : OkS K (.rt d S fr) ↔ K.rt d S fr := Iff.rfl
@[simp] theorem oks_bk {e : Env'} : OkS K (.bk e S) ↔ K.bk e S := Iff.rfl
@[simp] theorem oks_ct {e : Env'} : OkS K (.ct e S) ↔ K.ct e S := Iff.rfl
@[simp] theorem oks_exc {e : Env'} {x : Exc} : OkS K (.exc x e S) ↔ K.ex x e S := Iff.rfl
@[simp] theorem oks_stuck : OkS K .stuck ↔ False := Iff.rfl
@[simp] theorem oks_bind {r : Res} {f : D → Store → Bool → FR} : OkS K (r.bindS env f) ↔ Ok (fun x S => K.ex x env S) r fun d S fr => OkS K (f d S fr) := by cases r <;> exact Iff.rfl
@[simp] theorem oks_seq {a b : MS} : OkS K (sSeq a b env S) ↔ OkS { K with nx := fun e S => OkS K (b e S) } (a env S) := by
  unfold sSeq
  cases a env S <;> exact Iff.rfl
@[simp] theorem oks_pass : OkS K (sPass env S) ↔ K.nx env S := Iff.rfl
@[simp] theorem oks_brk : OkS K (sBrk env S) ↔ K.bk env S := Iff.rfl
@[simp] theorem oks_cnt : OkS K (sCt env S) ↔ K.ct env S := Iff.rfl
@[simp] theorem oks_expr {m : ME} : OkS K (sExpr m env S) ↔ Ok (fun x S => K.ex x env S) (m env S) fun _ S _ => K.nx env S := by
  unfold sExpr; rw [oks_bind]; exact Iff.rfl
@[simp] theorem oks_set {i : Nat} {m : ME} : OkS K (sSet i m env S) ↔ Ok (fun x S => K.ex x env S) (m env S) fun d S _ => K.nx (env.set i (.val d)) S := by
  unfold sSet; rw [oks_bind]; exact Iff.rfl
@[simp] theorem oks_ret {m : ME} : OkS K (sRet m env S) ↔ Ok (fun x S => K.ex x env S) (m env S) K.rt := by
  unfold sRet; rw [oks_bind]; exact Iff.rfl
@[simp] theorem oks_retN : OkS K (sRetN env S) ↔ K.rt .non S false := Iff.rfl
@[simp] theorem oks_onS {b : Bool} {t u : FR} : OkS K (onS (.bl b) t u) ↔ if b = true then OkS K t else OkS K u := by cases b <;> exact Iff.rfl
@[simp] theorem oks_if {c : ME} {a b : MS} : OkS K (sIf c a b env S) ↔ Ok (fun x S => K.ex x env S) (c env S) fun x S1 _ => OkS K (onS x (a env S1) (b env S1)) := by
  unfold sIf; rw [oks_bind]
@[simp] theorem oks_aug {i : Nat} {f : D → D → Store → Res} {m : ME} : OkS K (sAug i f m env S) ↔ ∃ x, env[i]? = some (.val x) ∧ Ok (fun x S => K.ex x env S) (m env S) fun y S1 _ => Ok (fun x S => K.ex x env S) (f x y S1) fun z S2 _ => K.nx (env.set i (.val z)) S2 := by
  unfold sAug
  split
  · rename_i d e
    rw [oks_bind]
    constructor
    · exact fun h => ⟨d, e, (ok_cg fun _ _ _ => oks_bind).mp h⟩
    · rintro ⟨x, ex, h⟩
      rw [e] at ex; cases ex
      exact (ok_cg fun _ _ _ => oks_bind).mpr h
  · rename_i h
    simp only [oks_stuck, false_iff, not_exists, not_and]
    exact fun d e => (h d e).elim
@[simp] theorem oks_par {i j : Nat} {a b : ME} : OkS K (sPar i j a b env S) ↔ Ok (fun x S => K.ex x env S) (a env S) fun x S1 _ => Ok (fun x S => K.ex x env S) (b env S1) fun y S2 _ => K.nx ((env.set i (.val x)).set j (.val y)) S2 := by
  unfold sPar; rw [oks_bind]; exact ok_cg fun _ _ _ => oks_bind
@[simp] theorem oks_item {o i m : ME} : OkS K (sItem o i m env S) ↔ Ok (fun x S => K.ex x env S) (m env S) fun d S1 _ => Ok (fun x S => K.ex x env S) (o env S1) fun x S2 _ => Ok (fun x S => K.ex x env S) (i env S2) fun y S3 _ => ∃ S4, vSetItem x y d S3 = some S4 ∧ K.nx env S4 := by
  unfold sItem; rw [oks_bind]
  refine ok_cg fun d S1 _ => oks_bind.trans (ok_cg fun x S2 _ => oks_bind.trans (ok_cg fun y S3 _ => ?_))
  cases vSetItem x y d S3 <;> simp
/-- a def -/
def kDef (S : Store) (E : KE) (P : KV') : KB := ⟨fun _ S' => Ok E (finR false S .non S' false) P, fun _ _ => False, fun _ _ => False, fun d S' fr => Ok E (finR false S d S' fr) P, fun x _ S' => E x (trunc S S')⟩
theorem ok_def {nl : Nat} {body : MS} {ds : List D} : Ok E (dDef nl body ds S) P ↔ OkS (kDef S E P) (body (ds.map .val ++ List.replicate nl .no) S) := by
  unfold dDef
  cases body (ds.map .val ++ List.replicate nl .no) S <;> exact Iff.rfl
@[simp] theorem finR_same {b : Bool} {d : D} {S' : Store} {fr : Bool} (h : S'.length = S.length) : finR b S d S' fr = .ok d S' fr := by
  unfold finR; rw [if_pos h]
/-! ### loops -/
theorem oks_for {gd : Option (Nat × List D)} {g : MG} {b : MS} (I : List D → Env' → Store → Prop) {items : List D} (h0 : I items env S)
    (hs : ∀ x r env S, I (x :: r) env S → gdOk gd S ∧ ∃ env1, g x env S = some env1 ∧ OkS { K with nx := I r, ct := I r, bk := K.nx } (b env1 S)) (hd : ∀ env S, I [] env S → gdOk gd S ∧ K.nx env S) : OkS K (forL gd g b items env S) := by
  induction items generalizing env S with
  | nil => unfold forL; obtain ⟨h1, h2⟩ := hd _ _ h0; rw [if_pos h1]; exact h2
  | cons x r ih =>
    unfold forL
    obtain ⟨h1, env1, e, h2⟩ := hs _ _ _ _ h0
    rw [if_pos h1, e]
    show OkS K (match b env1 S with
      | .nx env' S' => forL gd g b r env' S'
      | .ct env' S' => forL gd g b r env' S'
      | .bk env' S' => .nx env' S'
      | r => r)
    cases eb : b env1 S with
    | nx e S' => rw [eb] at h2; exact ih h2
    | ct e S' => rw [eb] at h2; exact ih h2
    | _ => rw [eb] at h2; exact h2
theorem ok_compL {gd : Option (Nat × List D)} {g : MG} {t : Option ME} {m : ME} (I : List D → List D → Store → Prop) {items acc : List D} (h0 : I items acc S)
    (hs : ∀ x r acc S, I (x :: r) acc S → gdOk gd S ∧ ∃ env1, g x env S = some env1 ∧ Ok NoE (oTest t env1 S) fun k S1 _ => ∃ kb, k = .bl kb ∧ if kb = true then Ok NoE (m env1 S1) fun d S2 _ => I r (acc ++ [d]) S2 else I r acc S1) (hd : ∀ acc S, I [] acc S → gdOk gd S ∧ P (.lst acc) S true) :
    Ok E (compL gd g t m env items acc S) P := by
  induction items generalizing acc S with
  | nil => unfold compL; obtain ⟨h1, h2⟩ := hd _ _ h0; rw [if_pos h1]; exact h2
  | cons x r ih =>
    unfold compL
    obtain ⟨h1, env1, e, h2⟩ := hs _ _ _ _ h0
    rw [if_pos h1, e]
    show Ok E (match oTest t env1 S with
      | .ok (.bl true) S1 _ => (match m env1 S1 with
        | .ok d S2 _ => compL gd g t m env r (acc ++ [d]) S2
        | _ => .stuck)
      | .ok (.bl false) S1 _ => compL gd g t m env r acc S1
      | _ => .stuck) P
    cases et : oTest t env1 S with
    | ok k S1 fr =>
      rw [et] at h2
      obtain ⟨kb, rfl, h3⟩ := h2
      cases kb with
      | true =>
        rw [if_pos rfl] at h3
        show Ok E (match m env1 S1 with
        | .ok d S2 _ => compL gd g t m env r (acc ++ [d]) S2
        | _ => .stuck) P
        cases em : m env1 S1 with
        | ok d S2 fr => rw [em] at h3; exact ih h3
        | exc x S2 => rw [em] at h3; exact h3.elim
        | stuck => rw [em] at h3; exact h3.elim
      | false => rw [if_neg Bool.false_ne_true] at h3; exact ih h3
    | exc x S2 => rw [et] at h2; exact h2.elim
    | stuck => rw [et] at h2; exact h2.elim
def OkI (E : KE) (r : IRes) (Q : List D → Option (Nat × List D) → Store → Prop) (_ : Tg (E, Q) := ⟨⟩) : Prop := match r with
  | .ok xs g S => Q xs g S
  | .exc e S => E e S
  | .stuck => False
@[simp] theorem oki_ok {Q : List D → Option (Nat × List D) → Store → Prop} {xs : List D} {g : Option (Nat × List D)} : OkI E (.ok xs g S) Q ↔ Q xs g S := Iff.rfl
@[simp] theorem oki_stuck {Q : List D → Option (Nat × List D) → Store → Prop} : OkI E .stuck Q ↔ False := Iff.rfl
@[simp] theorem oki_ite {Q : List D → Option (Nat × List D) → Store → Prop} {c : Prop} [Decidable c] {r : IRes} : OkI E (if c then r else .stuck) Q ↔ c ∧ OkI E r Q := by
  by_cases h : c <;> simp [h]
@[simp] theorem oks_sfor {mi : MI} {g : MG} {b : MS} : OkS K (sFor mi g b env S) ↔ OkI (fun x S => K.ex x env S) (mi env S) fun xs gd S1 => OkS K (forL gd g b xs env S1) := by
  unfold sFor; cases mi env S <;> exact Iff.rfl
@[simp] theorem ok_comp {own : List Nat} {mi : MI} {g : MG} {t : Option ME} {m : ME} : Ok E (eComp own mi g t m env S) P ↔ OkI E (mi env S) fun xs gd S1 => Ok E (compL gd g t m (wipeE env own) xs [] S1) P := by
  unfold eComp; cases mi env S <;> exact Iff.rfl
@[simp] theorem oki_val {Q : List D → Option (Nat × List D) → Store → Prop} {m : ME} : OkI E (iVal m env S) Q ↔ Ok E (m env S) fun d S1 _ => ∃ xs g, itemsOf S1 d = some (xs, g) ∧ Q xs g S1 := by
  unfold iVal
  cases m env S with
  | ok d S1 fr =>
    show OkI E (fVal d S1) Q ↔ _
    unfold fVal
    simp only [ok_ok]
    cases e : itemsOf S1 d with
    | none => simp
    | some p =>
      obtain ⟨a, b⟩ := p
      constructor
      · exact fun h => ⟨a, b, rfl, h⟩
      · rintro ⟨x, y, h1, h2⟩; cases h1; exact h2
  | _ => exact Iff.rfl
@[simp] theorem oki_arg {Q : List D → Option (Nat × List D) → Store → Prop} {f : List D → Store → IRes} {ms : List ME} : OkI E (iArg f ms env S) Q ↔ OkA E (eArgs ms env S) fun ds S1 => OkI E (f ds S1) Q := by
  unfold iArg; cases eArgs ms env S <;> exact Iff.rfl
@[simp] theorem rng1 {j : Int} : fRng1 [.int j] S = if -(2 ^ 62) ≤ j ∧ j ≤ 16777216 then .ok (rngL 0 j.toNat) none S else .stuck := rfl
@[simp] theorem rng2 {i j : Int} : fRng2 [.int i, .int j] S = if -(2 ^ 62) ≤ i ∧ i < 2 ^ 62 ∧ -(2 ^ 62) ≤ j ∧ j < 2 ^ 62 ∧ j - i ≤ 16777216 then .ok (rngL i (j - i).toNat) none S else .stuck := rfl
@[simp] theorem gdOk_none : gdOk none S ↔ True := Iff.rfl
@[simp] theorem oTest_none : oTest none = fun _ S => .ok (.bl true) S false := rfl
@[simp] theorem oTest_some {t : ME} : oTest (some t) = t := rfl
@[simp] theorem gN_eq {i : Nat} {d : D} : gN i d env S = some (env.set i (.val d)) := rfl
/-! ### operations -/
@[simp] theorem vAdd_int {i j : Int} : vAdd (.int i) (.int j) S = .ok (.int (i + j)) S false := rfl
@[simp] theorem vAddI_int {i j : Int} : vAddI (.int i) (.int j) S = .ok (.int (i + j)) S false := rfl
@[simp] theorem vAdd_str {x y : Str} : vAdd (.str x) (.str y) S = if x.length + y.length ≤ 16777216 then .ok (.str (x ++ y)) S false else .stuck := rfl
@[simp] theorem vSub_int {i j : Int} : vSub (.int i) (.int j) S = .ok (.int (i - j)) S false := rfl
@[simp] theorem vMul_int {i j : Int} : vMul (.int i) (.int j) S = if (-(2 ^ 64) < i ∧ i < 2 ^ 64) ∨ (-(2 ^ 64) < j ∧ j < 2 ^ 64) then .ok (.int (i * j)) S false else .stuck := rfl
@[simp] theorem vFdiv_int {i j : Int} : vFdiv (.int i) (.int j) S = if 0 < j ∧ j < 1000000000000000000000000000000 then .ok (.int (i / j)) S false else .stuck := rfl
@[simp] theorem vMod_int {i j : Int} : vMod (.int i) (.int j) S = if 0 < j then .ok (.int (i % j)) S false else .stuck := rfl
@[simp] theorem vPow_int {i j : Int} : vPow (.int i) (.int j) S = if 0 ≤ j ∧ j ≤ 1000 ∧ i.natAbs < 2 ^ 64 then .ok (.int (i ^ j.toNat)) S false else .stuck := rfl
@[simp] theorem vNeg_int {i : Int} : vNeg (.int i) S = .ok (.int (-i)) S false := rfl
theorem lstOf_ref {n : Nat} {xs : List D} (h : S[n]? = some (.lst xs)) : lstOf S (.ref n) = some xs := by
  show (match S[n]? with
    | some (.lst ds) => some ds
    | _ => none) = _
  rw [h]
theorem dctOf_ref {n : Nat} {xs : List D} (h : S[n]? = some (.lst xs)) : dctOf S (.ref n) = none := by
  show (match S[n]? with
    | some (.dct tk kvs) => some (tk, kvs)
    | _ => none) = _
  rw [h]
theorem vIdx_ref {n : Nat} {xs : List D} {i : Int} {d : D} (h : S[n]? = some (.lst xs)) (e : atI xs i = some d) : vIdx (.ref n) (.int i) S = .ok d S false := by
  unfold vIdx
  have h2 : seqOf S (.ref n) = some xs := lstOf_ref h
  simp only [dctOf_ref h, h2, e]
theorem vSetItem_ref {n : Nat} {xs : List D} {i : Int} {j : Nat} {d : D} (h : S[n]? = some (.lst xs)) (e : ixN xs.length i = some j) : vSetItem (.ref n) (.int i) d S = some (S.set n (.lst (xs.set j d))) := by
  unfold vSetItem
  simp only [h, e]
end
end DL
/-! Plain steps: texts, sources, walks of lists. -/
namespace DL
open PySem L2
section
variable {E : KE} {P P' : KV'} {K : KB} {env : Env'} {S : Store}
/-! ### texts -/
theorem append_tl (x y : Str) : (x ++ y).cps.toList = x.cps.toList ++ y.cps.toList := TL.tl_append x y
theorem str_len (x : Str) : x.length = x.cps.toList.length := TL.len_tl x
@[simp] theorem str_len_append (x y : Str) : (x ++ y).length = x.length + y.length := by rw [str_len, str_len, str_len, append_tl, List.length_append]
theorem cutS_mem {x : Str} {lo hi : Option Int} {c : Nat} (h : c ∈ (cutS x lo hi).cps.toList) : c ∈ x.cps.toList := by
  unfold cutS at h
  exact List.mem_of_mem_drop (List.mem_of_mem_take (by simpa using h))
theorem cutS_len (x : Str) (lo hi : Option Int) : (cutS x lo hi).length ≤ x.length := by
  rw [str_len, str_len]
  unfold cutS
  simp only [List.length_take, List.length_drop]
  omega
theorem joinL_nil : ∀ ps : List (List Nat), TL.joinL [] ps = ps.flatten
  | [] => rfl
  | [p] => by simp [TL.joinL]
  | p :: q :: r => by
    show p ++ ([] ++ TL.joinL [] (q :: r)) = _
    rw [joinL_nil (q :: r)]; simp
theorem join0_tl (ys : List Str) : (Txt.join "" ys).cps.toList = (ys.map fun y => y.cps.toList).flatten := by
  rw [TL.join_eq]
  have := TL.tl_join "" ys
  have e : TL.tl (Str.ofString "") = [] := by decide +kernel
  rw [e, joinL_nil] at this
  exact this
/-! ### operations on texts -/
@[simp] theorem vUpper_s {a : Str} : vUpper (.str a) [] S = if a.length ≤ 5592405 ∧ PyData.strOk (Txt.upper a) = true then .ok (.str (Txt.upper a)) S false else .stuck := rfl
@[simp] theorem vSlice_s {z : Str} {lo hi : Option Int} : vSlice (.str z) lo hi S = if z.length ≤ 16777216 then .ok (.str (cutS z lo hi)) S false else .stuck := rfl
@[simp] theorem vLen_s {z : Str} : vLen [.str z] S = if z.length ≤ 16777216 then .ok (.int z.length) S false else .stuck := rfl
@[simp] theorem isStrD_s {z : Str} : isStrD (.str z) S = true := rfl
theorem vIdx_s {z : Str} {i : Int} (h0 : 0 ≤ i) (h1 : i < z.length) (h2 : z.length ≤ 16777216) : ∃ c, z.cps.toList[i.toNat]? = some c ∧ vIdx (.str z) (.int i) S = .ok (.str ⟨#[c]⟩) S false := by
  rw [str_len] at h1
  have hi : i.toNat < z.cps.toList.length := by omega
  refine ⟨z.cps.toList[i.toNat], List.getElem?_eq_getElem hi, ?_⟩
  have e : atI z.cps.toList i = some z.cps.toList[i.toNat] := by
    unfold atI ixN
    rw [if_pos h0, if_pos (by simpa using h1)]
    exact List.getElem?_eq_getElem hi
  show (match atI z.cps.toList i with
      | some c => if z.length ≤ 16777216 then Res.ok (.str ⟨#[c]⟩) S false else .stuck
      | none => .stuck) = _
  rw [e]
  exact if_pos h2
/-! ### compare -/
@[simp] theorem vIs_n {x : D} : vIs x .non S = .ok (.bl (decide (x = .non))) S false := by cases x <;> rfl
@[simp] theorem vIs_b {a b : Bool} : vIs (.bl a) (.bl b) S = .ok (.bl (decide (a = b))) S false := rfl
@[simp] theorem vIsNot_n {x : D} : vIsNot x .non S = .ok (.bl (!decide (x = .non))) S false := by cases x <;> rfl
@[simp] theorem vIsNot_b {a b : Bool} : vIsNot (.bl a) (.bl b) S = .ok (.bl (!decide (a = b))) S false := rfl
@[simp] theorem vLe_i {i j : Int} : vLe (.int i) (.int j) S = .ok (.bl (decide (i ≤ j))) S false := rfl
@[simp] theorem vGe_i {i j : Int} : vGe (.int i) (.int j) S = .ok (.bl (decide (j ≤ i))) S false := rfl
@[simp] theorem vGt_i {i j : Int} : vGt (.int i) (.int j) S = .ok (.bl (decide (j < i))) S false := rfl
@[simp] theorem vLt_i {i j : Int} : vLt (.int i) (.int j) S = .ok (.bl (decide (i < j))) S false := rfl
@[simp] theorem vEq_i {i j : Int} : vEq (.int i) (.int j) S = .ok (.bl (decide (i = j))) S false := by
  show Res.ok (.bl (PyData.eqv (.int i) (.int j))) S false = _
  congr 2
@[simp] theorem vNe_i {i j : Int} : vNe (.int i) (.int j) S = .ok (.bl (!decide (i = j))) S false := by
  show Res.ok (.bl (!PyData.eqv (.int i) (.int j))) S false = _
  congr 2
@[simp] theorem vEq_b {i j : Bool} : vEq (.bl i) (.bl j) S = .ok (.bl (decide (i = j))) S false := by
  show Res.ok (.bl (PyData.eqv (.bool i) (.bool j))) S false = _
  cases i <;> cases j <;> rfl
@[simp] theorem vNe_b {i j : Bool} : vNe (.bl i) (.bl j) S = .ok (.bl (!decide (i = j))) S false := by
  show Res.ok (.bl (!PyData.eqv (.bool i) (.bool j))) S false = _
  cases i <;> cases j <;> rfl
/-! ### kinds -/
@[simp] theorem vIsi_non {c : Tag} : vIsi c .non S = .ok (.bl (isTag .non c)) S false := rfl
@[simp] theorem vIsi_bl {c : Tag} {b : Bool} : vIsi c (.bl b) S = .ok (.bl (isTag .bl c)) S false := rfl
@[simp] theorem vIsi_int {c : Tag} {b : Int} : vIsi c (.int b) S = .ok (.bl (isTag .int c)) S false := rfl
@[simp] theorem vIsi_str {c : Tag} {b : Str} : vIsi c (.str b) S = .ok (.bl (isTag .str c)) S false := rfl
@[simp] theorem vIsi_tup {c : Tag} {b : List D} : vIsi c (.tup b) S = .ok (.bl (isTag .tup c)) S false := rfl
@[simp] theorem vIsi_lst {c : Tag} {b : List D} : vIsi c (.lst b) S = .ok (.bl (isTag .lst c)) S false := rfl
@[simp] theorem vIsi_dct {c : Tag} {b : List (D × D)} : vIsi c (.dct b) S = .ok (.bl (isTag .dct c)) S false := rfl
@[simp] theorem isTag_eq {a b : Tag} : isTag a b = (decide (a = b) || (decide (a = .bl) && decide (b = .int))) := by cases a <;> cases b <;> rfl
@[simp] theorem ok_cte {c : Prop} [Decidable c] {r r' : Res} : Ok E (if c then r else r') P ↔ if c then Ok E r P else Ok E r' P := by
  by_cases h : c <;> simp [h]
/-! ### walks -/
/-- each item's reading leaves the store as it is -/
theorem ok_compMap {gd : Option (Nat × List D)} {g : MG} {m : ME} (f : D → D) {items acc : List D} (h0 : gdOk gd S) (hs : ∀ x ∈ items, ∃ env1, g x env S = some env1 ∧ Ok NoE (m env1 S) fun d S' _ => d = f x ∧ S' = S) (hd : P (.lst (acc ++ items.map f)) S true) :
    Ok E (compL gd g none m env items acc S) P := by
  refine ok_compL (fun r acc' S' => S' = S ∧ (∀ x ∈ r, x ∈ items) ∧ acc' ++ r.map f = acc ++ items.map f) ⟨rfl, fun _ h => h, rfl⟩ ?_ ?_
  · rintro x r acc' S' ⟨rfl, hm, e⟩
    obtain ⟨env1, eg, h⟩ := hs x (hm x List.mem_cons_self)
    refine ⟨h0, env1, eg, true, rfl, ?_⟩
    rw [if_pos rfl]
    refine h.mono (fun d S' fr q => ?_) fun _ _ q => q
    obtain ⟨rfl, rfl⟩ := q
    exact ⟨rfl, fun y hy => hm y (List.mem_cons_of_mem _ hy), by rw [← e]; simp⟩
  · rintro acc' S' ⟨rfl, _, e⟩
    refine ⟨h0, ?_⟩
    rw [List.map_nil, List.append_nil] at e
    rw [e]; exact hd
@[simp] theorem blsOf_map {α : Type} {f : α → Bool} (l : List α) : blsOf (l.map fun x => D.bl (f x)) = some (l.map f) := by
  induction l with
  | nil => rfl
  | cons x r ih =>
    show (blsOf (r.map fun x => D.bl (f x))).map (f x :: ·) = _
    rw [ih]; rfl
@[simp] theorem strsOf_map {α : Type} {f : α → Str} (l : List α) : strsOf (l.map fun x => D.str (f x)) = some (l.map f) := by
  induction l with
  | nil => rfl
  | cons x r ih =>
    show (strsOf (r.map fun x => D.str (f x))).map (f x :: ·) = _
    rw [ih]; rfl
theorem vAll_map {α : Type} {f : α → Bool} (l : List α) : vAll [.lst (l.map fun x => D.bl (f x))] S = .ok (.bl (l.all f)) S false := by
  unfold vAll
  have e : lstOf S (.lst (l.map fun x => D.bl (f x))) = some (l.map fun x => D.bl (f x)) := rfl
  simp only [e, blsOf_map, List.all_map]
  rfl
end
end DL
namespace DL
open PySem L2
theorem ok_eq {r : Res} {x : D} {S : Store} {f : Bool} (h : Ok NoE r fun d S' fr => d = x ∧ S' = S ∧ fr = f) : r = .ok x S f := by
  cases r with
  | ok d S' fr => obtain ⟨rfl, rfl, rfl⟩ := h; rfl
  | exc e S => exact h.elim
  | stuck => exact h.elim
theorem finR_flat {b : Bool} {S S' : Store} {d : D} {fr : Bool} (h : ∀ n, d ≠ .ref n) : ∃ S'' f, finR b S d S' fr = .ok d S'' f := by
  have e : frzD b S.length S' d = (d, false) := by
    cases d with
    | ref n => exact (h n rfl).elim
    | _ => rfl
  unfold finR
  rw [e]
  split
  · exact ⟨_, _, rfl⟩
  · split
    · exact ⟨_, _, rfl⟩
    · exact ⟨_, _, rfl⟩
/-- a law's end: the answer alone counts -/
theorem ok_fin {E : KE} {b : Bool} {S S' : Store} {d : D} {fr : Bool} {q : D → Prop} (h : ∀ n, d ≠ .ref n) (hq : q d) : Ok E (finR b S d S' fr) fun d _ _ => q d := by
  obtain ⟨S'', f, e⟩ := finR_flat (b := b) (S := S) (S' := S') (fr := fr) h
  rw [e]; exact hq
theorem law_of {r : Res} (h : Ok NoE r fun d _ _ => d = .bl true) : ∃ S fr, r = .ok (.bl true) S fr := by
  cases r with
  | ok d S fr => rw [show d = .bl true from h]; exact ⟨_, _, rfl⟩
  | exc x S => exact h.elim
  | stuck => exact h.elim
end DL
/-! Plain steps: instances, text literals. -/
namespace DL
open PySem L2
theorem ofString_inj {a b : String} : Str.ofString a = Str.ofString b ↔ a = b := by
  constructor
  · intro h
    rw [Str.ofString_eq_toList, Str.ofString_eq_toList] at h
    have h2 : a.toList.map Char.toNat = b.toList.map Char.toNat := by
      have := congrArg (fun s => s.cps.toList) h
      simpa using this
    have inj : ∀ x y : Char, x.toNat = y.toNat → x = y := fun x y e => Char.ext (UInt32.toNat_inj.mp e)
    have h3 : a.toList = b.toList := by
      have : ∀ (l m : List Char), l.map Char.toNat = m.map Char.toNat → l = m := by
        intro l
        induction l with
        | nil => intro m e; cases m with
          | nil => rfl
          | cons y m => cases e
        | cons x l ih => intro m e; cases m with
          | nil => cases e
          | cons y m =>
            simp only [List.map_cons, List.cons.injEq] at e
            rw [inj x y e.1, ih m e.2]
      exact this _ _ h2
    exact String.toList_inj.mp h3
  · intro h; rw [h]
@[simp] theorem lit_eq {a b : String} : (Str.ofString a = Str.ofString b) = (a = b) := propext ofString_inj
@[simp] theorem lit_beq {a b : String} : (Str.ofString a == Str.ofString b) = decide (a = b) := by
  by_cases h : a = b
  · subst h; simp
  · have : ¬ Str.ofString a = Str.ofString b := fun e => h (ofString_inj.mp e)
    simp [h, this]
section
variable {E : KE} {P P' : KV'} {K : KB} {env : Env'} {S : Store}
@[simp] theorem ok_fld {cn : Nat} {f : Str} {a : ME} : Ok E (eFld cn f a env S) P ↔ Ok E (a env S) fun x S1 _ => Ok E (vFld cn f x S1) P := ok_eun
/-- the instance itself has nothing of that name -/
def noAttr (fs : List (Str × D)) (m : Str) : Prop := (fs.lookup m).isNone = true
@[simp] theorem ok_meth {cn : Nat} {m : Str} {F : MF} {o : ME} {ms : List ME} : Ok E (eMeth cn m F o ms env S) P ↔ Ok E (o env S) fun x S1 _ => ∃ fs, insOf S1 cn x = some fs ∧ noAttr fs m ∧ OkA E (eArgs ms env S1) fun ds S2 => Ok E (F (x :: ds) S2) P := by
  unfold eMeth
  rw [ok_bind]
  refine ok_cg fun x S1 _ => ?_
  cases e : insOf S1 cn x with
  | none => simp
  | some fs =>
    constructor
    · intro h
      have h := ok_ite.mp h
      exact ⟨fs, rfl, h.1, oka_bind.mp h.2⟩
    · rintro ⟨fs', e', h1, h2⟩
      cases e'
      exact ok_ite.mpr ⟨h1, oka_bind.mpr h2⟩
@[simp] theorem ok_new {cn : Nat} {F : MF} {ms : List ME} : Ok E (eNew cn F ms env S) P ↔ OkA E (eArgs ms env S) fun ds S1 => Ok (fun e S2 => E e (trunc S1 S2)) (F (.ref S1.length :: ds) (S1 ++ [.ins cn []])) fun d S2 _ => d = .non ∧ P (.ref S1.length) S2 false := by
  unfold eNew
  rw [oka_bind]
  refine oka_cg fun ds S1 => ?_
  cases F (.ref S1.length :: ds) (S1 ++ [.ins cn []]) with
  | ok d S2 fr => cases d <;> simp
  | exc e S2 => exact Iff.rfl
  | stuck => exact Iff.rfl
@[simp] theorem oks_fldM {cn : Nat} {f : Str} {o m : ME} : OkS K (sFldM cn f o m env S) ↔ Ok (fun x S => K.ex x env S) (m env S) fun d S1 _ => Ok (fun x S => K.ex x env S) (o env S1) fun x S2 _ => ∃ n fs, x = .ref n ∧ S2[n]? = some (.ins cn fs) ∧ fs.length < 1000 ∧ K.nx env (S2.set n (.ins cn (putD f d fs))) := by
  unfold sFldM
  rw [oks_bind]
  refine ok_cg fun d S1 _ => oks_bind.trans (ok_cg fun x S2 _ => ?_)
  cases x with
  | ref n =>
    cases e : S2[n]? with
    | none => simp [e]
    | some o =>
      cases o with
      | fz kvs => simp [e]
      | ins k fs =>
        by_cases h : k = cn ∧ fs.length < 1000
        · simp only [e]
          rw [if_pos h]
          obtain ⟨rfl, h2⟩ := h
          constructor
          · exact fun q => ⟨n, fs, rfl, e, h2, q⟩
          · rintro ⟨n', fs', en, ef, _, q⟩
            cases en
            rw [e] at ef
            cases ef
            exact q
        · simp only [e]
          rw [if_neg h]
          constructor
          · exact fun q => q.elim
          · rintro ⟨n', fs', en, ef, h2, q⟩
            cases en
            rw [e] at ef
            cases ef
            exact h ⟨rfl, h2⟩
      | lst xs => simp [e]
      | dct tk kvs => simp [e]
  | _ => simp
@[simp] theorem oks_asg {g : MG} {m : ME} : OkS K (sAsg g m env S) ↔ Ok (fun x S => K.ex x env S) (m env S) fun d S1 _ => ∃ env1, g d env S1 = some env1 ∧ K.nx env1 S1 := by
  unfold sAsg
  rw [oks_bind]
  refine ok_cg fun d S1 _ => ?_
  cases g d env S1 <;> simp
@[simp] theorem oks_raise {cn : Nat} : OkS K (sRaise cn env S) ↔ K.ex ⟨cn, none⟩ env S := Iff.rfl
@[simp] theorem vInt_b {b : Bool} : vInt [.bl b] S = .ok (.int (if b then 1 else 0)) S false := rfl
@[simp] theorem vInt_i {i : Int} : vInt [.int i] S = .ok (.int i) S false := rfl
theorem insOf_ref {n cn : Nat} {fs : List (Str × D)} (h : S[n]? = some (.ins cn fs)) : insOf S cn (.ref n) = some fs := by
  show (match S[n]? with
    | some (.ins c fs) => if c = cn then some fs else none
    | _ => none) = _
  rw [h]
  simp
/-! ### equality of texts and pairs -/
theorem eqv_str (a b : Str) : PyData.eqv (.str a) (.str b) = decide (a = b) := by
  by_cases h : a = b
  · subst h; simp [PyData.eqv]
  · simp [PyData.eqv, h]
@[simp] theorem vEq_s {a b : Str} : vEq (.str a) (.str b) S = .ok (.bl (decide (a = b))) S false := by
  show Res.ok (.bl (PyData.eqv (.str a) (.str b))) S false = _
  rw [eqv_str]
@[simp] theorem vNe_s {a b : Str} : vNe (.str a) (.str b) S = .ok (.bl (!decide (a = b))) S false := by
  show Res.ok (.bl (!PyData.eqv (.str a) (.str b))) S false = _
  rw [eqv_str]
@[simp] theorem vEq_ns {b : Str} : vEq .non (.str b) S = .ok (.bl false) S false := rfl
@[simp] theorem vNe_ns {b : Str} : vNe .non (.str b) S = .ok (.bl true) S false := rfl
@[simp] theorem vEq_sn {b : Str} : vEq (.str b) .non S = .ok (.bl false) S false := rfl
@[simp] theorem vNe_sn {b : Str} : vNe (.str b) .non S = .ok (.bl true) S false := rfl
/-- values that are told by plain things -/
structure Tells {α : Type} [BEq α] [LawfulBEq α] (f : α → D) (g : α → PyData) : Prop where
  snap : ∀ (k : Nat) (S : Store) (a : α), snap (k + 3) S (f a) = some (g a)
  eqv : ∀ a b : α, PyData.eqv (g a) (g b) = (a == b)
theorem tells_str : Tells D.str PyData.str := ⟨fun _ _ _ => rfl, fun a b => by rw [eqv_str]; by_cases h : a = b <;> simp [h]⟩
section
variable {α : Type} [BEq α] [LawfulBEq α] {f : α → D} {g : α → PyData} {n : Nat}
theorem Tells.all (T : Tells f g) (k : Nat) (S : Store) : ∀ l : List α, allSome ((l.map f).map (DL.snap (k + 3) S)) = some (l.map g)
  | [] => rfl
  | a :: r => by
    rw [List.map_cons, List.map_cons, T.snap]
    show (allSome ((r.map f).map (DL.snap (k + 3) S))).map (g a :: ·) = _
    rw [T.all k S r]; rfl
theorem vEq_ref0 (T : Tells f g) {l : List α} (h : S[n]? = some (.lst (l.map f))) : vEq (.ref n) (.lst []) S = .ok (.bl l.isEmpty) S false := by
  have e1 : DL.snap 60 S (.ref n) = some (.list (l.map g)) := by
    show (match S[n]? with
      | some (.lst xs) => (allSome (xs.map (DL.snap 59 S))).map PyData.list
      | _ => none) = _
    rw [h]
    show (allSome ((l.map f).map (DL.snap 59 S))).map PyData.list = _
    rw [T.all 56 S l]; rfl
  have e2 : DL.snap 60 S (.lst []) = some (.list []) := rfl
  unfold vEq
  simp only [e1, e2]
  cases l with
  | nil => simp [PyData.eqv, PyData.eqvAll]
  | cons a r => simp [PyData.eqv, PyData.eqvAll]
theorem vNe_ref0 (T : Tells f g) {l : List α} (h : S[n]? = some (.lst (l.map f))) : vNe (.ref n) (.lst []) S = .ok (.bl (!l.isEmpty)) S false := by
  have e1 : DL.snap 60 S (.ref n) = some (.list (l.map g)) := by
    show (match S[n]? with
      | some (.lst xs) => (allSome (xs.map (DL.snap 59 S))).map PyData.list
      | _ => none) = _
    rw [h]
    show (allSome ((l.map f).map (DL.snap 59 S))).map PyData.list = _
    rw [T.all 56 S l]; rfl
  have e2 : DL.snap 60 S (.lst []) = some (.list []) := rfl
  unfold vNe
  simp only [e1, e2]
  cases l with
  | nil => simp [PyData.eqv, PyData.eqvAll]
  | cons a r => simp [PyData.eqv, PyData.eqvAll]
end
theorem vAppend_ref {n : Nat} {xs : List D} {y : D} (h : S[n]? = some (.lst xs)) (hl : xs.length < 16777216) : vAppend (.ref n) [y] S = .ok .non (S.set n (.lst (xs ++ [y]))) false := by
  unfold vAppend
  simp only [h]
  rw [if_pos hl]
theorem isLst_ref {n : Nat} {xs : List D} (h : S[n]? = some (.lst xs)) : isLstD (.ref n) S = true := by unfold isLstD; rw [lstOf_ref h]; rfl
end
end DL
namespace DL
open PySem L2
section
variable {E : KE} {P : KV'} {env : Env'} {S : Store}
theorem thaw_lst {xs : List D} : thawR (.lst xs) S true = .ok (.ref S.length) (S ++ [.lst xs]) false := rfl
theorem items_ref {n : Nat} {xs : List D} (h : S[n]? = some (.lst xs)) : itemsOf S (.ref n) = some (xs, some (n, xs)) := by
  show (match S[n]? with
    | some (.lst xs) => some (xs, some (n, xs))
    | _ => none) = _
  rw [h]
@[simp] theorem items_lst {xs : List D} : itemsOf S (.lst xs) = some (xs, none) := rfl
@[simp] theorem gdOk_some {n : Nat} {xs : List D} : gdOk (some (n, xs)) S ↔ S[n]? = some (.lst xs) := Iff.rfl
theorem vLen_ref {n : Nat} {xs : List D} (h : S[n]? = some (.lst xs)) : vLen [.ref n] S = .ok (.int xs.length) S false := by
  unfold vLen
  have : seqOf S (.ref n) = some xs := lstOf_ref h
  simp only [dctOf_ref h, this]
@[simp] theorem vLen_lst {xs : List D} : vLen [.lst xs] S = .ok (.int xs.length) S false := rfl
end
end DL
namespace DL
open PySem L2
section
variable {S : Store}
theorem atN {α : Type} {xs : List α} {i : Nat} (h : i < xs.length) : atI xs (i : Int) = some xs[i] := by
  unfold atI ixN
  rw [if_pos (by omega), if_pos (by omega)]
  simp [List.getElem?_eq_getElem h]
@[simp] theorem vIdx_t0 {x : D} {r : List D} : vIdx (.tup (x :: r)) (.int 0) S = .ok x S false := by
  have e : atI (x :: r) 0 = some x := by unfold atI ixN; simp
  unfold vIdx
  have h1 : dctOf S (.tup (x :: r)) = none := rfl
  have h2 : seqOf S (.tup (x :: r)) = some (x :: r) := rfl
  simp only [h1, h2, e]
@[simp] theorem vIdx_t1 {x y : D} {r : List D} : vIdx (.tup (x :: y :: r)) (.int 1) S = .ok y S false := by
  have e : atI (x :: y :: r) 1 = some y := atN (i := 1) (by simp)
  unfold vIdx
  have h1 : dctOf S (.tup (x :: y :: r)) = none := rfl
  have h2 : seqOf S (.tup (x :: y :: r)) = some (x :: y :: r) := rfl
  simp only [h1, h2, e]
@[simp] theorem vIdx_t2 {x y z : D} {r : List D} : vIdx (.tup (x :: y :: z :: r)) (.int 2) S = .ok z S false := by
  have e : atI (x :: y :: z :: r) 2 = some z := atN (i := 2) (by simp)
  unfold vIdx
  have h1 : dctOf S (.tup (x :: y :: z :: r)) = none := rfl
  have h2 : seqOf S (.tup (x :: y :: z :: r)) = some (x :: y :: z :: r) := rfl
  simp only [h1, h2, e]
@[simp] theorem vIdx_l0 {x : D} {r : List D} : vIdx (.lst (x :: r)) (.int 0) S = .ok x S false := by
  have e : atI (x :: r) 0 = some x := by unfold atI ixN; simp
  unfold vIdx
  have h1 : dctOf S (.lst (x :: r)) = none := rfl
  have h2 : seqOf S (.lst (x :: r)) = some (x :: r) := rfl
  simp only [h1, h2, e]
@[simp] theorem vIdx_l1 {x y : D} {r : List D} : vIdx (.lst (x :: y :: r)) (.int 1) S = .ok y S false := by
  have e : atI (x :: y :: r) 1 = some y := atN (i := 1) (by simp)
  unfold vIdx
  have h1 : dctOf S (.lst (x :: y :: r)) = none := rfl
  have h2 : seqOf S (.lst (x :: y :: r)) = some (x :: y :: r) := rfl
  simp only [h1, h2, e]
@[simp] theorem vIdx_l2 {x y z : D} {r : List D} : vIdx (.lst (x :: y :: z :: r)) (.int 2) S = .ok z S false := by
  have e : atI (x :: y :: z :: r) 2 = some z := atN (i := 2) (by simp)
  unfold vIdx
  have h1 : dctOf S (.lst (x :: y :: z :: r)) = none := rfl
  have h2 : seqOf S (.lst (x :: y :: z :: r)) = some (x :: y :: z :: r) := rfl
  simp only [h1, h2, e]
@[simp] theorem vAdd_ll {xs ys : List D} : vAdd (.lst xs) (.lst ys) S = if xs.length + ys.length ≤ 16777216 then .ok (.lst (xs ++ ys)) S true else .stuck := rfl
section
variable {α : Type} [BEq α] [LawfulBEq α] {f : α → D} {g : α → PyData}
end
end
/-- a def that hands back nothing of what it made -/
theorem finR_drop {b : Bool} {S T : Store} {d : D} {fr : Bool} (hd : ∀ n, d ≠ .ref n) (hlo : D.lo S.length d = true) : finR b S d (S ++ T) fr = .ok d S fr := by
  have e : frzD b S.length (S ++ T) d = (d, false) := by
    cases d with
    | ref n => exact (hd n rfl).elim
    | _ => rfl
  unfold finR
  rw [e]
  by_cases h : (S ++ T).length = S.length
  · rw [if_pos h]
    have : T = [] := by simp at h; exact h
    subst this; simp
  · rw [if_neg h, if_pos]
    · simp
    · refine ⟨hlo, ?_⟩
      unfold okDrop
      rw [List.all_eq_true]
      intro n hn
      rw [List.mem_range] at hn
      rw [List.getElem?_append_left hn]
      simp
theorem finR_drop' {b : Bool} {S S' : Store} {d : D} {fr : Bool} (hd : ∀ n, d ≠ .ref n) (hlo : D.lo S.length d = true) (hl : S.length ≤ S'.length) (ho : ∀ n, n < S.length → S'[n]? = S[n]?) : finR b S d S' fr = .ok d S fr := by
  have e : S' = S ++ S'.drop S.length := by
    refine List.ext_getElem? fun n => ?_
    by_cases hn : n < S.length
    · rw [List.getElem?_append_left hn, ho n hn]
    · rw [List.getElem?_append_right (by omega), List.getElem?_drop]
      congr 1; omega
  rw [e]
  exact finR_drop hd hlo
end DL
namespace DL
open PySem L2
section
variable {E : KE} {P : KV'} {env : Env'} {S : Store} {α : Type}
theorem ok_compMM {gd : Option (Nat × List D)} {g : MG} {m : ME} {f : α → D} (h : α → D) {l : List α} (h0 : gdOk gd S) (hs : ∀ x ∈ l, ∃ env1, g (f x) env S = some env1 ∧ Ok NoE (m env1 S) fun d S' _ => d = h x ∧ S' = S)
    (hd : P (.lst (l.map h)) S true) : Ok E (compL gd g none m env (l.map f) [] S) P := by
  refine ok_compL (fun r acc' S' => S' = S ∧ ∃ done rest : List α, l = done ++ rest ∧ r = rest.map f ∧ acc' = done.map h) ⟨rfl, [], l, rfl, rfl, rfl⟩ ?_ ?_
  · rintro x r acc' S' ⟨rfl, done, rest, el, er, rfl⟩
    cases rest with
    | nil => cases er
    | cons y rest =>
      rw [List.map_cons] at er
      cases er
      obtain ⟨env1, eg, hm⟩ := hs y (by rw [el]; simp)
      refine ⟨h0, env1, eg, ?_⟩
      rw [oTest_none, ok_ok]
      refine ⟨true, rfl, ?_⟩
      rw [if_pos rfl]
      refine hm.mono (fun d S' fr q => ?_) fun _ _ q => q
      obtain ⟨rfl, rfl⟩ := q
      exact ⟨rfl, done ++ [y], rest, by simp [el], rfl, by simp⟩
  · rintro acc' S' ⟨rfl, done, rest, el, er, rfl⟩
    have : rest = [] := by cases rest with
      | nil => rfl
      | cons _ _ => cases er
    subst this
    rw [List.append_nil] at el
    subst el
    exact ⟨h0, hd⟩
end
end DL
/-! Plain steps: errors caught. -/
namespace DL
open PySem L2
section
variable {E : KE} {P : KV'} {K : KB} {env : Env'} {S : Store} {Q : List D → Option (Nat × List D) → Store → Prop}
def kClr (i : Nat) (K : KB) : KB := ⟨fun e S => K.nx ((e.map clr).set i .no) S, fun e S => K.bk ((e.map clr).set i .no) S, fun e S => K.ct ((e.map clr).set i .no) S, K.rt, fun _ _ _ => False⟩
def kClr0 (K : KB) : KB := ⟨fun e S => K.nx (e.map clr) S, fun e S => K.bk (e.map clr) S, fun e S => K.ct (e.map clr) S, K.rt, fun _ _ _ => False⟩
theorem oks_fClr {i : Nat} {r : FR} : OkS K (fClr i r) ↔ OkS (kClr i K) r := by cases r <;> exact Iff.rfl
theorem oks_fClr0 {r : FR} : OkS K (fClr0 r) ↔ OkS (kClr0 K) r := by cases r <;> exact Iff.rfl
@[simp] theorem oks_tryAs {root : Nat} {ex : List Nat} {m i : Nat} {a b : MS} : OkS K (sTryAs root ex m i a b env S) ↔
    OkS { K with ex := fun e env1 S1 => (e.c ∈ ex ∧ e.fld = none) ∧ if (e.c == m || m == root) = true then OkS (kClr i K) (b (env1.set i (.exc e)) S1) else K.ex e env1 S1 } (a env S) := by
  unfold sTryAs
  cases a env S with
  | exc e env1 S1 =>
    show OkS K (if e.c ∈ ex ∧ e.fld = none then (if (e.c == m || m == root) = true then fClr i (b (env1.set i (.exc e)) S1) else .exc e env1 S1) else .stuck) ↔ (e.c ∈ ex ∧ e.fld = none) ∧ _
    by_cases h : e.c ∈ ex ∧ e.fld = none
    · rw [if_pos h]
      by_cases h2 : (e.c == m || m == root) = true
      · rw [if_pos h2, if_pos h2, oks_fClr]; exact ⟨fun q => ⟨h, q⟩, fun q => q.2⟩
      · rw [if_neg h2, if_neg h2]; exact ⟨fun q => ⟨h, q⟩, fun q => q.2⟩
    · rw [if_neg h]; exact ⟨fun q => q.elim, fun q => h q.1⟩
  | _ => exact Iff.rfl
@[simp] theorem oks_tryM {root : Nat} {ex : List Nat} {a : MS} {bs : List (Nat × MS)} : OkS K (sTryM root ex a bs env S) ↔
    OkS { K with ex := fun e env1 S1 => (e.c ∈ ex ∧ e.fld = none) ∧ match pickH root e.c bs with | some b => OkS (kClr0 K) (b env1 S1) | none => K.ex e env1 S1 } (a env S) := by
  unfold sTryM
  cases a env S with
  | exc e env1 S1 =>
    show OkS K (if e.c ∈ ex ∧ e.fld = none then (match pickH root e.c bs with | some b => fClr0 (b env1 S1) | none => .exc e env1 S1) else .stuck) ↔ (e.c ∈ ex ∧ e.fld = none) ∧ _
    by_cases h : e.c ∈ ex ∧ e.fld = none
    · rw [if_pos h]
      cases pickH root e.c bs with
      | some b => exact oks_fClr0.trans ⟨fun q => ⟨h, q⟩, fun q => q.2⟩
      | none => exact ⟨fun q => ⟨h, q⟩, fun q => q.2⟩
    · rw [if_neg h]; exact ⟨fun q => q.elim, fun q => h q.1⟩
  | _ => exact Iff.rfl
theorem ok_errOf {ex : List Nat} {i : Nat} {f : Nat → Res} : Ok E (errOf ex env i f) P ↔ ∃ e, env[i]? = some (.exc e) ∧ e.c ∈ ex ∧ Ok E (f e.c) P := by
  unfold errOf
  split
  · rename_i e h
    by_cases hm : e.c ∈ ex
    · rw [if_pos hm]; simp [h, hm]
    · rw [if_neg hm]; simp [h, hm]
  · rename_i h
    simp only [ok_stuck, false_iff, not_exists, not_and]
    exact fun e q => (h e q).elim
@[simp] theorem ok_isE {root : Nat} {ex : List Nat} {i m : Nat} : Ok E (eIsE root ex i m env S) P ↔ ∃ e, env[i]? = some (.exc e) ∧ e.c ∈ ex ∧ P (.bl (e.c == m || m == root)) S false := ok_errOf
@[simp] theorem ok_isV {ex : List Nat} {i : Nat} : Ok E (eIsV ex i env S) P ↔ ∃ e, env[i]? = some (.exc e) ∧ e.c ∈ ex ∧ P (.bl true) S false := ok_errOf
@[simp] theorem ok_isT {root : Nat} {ex : List Nat} {i : Nat} {ms : List Nat} : Ok E (eIsT root ex i ms env S) P ↔ ∃ e, env[i]? = some (.exc e) ∧ e.c ∈ ex ∧ P (.bl (ms.any fun m => e.c == m || m == root)) S false := ok_errOf
@[simp] theorem ok_callE {F : Exc → Store → Res} {i : Nat} : Ok E (eCallE F i env S) P ↔ ∃ e, env[i]? = some (.exc e) ∧ Ok E (F e S) P := by
  unfold eCallE
  split
  · rename_i e h; simp [h]
  · rename_i h
    simp only [ok_stuck, false_iff, not_exists, not_and]
    exact fun e q => (h e q).elim
@[simp] theorem oki_valH {m : ME} : OkI E (iValH m env S) Q ↔ Ok E (m env S) fun d S1 _ => wkOf d = .l ∧ ∃ xs g, itemsOf S1 d = some (xs, g) ∧ Q xs g S1 := by
  unfold iValH
  cases m env S with
  | ok d S1 fr =>
    show OkI E (fValH d S1) Q ↔ _
    unfold fValH fVal
    simp only [ok_ok]
    by_cases hw : wkOf d = .l
    · rw [if_pos hw]
      cases e : itemsOf S1 d with
      | none => simp
      | some p =>
        obtain ⟨a, b⟩ := p
        constructor
        · exact fun h => ⟨hw, a, b, rfl, h⟩
        · rintro ⟨_, x, y, h1, h2⟩; cases h1; exact h2
    · rw [if_neg hw]; simp [hw]
  | _ => exact Iff.rfl
@[simp] theorem vInX_s {neg : Bool} {z : Str} {y : D} : vInX neg (.str z) y S = vIn neg (.str z) y S := rfl
@[simp] theorem vInX_t {neg : Bool} {z : List D} {y : D} : vInX neg (.tup z) y S = vIn neg (.tup z) y S := rfl
@[simp] theorem vInX_i {neg : Bool} {z : Int} {y : D} : vInX neg (.int z) y S = vIn neg (.int z) y S := rfl
@[simp] theorem vInX_b {neg : Bool} {z : Bool} {y : D} : vInX neg (.bl z) y S = vIn neg (.bl z) y S := rfl
@[simp] theorem vInX_n {neg : Bool} {y : D} : vInX neg .non y S = vIn neg .non y S := rfl
@[simp] theorem vInX_l {neg : Bool} {z : List D} {y : D} : vInX neg (.lst z) y S = vIn neg (.lst z) y S := rfl
@[simp] theorem vMulS_i {i : Int} {y : D} : vMulS (.int i) y S = vMul (.int i) y S := rfl
@[simp] theorem vMulS_l {i : List D} {y : D} : vMulS (.lst i) y S = vMul (.lst i) y S := rfl
@[simp] theorem vMulS_s {x : Str} {k : Int} : vMulS (.str x) (.int k) S = if 0 < x.length ∧ 1 ≤ k ∧ k ≤ 1000 ∧ x.length ≤ 1000 then .ok (.str (Txt.mul x k)) S false else .stuck := rfl
end
end DL
namespace DL
open PySem L2
/-! ### sorted things, sets of texts -/
section
variable {S : Store} {E : KE} {P : KV'} {env : Env'}
theorem allSome_map {α β : Type} (f : α → β) (l : List α) : allSome (l.map fun x => some (f x)) = some (l.map f) := by
  induction l with
  | nil => rfl
  | cons x l ih => simp only [List.map_cons, allSome, ih, Option.map_some]
end
end DL
namespace DL
open PySem L2
section
variable {S : Store} {E : KE} {P : KV'} {env : Env'}
@[simp] theorem ok_slice3 {a : ME} {lo hi st : Option ME} : Ok E (eSlice3 a lo hi st env S) P ↔ Ok E (a env S) fun x S1 _ => Ok E (ePart lo env S1 fun l S2 => ePart hi env S2 fun u S3 => ePart st env S3 fun k S4 => vSlice3 x l u k S4) P := by
  unfold eSlice3; simp only [ok_bind]
@[simp] theorem vSlice3_rev {xs : List D} : vSlice3 (.lst xs) none none (some (-1)) S = .ok (.lst xs.reverse) S true := by
  have : vSlice3 (.lst xs) none none (some (-1)) S = .ok (.lst (pickL xs none none (some (-1)))) S true := rfl
  rw [this, pick_rev]
@[simp] theorem vLstRng_i {n : Int} : vLstRng (.int n) S = if -(2 ^ 61) ≤ n ∧ n ≤ 16777216 then .ok (.lst (rngL 0 n.toNat)) S true else .stuck := rfl
@[simp] theorem vMin2_i {i j : Int} : vMin2 [.int i, .int j] S = .ok (.int (if j < i then j else i)) S false := rfl
@[simp] theorem vMax2_i {i j : Int} : vMax2 [.int i, .int j] S = .ok (.int (if j > i then j else i)) S false := rfl
@[simp] theorem vTuple_t {xs : List D} : vTuple [.tup xs] S = .ok (.tup xs) S false := rfl
@[simp] theorem vTuple_l {xs : List D} : vTuple [.lst xs] S = .ok (.tup xs) S false := rfl
end
end DL
namespace DL
open PySem L2
section
variable {S : Store} {E : KE} {P : KV'} {env : Env'}
@[simp] theorem vLtX_i {i j : Int} : vLtX (.int i) (.int j) S = .ok (.bl (decide (i < j))) S false := rfl
@[simp] theorem vLtX_2 {a b c d : Int} : vLtX (.tup [.int a, .int b]) (.tup [.int c, .int d]) S = .ok (.bl (if a = c then (if b = d then false else decide (b < d)) else decide (a < c))) S false := rfl
end
end DL
namespace DL
open PySem L2
end DL
namespace DL
open PySem L2
section
variable {S : Store}
end
end DL
/-! dicts by their methods: get, pop, setdefault -/
namespace DL
open PySem PySem.Spec PyProof.Rows L2
/-! ### pop -/
section
variable {G : Gam} {H : Hp} {pi rho : List Addr} {S : Store} {v : V} {d : D}
end
/-! ### setdefault, keys that are tuples -/
end DL
/-! sorted(d) of a dict whose keys are texts -/
namespace DL
open PySem PySem.Spec PyProof.Rows L2
end DL
/-! Plain steps: dicts by their methods. -/
namespace DL
open PySem L2
section
variable {S : Store} {n : Nat} {tk : Bool} {kvs : List (D × D)} {k d : D}
end
end DL
namespace DL
open PySem L2
/-! ### enumerate and zip over lists -/
def enumD (ds : List D) : List D := ds.mapIdx fun i d => .tup [.int (i : Int), d]
def zipD (xs ys : List D) : List D := (List.range (min xs.length ys.length)).map fun i => .tup [xs[i]?.getD .non, ys[i]?.getD .non]
def gdBoth (a b : Option (Nat × List D)) : Option (Option (Nat × List D)) := match a, b with
  | none, g => some g
  | g, none => some g
  | some _, some _ => none
def fEnum : List D → Store → IRes
  | [x], S => if wkOf x = .l then (match itemsOf S x with
    | some (xs, g) => .ok (enumD xs) g S
    | none => .stuck) else .stuck
  | _, _ => .stuck
def fZip : List D → Store → IRes
  | [x, y], S => if wkOf x = .l ∧ wkOf y = .l then (match itemsOf S x, itemsOf S y with
    | some (xs, g), some (ys, g') => (match gdBoth g g' with
      | some gg => .ok (zipD xs ys) gg S
      | none => .stuck)
    | _, _ => .stuck) else .stuck
  | _, _ => .stuck
section
variable {G : Gam} {H H1 H' : Hp} {pi pi1 pi' rho rho' : List Addr} {S S' : Store}
theorem lst_fits {v : V} {d : D} {items : List D} {gd : Option (Nat × List D)} (R : Rel G H pi rho S) (r : RV G H pi rho v d) (hw : wkOf d = .l) (e : itemsOf S d = some (items, gd)) :
    ∃ a, v = .ref a ∧ (∃ xs, SqL G.K H a xs) ∧ items.length ≤ sizeLine ∧ ∀ rho' H' pi' S', Rel G H' pi' rho' S' → Ext H pi rho H' pi' rho' → gdOk gd S' → ∃ ws, SqL G.K H' a ws ∧ RVs G H' pi' rho' ws items := by
  cases r with
  | str ho => cases hw
  | tup h z q => cases hw
  | ktup h z q => cases hw
  | lst h n m z q =>
    cases e
    exact ⟨_, rfl, ⟨_, .inl (.inl h)⟩, by rw [← q.length]; exact z, fun rho' H' pi' S' R' x g => ⟨_, .inl (.inl (x.keep _ _ h n m).1), q.mono x⟩⟩
  | scr h z =>
    cases e
    refine ⟨_, rfl, ⟨_, h.sq⟩, by simpa using z, fun rho' H' pi' S' R' x g => ⟨_, ?_, ints_rv _⟩⟩
    exact (h.elim (fun ⟨o, h⟩ => .inl ⟨o, x.frz _ _ _ h⟩) .inr : SqF G.K H' _ _).sq
  | ref h =>
    rename_i a n
    have e' : (match S[n]? with
      | some (.lst xs) => some (xs, some (n, xs))
      | _ => none) = some (items, gd) := e
    obtain ⟨o, eo, ro⟩ := R.addr h
    rw [eo] at e'
    cases o with
    | lst xs =>
      cases e'
      obtain ⟨ws, h1, z, q⟩ := ro
      refine ⟨a, rfl, ⟨_, .inl (.inl h1)⟩, by rw [← q.length]; exact z, fun rho' H' pi' S' R' x g => ?_⟩
      obtain ⟨o, eo, ro⟩ := R'.addr (x.ref _ _ h)
      have g : S'[n]? = some (.lst items) := g
      rw [g] at eo
      cases eo
      obtain ⟨ws', h2, _, q2⟩ := ro
      exact ⟨ws', .inl (.inl h2), q2⟩
    | dct tk kvs => cases e'
    | ins c fs => cases e'
    | fz kvs => cases e'
  | _ => cases e
/-- a new pair -/
theorem new_pair {T : Addr} {x y : V} {dx dy : D} (R : Rel G H pi rho S) (hT : H T = none) (rx : RV G H pi rho x dx) (ry : RV G H pi rho y dy) :
    Rel G (upd H T (.tup [x, y])) pi rho S ∧ Go H pi rho (upd H T (.tup [x, y])) pi ∧ RV G (upd H T (.tup [x, y])) pi rho (.ref T) (.tup [dx, dy]) :=
  ⟨R.new hT, Go.new hT, .tup upd_same (by rw [sizeLine_eq]; exact (by decide : 2 ≤ 16777216)) (.cons (rx.mono (Ext.new hT)) (.cons (ry.mono (Ext.new hT)) .nil))⟩
theorem walk_e {a : Addr} {gd : Option (Nat × List D)} {ds : List D} (hz : ds.length ≤ sizeLine) (h : ∀ rho' H' pi' S', Rel G H' pi' rho' S' → Ext H1 pi1 rho H' pi' rho' → gdOk gd S' → ∃ ws, SqL G.K H' a ws ∧ RVs G H' pi' rho' ws ds) : WalkD G H1 pi1 rho (enumD ds) gd (Ite G.K a) := by
  refine ⟨by unfold enumD; rw [List.length_mapIdx]; exact hz, fun rho' i H' pi' S' d R x g e => ?_, fun rho' i H' pi' S' R x g e => ?_⟩
  · unfold enumD at e
    rw [List.getElem?_mapIdx] at e
    cases ed : ds[i]? with
    | none => rw [ed] at e; cases e
    | some d0 =>
      rw [ed] at e
      cases e
      obtain ⟨ws, hs, qw⟩ := h rho' H' pi' S' R x g
      obtain ⟨v, ev, r⟩ := qw.get ed
      refine ⟨⟨ws, v, hs, ev⟩, fun y H'' hy => ?_⟩
      obtain ⟨T, u, rfl, hT, rfl, hy⟩ := hy
      have := hy ws hs
      rw [ev] at this
      cases this
      exact new_pair R hT (.int _) r
  · obtain ⟨ws, hs, qw⟩ := h rho' H' pi' S' R x g
    unfold enumD at e
    rw [List.length_mapIdx] at e
    exact ⟨ws, hs, by rw [qw.length]; exact e⟩
end
section
variable {X : Cx} {c : Ctx} {W : WX} {m : ME}
theorem di_enumerate {e : Expr} {elts : List Expr} {kk : Nat} {p pos tpos : Pos} (hg : Gl X "enumerate") (hm : X.mg "enumerate" = none) (ha : DA X c W [e] [m]) (hs : starEach [e] X.env = [(false, eval e X.env)] := by rfl) :
    DI X c W (.Tuple elts kk tpos) (.Call (.Name "enumerate" p) [e] [] pos) (iArg fEnum [m]) := by
  refine ⟨_, pi_enum hg hm ha hs, fun {σ H pi rho S env RR} R N h => ?_⟩
  refine tDA.bindI R N h fun vs H1 ds pi1 S1 R1 r g h => ?_
  match ds, r, h with
  | [x], r, h =>
    have h : PostI (gm X c) W σ H pi rho RR (if wkOf x = .l then (match itemsOf S1 x with
      | some (xs, g) => .ok (enumD xs) g S1
      | none => .stuck) else .stuck) := h
    split at h
    · rename_i hw
      obtain ⟨v, rfl, rx⟩ := r.one
      cases ei : itemsOf S1 x with
      | none => rw [ei] at h; exact h.elim
      | some q =>
        obtain ⟨xs, gd⟩ := q
        rw [ei] at h
        obtain ⟨a, rfl, ⟨ws, hq⟩, hz, f⟩ := lst_fits R1 rx hw ei
        exact ⟨a, ws, rfl, hq, h H1 pi1 _ R1 g (walk_e hz f)⟩
    · exact h.elim
end
end DL
namespace DL
open PySem L2
section
variable {S : Store}
@[simp] theorem enum_lst {xs : List D} : fEnum [.lst xs] S = .ok (enumD xs) none S := rfl
@[simp] theorem zip_lst {xs ys : List D} : fZip [.lst xs, .lst ys] S = .ok (zipD xs ys) none S := rfl
end
end DL
namespace DL
open PySem PySem.Spec PyProof.Rows L2
/-! ### dict(list of pairs) -/
section
variable {G : Gam} {H : Hp} {pi rho : List Addr} {S : Store}
end
/-! ### a dict locked for good -/
def lockR (x : D) (S : Store) (fr : Bool) : Res := match x with
  | .dct kvs => if fr = true then .ok (.fdct kvs) S false else .stuck
  | _ => .stuck
def eLock (a : ME) : ME := fun env S => (a env S).bind lockR
section
variable {X : Cx} {c : Ctx} {W : WX} {e : Expr} {ma : ME}
end
/-! ### for k in a dict that is locked -/
def fKeys (x : D) (S : Store) : IRes := match x with
  | .fdct kvs => .ok (kvs.map (·.1)) none S
  | _ => .stuck
def iKeysF (m : ME) : MI := fun env S => (m env S).bindI fKeys
section
variable {X : Cx} {c : Ctx} {W : WX} {tg e : Expr} {m : ME}
end
end DL
namespace DL
open PySem PySem.Spec PyProof.Rows L2
/-! ### min and max of two texts -/
def strLt (a b : Str) : Bool := decide (a.cps.toList < b.cps.toList)
section
variable {prog : Program} {w : World} {A : Around} {E : Value → Shared → Prop} {s : Shared}
end
def vMinS : MF
  | [.str a, .str b], S => .ok (.str (if strLt b a = true then b else a)) S false
  | _, _ => .stuck
def vMaxS : MF
  | [.str a, .str b], S => .ok (.str (if strLt a b = true then b else a)) S false
  | _, _ => .stuck
end DL
namespace DL
open PySem L2
section
variable {E : KE} {P : KV'} {S : Store} {env : Env'}
@[simp] theorem ok_lock {a : ME} : Ok E (eLock a env S) P ↔ Ok E (a env S) fun x S1 fr => Ok E (lockR x S1 fr) P := by
  unfold eLock; simp only [ok_bind]
@[simp] theorem lock_dct {kvs : List (D × D)} : lockR (.dct kvs) S true = .ok (.fdct kvs) S false := rfl
@[simp] theorem oki_keys {Q : List D → Option (Nat × List D) → Store → Prop} {m : ME} : OkI E (iKeysF m env S) Q ↔ Ok E (m env S) fun d S1 _ => ∃ kvs, d = .fdct kvs ∧ Q (kvs.map (·.1)) none S1 := by
  unfold iKeysF
  cases h : m env S with
  | ok d S1 fr =>
    show OkI E (fKeys d S1) Q ↔ _
    cases d <;> simp [fKeys, Ok, OkI]
  | exc x S1 => rfl
  | stuck => rfl
@[simp] theorem vMinS_s {a b : Str} : vMinS [.str a, .str b] S = .ok (.str (if strLt b a = true then b else a)) S false := rfl
@[simp] theorem vMaxS_s {a b : Str} : vMaxS [.str a, .str b] S = .ok (.str (if strLt a b = true then b else a)) S false := rfl
end
end DL
namespace DL
open PySem L2
section
variable {K : KB} {E : KE} {P : KV'} {S : Store} {env : Env'}
end
end DL
namespace DL
open PySem PySem.Spec PyProof.Rows L2
/-! ### a tuple turned about: t[::-1] -/
section
variable {prog : Program} {w : World} {A : Around} {E : Value → Shared → Prop} {s : Shared}
end
section
variable {X : Cx} {e : Expr} {te : TE} {lo hi st : Option Expr} {tl th tk : TO} {pos p2 : Pos}
end
def vRevT (x : D) (lo hi st : Option Int) (S : Store) : Res := match x with
  | .tup xs => if lo = none ∧ hi = none ∧ st = some (-1) then .ok (.tup xs.reverse) S false else .stuck
  | _ => .stuck
def eRevT (a : ME) (lo hi st : Option ME) : ME := fun env S => (a env S).bind fun x S1 _ => ePart lo env S1 fun l S2 => ePart hi env S2 fun u S3 => ePart st env S3 fun k S4 => vRevT x l u k S4
section
variable {X : Cx} {c : Ctx} {W : WX} {a : Expr} {ma : ME} {pos p2 : Pos} {lo hi st : Option Expr} {ml mh mk : Option ME}
end
end DL
namespace DL
open PySem L2
section
variable {S : Store} {E : KE} {P : KV'} {env : Env'}
@[simp] theorem ok_revT {a : ME} {lo hi st : Option ME} : Ok E (eRevT a lo hi st env S) P ↔ Ok E (a env S) fun x S1 _ => Ok E (ePart lo env S1 fun l S2 => ePart hi env S2 fun u S3 => ePart st env S3 fun k S4 => vRevT x l u k S4) P := by
  unfold eRevT; simp only [ok_bind]
@[simp] theorem vRevT_t {xs : List D} : vRevT (.tup xs) none none (some (-1)) S = .ok (.tup xs.reverse) S false := rfl
end
end DL
namespace DL
open PySem PySem.Spec PyProof.Rows L2
open PySem.W (minD maxD AlikeAll alike min_list_data min_tuple_data max_list_data max_tuple_data)
/-! ### min and max of a list or a tuple of texts -/
def minT (z : Str) (r : List Str) : Str := r.foldl (fun a y => if strLt y a = true then y else a) z
def maxT (z : Str) (r : List Str) : Str := r.foldl (fun a y => if strLt a y = true then y else a) z
def vExtT (f : Str → List Str → Str) : MF
  | [x], S => match dctOf S x with
    | some _ => .stuck
    | none => match seqOf S x with
      | some ds => match strsOf ds with
        | some (z :: r) => .ok (.str (f z r)) S false
        | _ => .stuck
      | none => .stuck
  | _, _ => .stuck
def vMinT : MF := vExtT minT
def vMaxT : MF := vExtT maxT
/-! ### isinstance(x, an own class) of an instance of just this class -/
structure ClI (K : PySem.W.Frag) (C : Addr) : Prop where
  cl : Cls K C
  ha : PySem.W.findIn K (.ref C) "__class__" = some (some (.builtin "object.__class__"))
  hn : PySem.W.specialIn K (.builtin "object.__class__") "__get__" = some (some (.builtin "getset_descriptor.__get__"))
  ht : PySem.W.takesIn K (.builtin "object.__class__") = some true
  hm : PySem.W.mroIn K C (.type "object") = some true
section
variable {X : Cx} {c : Ctx} {W : WX} {a : Expr} {ma : ME} {pos : Pos}
end
end DL
namespace DL
open PySem L2
section
variable {S : Store}
@[simp] theorem vMinT_two {a b : Str} : vMinT [.tup [.str a, .str b]] S = .ok (.str (if strLt b a = true then b else a)) S false := rfl
@[simp] theorem vMaxT_two {a b : Str} : vMaxT [.tup [.str a, .str b]] S = .ok (.str (if strLt a b = true then b else a)) S false := rfl
end
end DL
namespace DL
open PySem PySem.Spec PyProof.Rows L2
open PySem.W (AllAlike Sortable dataLe sort_maps)
/-! ### sorted(d) of a dict with tuple keys -/
section
variable {X : Cx}
end
end DL
/-! d.items() of a locked dict with tuple keys, walked -/
namespace DL
open PySem PySem.Spec PyProof.Rows L2
section
variable {X : Cx} {pins : List (Addr × Obj)} {σ : L2.St} {H : Hp} {s : Shared} {d : Addr} {o : Obj}
end
section
variable {P : Program} {w : World} {K : PySem.W.Frag} {d : Addr} {o : Obj} {es : Array DictEntry} {ep : Nat}
end
section
variable {X : Cx} {tg e : Expr} {td : TE} {apos cpos : Pos}
end
end DL
/-! a dict with tuple keys locked while an expression runs; its items walked -/
namespace DL
open PySem PySem.Spec PyProof.Rows L2
section
variable {G : Gam} {H H' : Hp} {pi rho : List Addr} {a : Addr}
end
section
variable {X : Cx} {c : Ctx} {W : WX} {e : Expr} {m : ME}
end
/-! ### the items of a locked dict -/
section
variable {X : Cx} {c : Ctx} {W : WX} {e : Expr} {m : ME}
end
end DL
/-! d.update(a dict of texts), l.index(x) over data, get of a dict of the module's own -/
namespace DL
open PySem PySem.Spec PyProof.Rows L2
/-! ### update -/
/-! ### index -/
end DL
/-! get of a dict of the module's own: texts to whole numbers -/
namespace DL
open PySem PySem.Spec PyProof.Rows L2
/-- the entries of a written dict are those of a table -/
def tabIs : List DictEntry → List (Str × Int) → Bool
  | [], [] => true
  | e :: r, (x, i) :: t => Value.isStrOf x e.key && ((match e.val with
    | .int j _ => i == j
    | _ => false) && tabIs r t)
  | _, _ => false
structure KTab (K : PySem.W.Frag) (w : World) (mg : Str → Option Value) (x : Str) (tbl : List (Str × Int)) : Prop where
  ex : ∃ (d : Addr) (es : Array DictEntry) (n : Nat), mg x = some (.ref d) ∧ K.lookup d = some ⟨.type "dict", none, .dict es n, #[]⟩ ∧ PySem.W.KeysLit w.params es.toList ∧ (d == sysModules) = false ∧ tabIs es.toList tbl = true
section
variable {X : Cx} {c : Ctx} {W : WX} {a : Expr} {ma : ME} {ta : TE} {x : Str} {px apos cpos : Pos} {tbl : List (Str × Int)}
end
end DL
namespace DL
open PySem PySem.Spec PyProof.Rows L2
open PySem.W (dataLe AllAlike Sortable alike EachIs sorted_data list_sort_data sort_maps dataLe_str list_sort_vals)
def vSortedU : MF
  | [.tup ds], S => match strsOf ds with
    | some zs => .ok (.lst ((zs.mergeSort strLe).map D.str)) S true
    | none => .stuck
  | _, _ => .stuck
end DL
namespace DL
open PySem L2
@[simp] theorem vSortedU_two {S : Store} {a b : Str} : vSortedU [.tup [.str a, .str b]] S = .ok (.lst (([a, b].mergeSort strLe).map D.str)) S true := rfl
end DL
/-! a dict with tuple keys locked while a statement runs -/
namespace DL
open PySem PySem.Spec PyProof.Rows L2
section
variable {G : Gam} {H H' H1 : Hp} {pi pi1 rho : List Addr} {a : Addr} {σ : L2.St} {env : Env'} {S : Store}
end
section
variable {X : Cx} {c : Ctx} {W : WX} {st : Stmt} {m : MS}
end
end DL
namespace DL
open PySem L2
end DL
/-! a def's derivation in short: what it leans on is handed in -/
namespace DL
open PySem PySem.Spec PyProof.Rows L2
def scBool (N ps : List Str) (sc : Scope) : Bool :=
  (match sc.kind with
    | .function => true
    | _ => false) && (!sc.isCoroutine && (!sc.isGenerator && (decide N.Nodup && (decide (N.take ps.length = ps) && ((ps.all fun x => match sc.names.lookup x with
    | some .local => true
    | some .cell => true
    | _ => false) && sc.names.all fun y => match y.2 with
    | .free => false
    | _ => true)))))
theorem scB {N ps : List Str} {sc : Scope} (h : scBool N ps sc = true) : FnScope N ps sc := by
  unfold scBool at h
  simp only [Bool.and_eq_true, Bool.not_eq_true', decide_eq_true_eq, List.all_eq_true] at h
  obtain ⟨h1, h2, h3, h4, h5, h6, h7⟩ := h
  refine ⟨?_, h2, h3, h4, h5, fun x hx => ?_, fun y hy e => ?_⟩
  · cases e : sc.kind <;> rw [e] at h1 <;> first | rfl | cases h1
  · have := h6 x hx
    cases e : sc.names.lookup x with
    | none => rw [e] at this; cases this
    | some k => rw [e] at this; cases k <;> first | exact .inl rfl | exact .inr rfl | cases this
  · have := h7 y hy
    rw [e] at this; cases this
section
variable {P : Program} {w : World} {K : PySem.W.Frag} {mg : Str → Option Value} {base : Heap} {cl : Nat → Addr}
theorem def_okT {x qual : Str} {st : Stmt} {f : Addr} {fd : FuncData} {N ps : List Str} {k n nl : Nat} {body : MS} (F : Fun K x qual st f fd) (S : scBool N ps (defScope st) = true) (hn : ps.length = n) (hl : N.length = n + nl)
    (hb : ∀ (cdv : Value) (A : Around) (outer : List Env) (s : Shared) (H : Hp) (E : XK), Room k (A.deeper (envOfC qual (defScope st) s.heap.objs.size f cdv)) →
      L2N.Takes (cxOf (L2N.CX P w) P w K mg base N qual (defScope st) f cdv A outer s H E) (fun cls d _ H => E cls d H) → PassesOwn (model P w) (cxOf (L2N.CX P w) P w K mg base N qual (defScope st) f cdv A outer s H E).A (cxOf (L2N.CX P w) P w K mg base N qual (defScope st) f cdv A outer s H E).env (cxOf (L2N.CX P w) P w K mg base N qual (defScope st) f cdv A outer s H E).xe → N.Nodup →
      DSs (cxOf (L2N.CX P w) P w K mg base N qual (defScope st) f cdv A outer s H E) (cl, none) (fun cls dx _ H' => E cls dx H') (defBody st) body) :
    FnOk P w K mg base (L2N.CX P w) (k + 1) f fd ps (spD ⟨K, cl, none⟩ n (dDef nl body)) :=
  def_ok F (scB S) hn hl fun cdv A outer s H E hr => hb cdv A outer s H E hr (@L2N.takes_of (cxOf (L2N.CX P w) P w K mg base N qual (defScope st) f cdv A outer s H E) E rfl rfl rfl _ rfl) (@passes_of (cxOf (L2N.CX P w) P w K mg base N qual (defScope st) f cdv A outer s H E) _ _ rfl) (scB S).nd
/-! ### from a def's law to what its callers lean on -/
variable {x q : Str} {st : Stmt} {f : Addr} {fd : FuncData} {ps : List Str} {k n : Nat} {F : MF} (P base)
theorem mkD (o : FnOk P w K mg base (L2N.CX P w) k f fd ps (spD ⟨K, cl, none⟩ n F)) (u : Fun K x q st f fd) (e : mg x = some (.ref f)) (hb : Binds K fd ps []) : DefOk P w K mg base cl k x n F := ⟨f, fd, ps, o, e, u.kp, hb⟩
theorem bdT (u : Fun K x q st f fd) {p : Str} (h : ∀ (kV doc pm : Value) (an : Option Addr) (cdv ct : Value) (a : Value), bindArgs (PySem.W.fnOf x q (defArgs st) (defBody st) (defScope st) .none kV doc pm an cdv ct) ⟨[a], []⟩ = pure [(p, a)]) (s : Shared) (a : Value) : BindsTo s fd ⟨[a], []⟩ [(p, a)] := by
  obtain ⟨oc, od, kV, doc, pm, an, cdv, ct, osl, rfl, _, _⟩ := u.ex
  exact .of_eq (h kV doc pm an cdv ct a)
theorem bd1 (u : Fun K x q st f fd) {p : Str} (h : ∀ (kV doc pm : Value) (an : Option Addr) (cdv ct a : Value), bindArgs (PySem.W.fnOf x q (defArgs st) (defBody st) (defScope st) .none kV doc pm an cdv ct) ⟨[a], []⟩ = pure [(p, a)]) : Binds K fd [p] [] :=
  u.binds (ps := [p]) fun kV doc pm an cdv ct us hl => match us, hl with | [a], _ => h kV doc pm an cdv ct a
theorem bd2 (u : Fun K x q st f fd) {p p2 : Str} (h : ∀ (kV doc pm : Value) (an : Option Addr) (cdv ct a b : Value), bindArgs (PySem.W.fnOf x q (defArgs st) (defBody st) (defScope st) .none kV doc pm an cdv ct) ⟨[a, b], []⟩ = pure [(p, a), (p2, b)]) : Binds K fd [p, p2] [] :=
  u.binds (ps := [p, p2]) fun kV doc pm an cdv ct us hl => match us, hl with | [a, b], _ => h kV doc pm an cdv ct a b
end
end DL
/-! == of dicts that change, of flat values: alike ones -/
namespace DL
open PySem PySem.Spec PyProof.Rows L2
end DL
/-! l.count(x) over data -/
namespace DL
open PySem PySem.Spec PyProof.Rows L2
end DL
/-! d.clear() -/
namespace DL
open PySem PySem.Spec PyProof.Rows L2
end DL
namespace DL
open PySem PySem.Spec PyProof.Rows L2
/-! ### == of a tuple and the empty one, whatever is in it -/
end DL
/-! a[b] of a dict with tuple keys that is locked -/
namespace DL
open PySem PySem.Spec PyProof.Rows L2
section
variable {X : Cx} {c : Ctx} {W : WX} {a b e : Expr} {ma mb : ME} {pos : Pos}
end
end DL
/-! the items of a dict that was locked for good -/
namespace DL
open PySem PySem.Spec PyProof.Rows L2
section
variable {X : Cx} {c : Ctx} {W : WX} {e : Expr} {m : ME}
end
end DL
/-! a list or None, or else another value -/
namespace DL
open PySem PySem.Spec PyProof.Rows L2
def orV (x : D) (S : Store) (r : Res) : Res := match x with
  | .non => r
  | .lst [] => r
  | .lst (d :: ds) => .ok (.lst (d :: ds)) S false
  | _ => .stuck
def eOrV (a b : ME) : ME := fun env S => (a env S).bind fun x S1 _ => orV x S1 (b env S1)
section
variable {X : Cx} {c : Ctx} {W : WX} {a b : Expr} {ma mb : ME} {pos : Pos}
end
section
variable {E : KE} {P : KV'} {env : Env'} {S : Store} {a b : ME}
@[simp] theorem ok_orV : Ok E (eOrV a b env S) P ↔ Ok E (a env S) fun x S1 _ => Ok E (orV x S1 (b env S1)) P := by
  unfold eOrV; rw [ok_bind]
end
end DL
namespace DL
open PySem PySem.Spec PyProof.Rows L2
/-! ### every second thing of a tuple: t[::2] -/
section
variable {prog : Program} {w : World} {A : Around} {E : Value → Shared → Prop} {s : Shared}
end
section
variable {X : Cx} {e : Expr} {te : TE} {lo hi st : Option Expr} {tl th tk : TO} {pos p2 : Pos}
end
section
variable {X : Cx} {c : Ctx} {W : WX} {a : Expr} {ma : ME} {pos p2 : Pos} {lo hi st : Option Expr} {ml mh mk : Option ME}
end
end DL
/-! d.get(None): a dict of texts and whole numbers has no such key -/
namespace DL
open PySem PySem.Spec PyProof.Rows L2
section
variable {P : Program} {w : PySem.World}
end
end DL
/-! zip of two lists, or of two tuples -/
namespace DL
open PySem PySem.Spec PyProof.Rows L2
section
variable {G : Gam} {H H1 H' : Hp} {pi pi1 pi' rho rho' : List Addr} {S S' : Store}
theorem tup_fits {v : V} {d : D} {items : List D} {gd : Option (Nat × List D)} (R : Rel G H pi rho S) (r : RV G H pi rho v d) (hw : wkOf d = .t) (e : itemsOf S d = some (items, gd)) :
    ∃ a, v = .ref a ∧ (∃ xs, SqT G.K H a xs) ∧ items.length ≤ sizeLine ∧ ∀ rho' H' pi' S', Rel G H' pi' rho' S' → Ext H pi rho H' pi' rho' → ∃ ws, SqT G.K H' a ws ∧ RVs G H' pi' rho' ws items := by
  cases r with
  | tup h z q =>
    cases e
    exact ⟨_, rfl, ⟨_, SqT.of h⟩, by rw [← q.length]; exact z, fun rho' H' pi' S' R' x => ⟨_, SqT.of (x.tup _ _ h), q.mono x⟩⟩
  | ktup h z q =>
    cases e
    exact ⟨_, rfl, ⟨_, .inr h⟩, by rw [← q.length]; exact z, fun rho' H' pi' S' R' x => ⟨_, .inr h, q.mono x⟩⟩
  | _ => cases hw
end
section
variable {X : Cx} {c : Ctx} {W : WX} {m : ME}
end
end DL
/-! x.split(sep); a statement that is never come to -/
namespace DL
open PySem PySem.Spec PyProof.Rows L2
theorem spl_mem {S : List Nat} : ∀ {k : Nat} {acc l p : List Nat} {c : Nat}, p ∈ TL.spl S k acc l → c ∈ p → c ∈ acc ∨ c ∈ l
  | k, acc, [], p, c, h, hc => by
    rw [TL.spl_nil, List.mem_singleton] at h
    subst h; exact .inl hc
  | k + 1, acc, a :: r, p, c, h, hc => by
    rcases spl_mem (show p ∈ TL.spl S k acc r from h) hc with h | h
    · exact .inl h
    · exact .inr (List.mem_cons_of_mem _ h)
  | 0, acc, a :: r, p, c, h, hc => by
    cases e : TL.pre S (a :: r) with
    | true =>
      rw [TL.spl_hit e] at h
      rcases List.mem_cons.mp h with rfl | h
      · exact .inl hc
      · rcases spl_mem h hc with h | h
        · cases h
        · exact .inr (List.mem_cons_of_mem _ h)
    | false =>
      rw [TL.spl_miss e] at h
      rcases spl_mem h hc with h | h
      · rcases List.mem_append.mp h with h | h
        · exact .inl h
        · rw [List.mem_singleton] at h; subst h; exact .inr List.mem_cons_self
      · exact .inr (List.mem_cons_of_mem _ h)
theorem strOk_split {a b : Str} (ha : PyData.strOk a = true) (hb : TL.tl b ≠ []) (hk : b.cps.all (· < 256) = true) : ∀ s ∈ Txt.split a b, PyData.strOk s = true := by
  intro s hs
  rw [strOk_tl]
  intro c hc
  have e := TL.split_spl a b hb (TL.kind_ok hk)
  have : TL.tl s ∈ TL.spl (TL.tl b) 0 [] (TL.tl a) := by rw [← e]; exact List.mem_map.mpr ⟨s, hs, rfl⟩
  rcases spl_mem this hc with h | h
  · cases h
  · exact strOk_tl.mp ha c h
def vSplit : D → List D → Store → Res
  | .str a, [.str b], S => if (b.length == 0) = false ∧ a.length + 2 ≤ 16777216 ∧ b.cps.all (· < 256) = true then .ok (.lst ((Txt.split a b).map D.str)) S true else .stuck
  | _, _, _ => .stuck
theorem vSplit_ok {G : Gam} : MtS G (fun x xs H Q => ∃ a b, x = .str a ∧ xs = [.str b] ∧ (b.length == 0) = false ∧ a.length + 2 ≤ sizeLine ∧ rNewStrs (Txt.split a b) H Q) vSplit := by
  intro W σ H pi rho S x xs dx ds Q R rx rs h
  unfold vSplit at h
  split at h
  · split at h
    · rename_i hz
      obtain ⟨h1, h2, h3⟩ := hz
      obtain ⟨y, rfl, ry⟩ := rs.one
      cases rx with | str ho =>
      cases ry with | str ho2 =>
      rename_i a b
      have hne : TL.tl b ≠ [] := fun e => by
        have : b.length = 0 := (TL.len0_tl b).mpr e
        rw [this] at h1; cases h1
      refine ⟨_, _, rfl, rfl, h1, by rw [sizeLine_eq]; exact h2, fun p hp => ?_⟩
      refine h.newL R (rv_strs (strOk_split ho hne h3)) ?_ hp
      rw [List.length_map]
      have := PyProof.Rows.split_le a b
      rw [sizeLine_eq]; omega
    · exact h.elim
  · exact h.elim
end DL
/-! t < u of two pairs of texts -/
namespace DL
open PySem PySem.Spec PyProof.Rows L2
end DL
/-! == of dicts with tuple keys, of flat values: alike ones -/
namespace PySem.W
open Lean Elab Tactic Meta PySem PySem.Calls PyProof.Rows PyProof.V PySem.Spec
section
variable {prog : Program} {w : World} {K : Type} [DecidableEq K] {knd : HeapKind prog w K} {A : Around} {E : Value → Shared → Prop} {s : Shared}
end
end PySem.W
namespace DL
open PySem PySem.Spec PyProof.Rows L2
section
variable {X : Cx}
end
end DL
/-! dicts with tuple keys: ==, values() of a locked one, walked -/
namespace DL
open PySem PySem.Spec PyProof.Rows L2
/-! ### values() of a locked dict with tuple keys -/
section
variable {P : Program} {w : World} {K : PySem.W.Frag} {tg : Expr} {d : Addr} {o : Obj} {es : Array DictEntry} {ep : Nat}
end
section
variable {X : Cx} {tg e : Expr} {td : TE} {apos cpos : Pos}
end
section
variable {X : Cx} {c : Ctx} {W : WX} {tg e : Expr} {m : ME}
end
end DL
/-! d.clear() of a dict with tuple keys -/
namespace DL
open PySem PySem.Spec PyProof.Rows L2
end DL
/-! str of a text or of a whole number; int of a text; range by a step -/
namespace DL
open PySem PySem.Spec PyProof.Rows L2
def vStrI : MF
  | [.int i], S => if i.natAbs.log2 < 1920 then .ok (.str (Str.ofString (toString i))) S false else .stuck
  | [.str z], S => .ok (.str z) S false
  | _, _ => .stuck
/-! ### range by a step of two -/
def rng2L (lo : Int) (n : Nat) : List D := (List.range n).map fun i => .int (lo + (i : Nat) * 2)
theorem walk_rngC {G : Gam} {H1 : Hp} {pi1 rho : List Addr} {lo : Int} {n : Nat} (hz : n ≤ 16777216) : WalkD G H1 pi1 rho (rng2L lo n) none (Itc lo 2 n) := by
  refine ⟨by simp [rng2L, sizeLine_eq, hz], fun rho' i H' pi' S' d R x g e => ?_, fun rho' i H' pi' S' R x g e => ?_⟩
  · unfold rng2L at e
    rw [List.getElem?_map] at e
    by_cases hi : i < n
    · rw [List.getElem?_range hi] at e
      cases e
      refine ⟨hi, fun y H'' hy => ?_⟩
      obtain ⟨rfl, rfl⟩ := hy
      exact ⟨R, .refl, .int _⟩
    · rw [List.getElem?_eq_none (by simpa using hi)] at e; cases e
  · have : n ≤ i := by simpa [rng2L] using e
    exact this
def fRng3 : List D → Store → IRes
  | [.int i, .int j, .int c], S1 => if c = 2 ∧ 0 ≤ i ∧ i ≤ 1000000 ∧ 0 ≤ j ∧ j ≤ 1000000 then .ok (rng2L i ((j - i + 1) / 2).toNat) none S1 else .stuck
  | _, _ => .stuck
theorem rgC2 {i j : Int} (h0 : 0 ≤ i) (h1 : i ≤ 1000000) (h2 : 0 ≤ j) (h3 : j ≤ 1000000) : RgC i j 2 ((j - i + 1) / 2).toNat := by
  have e : Builtin.Range.rangeSize i j 2 = if i < j then (j - i - 1) / 2 + 1 else 0 := by
    unfold Builtin.Range.rangeSize
    simp only [show (2 : Int) > 0 by decide, if_true]
  refine ⟨by decide, by decide, ?_, ?_⟩
  · unfold Builtin.Range.small
    rw [e]
    simp only [Builtin.Range.rangeFitsLong, Bool.and_eq_true, Bool.or_eq_true, decide_eq_true_eq, beq_iff_eq, show (2 : Int) > 0 by decide, if_true]
    split <;> omega
  · rw [e]
    split <;> omega
section
variable {X : Cx} {c : Ctx} {W : WX} {tg : Expr}
theorem di_range3 {a b d : Expr} {ma mb md : ME} {p pos : Pos} (hg : Gl X "range") (hm : X.mg "range" = none) (ha : DA X c W [a, b, d] [ma, mb, md])
    (hs : starEach [a, b, d] X.env = (false, eval a X.env) :: starEach [b, d] X.env := by rfl) (hpl : (backTo pos (starEach [b, d] X.env)).any (·.1) = false := by rfl) :
    DI X c W tg (.Call (.Name "range" p) [a, b, d] [] pos) (iArg fRng3 [ma, mb, md]) := by
  refine ⟨_, pi_range3 hg hm ha hs hpl, fun {σ H pi rho S env RR} R N h => ?_⟩
  refine tDA.bindI R N h fun vs H1 ds pi1 S1 R1 r g h => ?_
  match ds, r, h with
  | [.int i, .int j, .int k], r, h =>
    unfold fRng3 at h
    simp only at h
    split at h
    · rename_i hj
      obtain ⟨rfl, h0, h1, h2, h3⟩ := hj
      cases r with
      | cons r1 r =>
        cases r with
        | cons r2 r =>
          cases r with
          | cons r3 r =>
            cases r
            cases r1; cases r2; cases r3
            exact ⟨i, j, 2, _, rfl, rgC2 h0 h1 h2 h3, h H1 pi1 _ R1 g (walk_rngC (by omega))⟩
    · exact h.elim
end
end DL
/-! an own error class whose __init__ keeps a whole number as its line: made and raised; caught; read. -/
namespace DL
open PySem PySem.Spec PyProof.Rows L2

/-- what is told of such a class, C, over another own class, B -/
structure XC (K : PySem.W.Frag) (C B : Addr) : Prop where
  oex : OexC K C
  xf : XfC K C
  no : PySem.W.findIn K (.ref C) "line" = some none
  gB : PySem.W.specialIn K (.ref B) "__getattribute__" = some (some (.builtin "type.__getattribute__"))
  rB : PySem.W.readsIn K B (.type "type") = true
  vB : PySem.W.findCls K (.ref B) (.type "type") "__init__" = some (.val (.builtin "ValueError.__init__"))

section
variable {X : Cx} {e : Expr} {es : List Expr} {ta : TA} {p p1 p2 pos : Pos}
/-- B.__init__(self, ..), B an own class that has it from ValueError -/
theorem pe_teinit {C B : Addr} {x : Str} {pl : Sem Bool} (T : XC X.K C B) (hg : Gl X x) (hm : X.mg x = some (.ref B)) (ha : PA X (e :: es) ta)
    (hdb : (x == ("__debug__" : Str)) = false := by decide)
    (hc : eval (.Call (.Attribute (.Name x p1) "__init__" p2) (e :: es) [] pos) X.env = (do
      let ov ← eval (.Name x p1) X.env
      standAt p2.atName
      let (f, first) ← holding [ov] (getMethod ov "__init__" pl)
      callWith pos f first (backTo pos (starEach (e :: es) X.env)) (backToKw pos (keywordEach [] X.env))) := by rfl)
    (he : starEach (e :: es) X.env = (false, eval e X.env) :: starEach es X.env := by rfl) (hpl : (backTo pos (starEach es X.env)).any (·.1) = false := by rfl) :
    PE X (.Call (.Attribute (.Name x p1) "__init__" p2) (e :: es) [] pos) (tVeI X.K ta) := by
  refine ⟨fun pins s σ H Q I h => PySem.W.methodCall_KW (ld_glob I hg hm ?_ hdb) hc⟩
  refine PySem.W.method_cls I.kIn T.gB (PySem.W.cls_value I.kIn T.rB T.vB (by decide +kernel) ?_)
  refine PyProof.Rows.callWith_method1 (thn (ha.run pos pins _ σ H _ (I.tok _) h) fun us s1 hh => ?_) he hpl
  obtain ⟨vs, H1, I1, r1, a, D, ws, ev, hl, TD, ea, q⟩ := hh
  subst ev
  obtain ⟨u0, ur, rfl⟩ : ∃ u0 ur, us = u0 :: ur := by cases r1 with | cons a b => exact ⟨_, _, rfl⟩
  obtain ⟨ra, rr⟩ : RelV (V.ref a) u0 ∧ Vals ws ur := by cases r1 with | cons a b => exact ⟨a, b⟩
  obtain rfl : u0 = Value.ref a := ra
  exact oinit_ok TD I1 ea (by rw [← Paired.length rr, sizeLine_eq]; omega) fun s' J => ⟨.non, H1, J, rfl, q⟩
end
/-- what its __init__ leaves: the error's dict with its line -/
def spXI (C : Addr) : Sp := fun vs H Q _ => ∃ (a : Addr) (i : Int), vs = [.ref a, .int i] ∧ H a = some (exo a C none) ∧ ∀ dx, H dx = none → dx ≠ a → Q .non (upd (upd H dx (exd dx [("line", .int i)])) a (exo a C (some dx)))
section
variable {P : Program} {w : World} {K : PySem.W.Frag} {mg : Str → Option Value} {base : Heap} {cl : Nat → Addr}
theorem xinit_ok {x qual m : Str} {st : Stmt} {f C B : Addr} {fd : FuncData} {k : Nat} (F : Fun K x qual st f fd) (S : scBool ["self", "line"] ["self", "line"] (defScope st) = true) (T : XC K C B)
    (hb : ∀ (cdv : Value) (A : Around) (outer : List Env) (s : Shared) (H : Hp) (E : XK),
      PSs (cxOf (L2N.CX P w) P w K mg base ["self", "line"] qual (defScope st) f cdv A outer s H E) (defBody st) (tSeq (tDrop (tVeI K (tCons (tVar 0) (tCons (tC (.str m)) tNil)))) (tOst K "line" (tVar 0) (tVar 1)))) :
    FnOk P w K mg base (L2N.CX P w) (k + 1) f fd ["self", "line"] (spXI C) := by
  refine fun_n F (scB S) (fun vs H Q E h => ?_) (fun cdv A outer s H vs Q E hr h => ⟨_, hb cdv A outer s H E, ?_⟩)
  · obtain ⟨a, i, rfl, _⟩ := h
    rfl
  · obtain ⟨a, i, rfl, ha, q⟩ := h
    exact ⟨_, rfl, a, C, [.str m], rfl, Nat.le_of_ble_eq_true rfl, T.oex, ha, _, rfl, _, rfl, a, C, rfl, T.oex, T.no, .inl ⟨ha, fun dx n ne => q dx n ne⟩⟩
/-- such a class and its __init__, by at most level k -/
structure XInit (P : Program) (w : World) (K : PySem.W.Frag) (mg : Str → Option Value) (base : Heap) (cl : Nat → Addr) (k : Nat) (x : Str) (cn : Nat) : Prop where
  g : mg x = some (.ref (cl cn))
  oex : OexC K (cl cn)
  init : ∃ f fd, FnOk P w K mg base (L2N.CX P w) k f fd ["self", "line"] (spXI (cl cn)) ∧ PySem.W.findIn K (.ref (cl cn)) "__init__" = some (some (.ref f)) ∧ PySem.W.typeIn K (.ref f) = some (.type "function") ∧ Binds K fd ["self", "line"] []
end
def oneV (R : VK) : List V → Hp → Prop := fun vs H => match vs with
  | [v] => R v H
  | _ => False
theorem oneV_ok {R : VK} {H : Hp} : ∀ {vs : List V}, oneV R vs H → ∃ v, vs = [v] ∧ R v H
  | [v], h => ⟨v, rfl, h⟩
  | [], h => h.elim
  | _ :: _ :: _, h => h.elim
section
variable {X : Cx} {e : Expr} {te : TE} {p pos pos2 : Pos}
/-- x(e): the error is made, its dict stands behind it -/
theorem pmk_line {cl : Nat → Addr} {k : Nat} {x : Str} {cn : Nat} (T : XInit X.prog X.w X.K X.mg X.base cl k x cn) (hr : Room (k + 1) X.A) (hg : Gl X x) (he : PE X e te) (hdb : (x == ("__debug__" : Str)) = false := by decide) (hs : starEach [e] X.env = (false, eval e X.env) :: starEach [] X.env := by rfl) :
    L2N.PMk X (.Call (.Name x p) [e] [] pos) (fun σ H Q => te σ H fun v H1 => ∃ i, v = .int i ∧ ∀ d, H1 d = none → Q (.ref (cl cn)) (some d) (upd H1 d (.xd [("line", .int i)]))) := by
  intro pins s σ H Q I h
  obtain ⟨hm, oex, fI, fd, F1, iC, tI, hb⟩ := T
  obtain ⟨nm, q, N, bs, bm, sn, sub, ab, col, dd, k0, k1, k2, k3, k5, hC, hbm⟩ := oex.cls
  refine wpAny_Call_Name_kw (ld_glob I hg hm ?_ hdb)
  refine PySem.W.callWith_K (h₀ := X.base) I.ok.mod.kin oex.kC (thn ((pa_cons he pa_nil hs).run pos pins s σ H (oneV fun v H1 => ∃ i, v = .int i ∧ ∀ d, H1 d = none → Q (.ref (cl cn)) (some d) (upd H1 d (.xd [("line", .int i)]))) I h) fun us s1 hh => ?_) hs rfl
  obtain ⟨vs, H1, I1, r1, h1⟩ := hh
  obtain ⟨v, rfl, i, rfl, q1⟩ := oneV_ok h1
  refine ⟨I1.kIn, ?_⟩
  show wpAny _ _ (call (.ref (cl cn)) us) _ _ _
  obtain ⟨hp, gs, dr, tk, os⟩ := s1
  have hsz : hp.objs.size ≤ hp.objs.size + 1 := Nat.le_succ _
  have hn : H1 (hp.objs.size + 1) = none := I1.hok.fresh hsz
  have kk : ∀ b o, hp.get? b = some o → ((hp.push (PySem.W.kdv_tup us)).push (PySem.HandSPX.excO (cl cn) hp.objs.size)).get? b = some o := fun b o z => Heap.get?_push_of_some _ (Heap.get?_push_of_some _ z)
  have hget : ((hp.push (PySem.W.kdv_tup us)).push (PySem.HandSPX.excO (cl cn) hp.objs.size)).get? (hp.objs.size + 1) = some (PySem.HandSPX.excO (cl cn) hp.objs.size) := by heap_get
  have I2 := I1.laid (t' := tk) (o := exo (hp.objs.size + 1) (cl cn) none) kk hsz (exo_ok hget)
  have r2 : Vals [V.ref (hp.objs.size + 1), V.int i] (Value.ref (hp.objs.size + 1) :: us) := .cons rfl r1
  have hus : us.length ≤ sizeLine := by rw [← Paired.length r1, sizeLine_eq]; exact Nat.le_of_ble_eq_true rfl
  have hl : (Value.ref (hp.objs.size + 1) :: us ++ []).length = ["self", "line"].length := by rw [List.append_nil]; exact r2.length.symm
  have b2 := hb _ (Value.ref (hp.objs.size + 1) :: us) I2.kIn hl
  rw [List.append_nil] at b2
  have hq : spXI (cl cn) [V.ref (hp.objs.size + 1), V.int i] (upd H1 (hp.objs.size + 1) (exo (hp.objs.size + 1) (cl cn) none))
      (fun v H2 => v = .non ∧ ∃ dx, H1 dx = none ∧ dx ≠ hp.objs.size + 1 ∧ H2 = upd (upd (upd H1 (hp.objs.size + 1) (exo (hp.objs.size + 1) (cl cn) none)) dx (exd dx [("line", .int i)])) (hp.objs.size + 1) (exo (hp.objs.size + 1) (cl cn) (some dx))) (fun _ _ _ => False) :=
    ⟨_, i, rfl, upd_same, fun dx n ne => ⟨rfl, dx, by rw [upd_ne ne] at n; exact n, ne, rfl⟩⟩
  refine wpAny_call (PySem.HandSPX.call_own F.excBase_ValueError (fun Y => PySem.HandSPX.refsVE_contains Y bm hbm) (I1.kIn _ _ hC) (PySem.W.looks_findIn I1.kIn iC) (fun self => PySem.W.bind_fn I1.kIn self tI) hus
    (codeAny_mono (F1.run _ X.stack _ _ ⟨Value.ref (hp.objs.size + 1) :: us, []⟩ _ _ _ _ (hr.make (cl cn) us []) (I2.env0.make (cl cn) us []) b2 r2 hq) fun r s' hq' => ?_))
  cases r with
  | error er =>
    obtain ⟨_, _, _, _, _, _, _, _, _, _, _, _, z⟩ := hq'
    exact z.elim
  | ok fl =>
    cases fl with
    | ret u =>
      obtain ⟨v, H2, os2, bare2, un2, hok2, rv, ev, dx, nx, ne, eH⟩ := hq'
      subst ev
      have ea : H2 (hp.objs.size + 1) = some (exo (hp.objs.size + 1) (cl cn) (some dx)) := by rw [eH, upd_same]
      have ed : H2 dx = some (exd dx [("line", .int i)]) := by rw [eH, upd_ne ne, upd_same]
      obtain ⟨h2, g2, d2, t2, os'⟩ := s'
      obtain ⟨t0, G, J, kG, ge, hoe, na⟩ := mk_end0 (d2 := d2) (t2 := t2) I1 hsz kk un2 hok2 os2 bare2 ea ed nx
      have eF : upd (del H2 (hp.objs.size + 1)) dx (.xd [("line", .int i)]) = upd H1 dx (.xd [("line", .int i)]) := by
        funext b
        by_cases hb1 : b = dx
        · subst hb1; rw [upd_same, upd_same]
        · rw [upd_ne hb1, upd_ne hb1]
          by_cases hb2 : b = hp.objs.size + 1
          · subst hb2; rw [del_same, hn]
          · rw [del_ne hb2, eH, upd_ne hb2, upd_ne hb1, upd_ne hb2]
      rw [eF] at J na
      exact ⟨rv, hp.objs.size + 1, _, _, ⟨G, g2, d2, t2, os'⟩, _, .ref (cl cn), some dx, rfl, J, kG, ge, hoe, ⟨rfl, rfl, fun vs hv => by cases hv; rfl⟩, rfl, rfl, na, rfl, bare2, raises_own oex.exC oex.tyC, q1 dx nx⟩
    | next => exact False.elim hq'
    | brk => exact False.elim hq'
    | cont => exact False.elim hq'
end
/-- raise x(e) -/
def sRaiseF (cn : Nat) (m : ME) : MS := fun env S => match m env S with
  | .ok (.int i) S1 _ => .exc ⟨cn, some i⟩ env S1
  | _ => .stuck
section
variable {X : Cx} {c : Ctx} {W : WX} {e : Expr} {m : ME} {p pos pos2 : Pos}
theorem ds_raiseF {k j : Nat} {x : Str} {cn : Nat} (T : XInit X.prog X.w X.K X.mg X.base c.1 k x cn) (hr : Room j X.A) (hk : k + 1 ≤ j) (hc : X.calm = true) (tk : L2N.Takes X W) (he : DE X c W e m) (hg : Gl X x := by rfl) (hdb : (x == ("__debug__" : Str)) = false := by decide) (hs : starEach [e] X.env = (false, eval e X.env) :: starEach [] X.env := by rfl) :
    DS X c W (.Raise (some (.Call (.Name x p) [e] [] pos)) none pos2) (sRaiseF cn m) := by
  refine PS_weak (L2N.ps_raise hc tk (pmk_line T (hr.mono hk) hg he hdb hs)) fun D σ H ⟨pi, rho, S, env, R, N, h⟩ => ⟨pi, rho, S, env, R, N, ?_⟩
  unfold sRaiseF at h
  cases em : m env S with
  | stuck => rw [em] at h; exact h.elim
  | exc x S1 => rw [em] at h; exact h.elim
  | ok d S1 fr =>
    rw [em] at h
    cases d with
    | int i =>
      intro v H1 pi1 R1 r1 g1 f1
      cases r1
      refine ⟨i, rfl, fun dx hn => ?_⟩
      exact h σ _ (some dx) _ pi1 (R1.new hn) (N.mono (g1.trans (Go.new hn)).x) (g1.trans (Go.new hn)) ⟨rfl, dx, rfl, upd_same, R1.freeR hn⟩
    | _ => exact h.elim
end
/-! ### except C as n, whatever the error bears -/
section
variable {X : Cx} {cl : Nat → Addr} {W : WX} {root m : Nat} {ex : List Nat} {x n : Str} {body suite : List Stmt} {b₀ : Stmt} {np pos pos' : Pos} {ma mb : MS}
end
/-! ### its line, read -/
section
variable {X : Cx} {cl : Nat → Addr} {W : WX} {a : Addr} {e : Exc} {pos q : Pos} {n : Str}
end
end DL
namespace DL
open PySem PySem.Spec PyProof.Rows L2
theorem mkX (P : Program) {w : World} {K : PySem.W.Frag} {mg : Str → Option Value} (base : Heap) {cl : Nat → Addr} (cn : Nat) (x : Str) {k : Nat} {f B : Addr} {fd : FuncData} (o : FnOk P w K mg base (L2N.CX P w) k f fd ["self", "line"] (spXI (cl cn)))
    (hm : Meth K (cl cn) "__init__" f) (T : XC K (cl cn) B) (e : mg x = some (.ref (cl cn))) (hb : Binds K fd ["self", "line"] []) : XInit P w K mg base cl k x cn :=
  ⟨e, T.oex, f, fd, o, hm.at_, beq_iff_eq.mp hm.fn, hb⟩
end DL
/-! xs.insert(i, y) -/
namespace DL
open PySem PySem.Spec PyProof.Rows L2
end DL
/-! a >= b of texts; t <= u of two pairs of texts -/
namespace DL
open PySem PySem.Spec PyProof.Rows L2
end DL
/-! errors made and not raised, as values -/
namespace DL
open PySem PySem.Spec PyProof.Rows L2
section
variable {X : Cx} {c : Ctx} {W : WX} {e : Expr} {me : ME} {p pos : Pos}
end
end DL
/-! zip of a list, a tuple or a text with another one, in any mix -/
namespace DL
open PySem PySem.Spec PyProof.Rows L2
/-- what is zipped -/
inductive Zs where
  | l (a : Addr) | t (a : Addr) | s (z : Str)
def Zs.v : Zs → V
  | .l a => .ref a
  | .t a => .ref a
  | .s z => .str z
def Zs.cells : Zs → List Addr
  | .l a => [a]
  | .t a => [a]
  | .s _ => []
def chV (z : Str) : List V := z.cps.toList.map fun c => V.str ⟨#[c]⟩
def Zs.has (K : PySem.W.Frag) (H : Hp) : Zs → List V → Prop
  | .l a, xs => SqL K H a xs
  | .t a, xs => SqT K H a xs
  | .s z, xs => xs = chV z
def Zs.itr (it : Addr) (i : Nat) (h : Heap) : Zs → Prop
  | .l a => h.IsListIter it a i
  | .t a => h.IsTupleIter it a i
  | .s z => ∃ t, h.IsStrIter it (strIterType z) z t i
theorem Zs.itr_obj {it : Addr} {i : Nat} {h : Heap} : ∀ {r : Zs}, r.itr it i h → ∃ o, h.get? it = some o ∧ ∀ v, o.data ≠ .cell v
  | .l a, ⟨o, e, _, d⟩ => ⟨o, e, fun v q => by rw [d] at q; cases q⟩
  | .t a, ⟨o, e, _, d⟩ => ⟨o, e, fun v q => by rw [d] at q; cases q⟩
  | .s z, ⟨u, o, e, _, d⟩ => ⟨o, e, fun v q => by rw [d] at q; cases q⟩
theorem Zs.itr_at {it : Addr} {i : Nat} {h h' : Heap} (k : ∀ o, h.get? it = some o → h'.get? it = some o) : ∀ {r : Zs}, r.itr it i h → r.itr it i h'
  | .l a, ⟨o, e, c, d⟩ => ⟨o, k o e, c, d⟩
  | .t a, ⟨o, e, c, d⟩ => ⟨o, k o e, c, d⟩
  | .s z, ⟨u, o, e, c, d⟩ => ⟨u, o, k o e, c, d⟩
theorem vals_back : ∀ {xs : List V} {us : List Value} {j : Nat} {u : Value}, Vals xs us → us[j]? = some u → ∃ x, xs[j]? = some x ∧ RelV x u
  | _, _, j, _, .nil, e => by simp at e
  | _, _, 0, _, .cons h _, e => by simp at e; subst e; exact ⟨_, rfl, h⟩
  | _, _, j + 1, u, .cons _ r, e => by
    obtain ⟨x, h1, h2⟩ := vals_back (j := j) (u := u) r (by simpa using e)
    exact ⟨x, by simpa using h1, h2⟩
section
variable {X : Cx} {pins : List (Addr × Obj)} {σ : L2.St} {H : Hp} {s : Shared}
theorem Zs.inj (I : Inv X pins σ H s) : ∀ (r : Zs) {xs ys : List V}, r.has X.K H xs → r.has X.K H ys → xs = ys
  | .l a, _, _, h, h' => I.list_inj h h'
  | .t a, _, _, h, h' => I.tuple_inj h h'
  | .s z, _, _, h, h' => by rw [show _ = chV z from h, show _ = chV z from h']
theorem Zs.draws (hc : X.calm = true) (I : Inv X pins σ H s) {it : Addr} {i : Nat} : ∀ (r : Zs) {xs : List V}, r.has X.K H xs → (∀ c ∈ r.cells, c ≠ it) → r.itr it i s.heap →
    ∃ (Pz : Nat → Value → Prop) (Sz : Nat → Heap → Prop), Draws X.prog X.w X.A.in1 it (it :: r.cells) xs.length Pz Sz ∧ Sz i s.heap ∧ (∀ j v, Pz j v → ∃ x, xs[j]? = some x ∧ RelV x v) ∧ ∀ j h, Sz j h → r.itr it j h
  | .l a, xs, h, ne, st => by
    obtain ⟨its, rv, p, _⟩ := I.list h
    have el : xs.length = its.toArray.size := by simpa using rv.length
    rw [el]
    exact ⟨_, _, Draws.list (A := X.A.in1) (I.ok.hd hc) it a (ne a (by simp [Zs.cells])) its.toArray, ⟨st, p.isList⟩, fun j v e => vals_back rv (by simpa using e), fun j h q => q.1⟩
  | .t a, xs, h, ne, st => by
    obtain ⟨its, rv, p, _⟩ := I.tuple h
    have el : xs.length = its.toArray.size := by simpa using rv.length
    rw [el]
    exact ⟨_, _, Draws.tuple (A := X.A.in1) (I.ok.hd hc) it a (ne a (by simp [Zs.cells])) its.toArray, ⟨st, p⟩, fun j v e => vals_back rv (by simpa using e), fun j h q => q.1⟩
  | .s z, xs, h, ne, st => by
    obtain ⟨t, st⟩ := st
    have h : xs = chV z := h
    subst h
    have el : (chV z).length = z.cps.size := by simp [chV]
    rw [el]
    refine ⟨_, _, Draws.text (A := X.A.in1) (I.ok.hd hc) it z t, st, fun j v e => ?_, fun j h q => ⟨t, q⟩⟩
    obtain ⟨c, u, ec, rfl⟩ := e
    refine ⟨.str ⟨#[c]⟩, ?_, ⟨u, rfl⟩⟩
    unfold chV
    rw [List.getElem?_map]
    have : z.cps.toList[j]? = some c := by simpa using ec
    rw [this]; rfl
/-- iter(..) of it -/
theorem Zs.begins (I : Inv X pins σ H s) {u : Value} : ∀ (r : Zs) {xs : List V}, r.has X.K H xs → RelV r.v u →
    ∃ (o : Obj) (Hb : Heap → Prop), Begins u o Hb ∧ Hb s.heap ∧ (∀ h it, h.get? it = some o → r.itr it 0 h) ∧ ∀ c ∈ r.cells, c < s.heap.objs.size
  | .l a, xs, h, ru => by
    obtain rfl : u = Value.ref a := ru
    obtain ⟨its, rv, p, _⟩ := I.list h
    exact ⟨_, _, begins_list a its.toArray, p.isList, fun h it e => ⟨_, e, rfl, rfl⟩, fun c hc => by simp only [Zs.cells, List.mem_singleton] at hc; subst hc; exact p.lt⟩
  | .t a, xs, h, ru => by
    obtain rfl : u = Value.ref a := ru
    obtain ⟨its, rv, p, _⟩ := I.tuple h
    obtain ⟨o, ho, _⟩ := id p
    exact ⟨_, _, begins_tuple a its.toArray, p, fun h it e => ⟨_, e, rfl, rfl⟩, fun c hc => by simp only [Zs.cells, List.mem_singleton] at hc; subst hc; exact Heap.lt_size ho⟩
  | .s z, xs, h, ru => by
    obtain ⟨t, rfl⟩ : ∃ t, u = Value.str z t := ru
    exact ⟨_, _, begins_text z t, trivial, fun h it e => ⟨t, _, e, rfl, rfl⟩, fun c hc => by simp [Zs.cells] at hc⟩
end
/-- the walk over both: pairs made anew; as many things as there were at the start -/
def ItzM (K : PySem.W.Frag) (r1 r2 : Zs) (n1 n2 : Nat) : It :=
  ⟨fun i H => ∃ (xs ys : List V) (x y : V), (r1.has K H xs ∧ xs.length = n1) ∧ (r2.has K H ys ∧ ys.length = n2) ∧ xs[i]? = some x ∧ ys[i]? = some y,
   fun i H v H' => ∃ (T : Addr) (x y : V), v = .ref T ∧ H T = none ∧ H' = upd H T (.tup [x, y]) ∧ (∀ xs, r1.has K H xs → xs[i]? = some x) ∧ (∀ ys, r2.has K H ys → ys[i]? = some y),
   fun i H => ∃ xs ys : List V, (r1.has K H xs ∧ xs.length = n1) ∧ (r2.has K H ys ∧ ys.length = n2) ∧ (n1 ≤ i ∨ n2 ≤ i)⟩
theorem five_mem {Q : Addr → Prop} {z a b c d : Addr} (h1 : Q z) (h2 : Q a) (h3 : Q b) (h4 : Q c) (h5 : Q d) : ∀ x ∈ [z, a, b, c, d], Q x := fun x hx => by
  rcases List.mem_cons.mp hx with e | hx
  · rw [e]; exact h1
  rcases List.mem_cons.mp hx with e | hx
  · rw [e]; exact h2
  rcases List.mem_cons.mp hx with e | hx
  · rw [e]; exact h3
  rcases List.mem_cons.mp hx with e | hx
  · rw [e]; exact h4
  rcases List.mem_cons.mp hx with e | hx
  · rw [e]; exact h5
  · cases hx
theorem turn_zipM {P : Program} {w : World} {K : PySem.W.Frag} {elts : List Expr} {kk : Nat} {tpos : Pos} {r1 r2 : Zs} {z TI TO i1 i2 : Addr} {n1 n2 : Nat} (D : ZipSep2 z TI TO i1 i2 (i1 :: r1.cells) (i2 :: r2.cells))
    (c1 : ∀ c ∈ r1.cells, c ≠ i1) (c2 : ∀ c ∈ r2.cells, c ≠ i2) :
    Turn P w K (.Tuple elts kk tpos) (ItzM K r1 r2 n1 n2) [z, TI, TO, i1, i2] z (fun i h => IsZip h z TI TO .none ∧ IsTupOf2 h TI (.ref i1) (.ref i2) ∧ (∃ x y, IsTupOf2 h TO x y) ∧ (r1.itr i1 i h ∧ r2.itr i2 i h) ∧ i ≤ n1 ∧ i ≤ n2) where
  mem := by simp
  obj := fun i h ⟨hz, hI, ⟨x, y, hO⟩, ⟨q1, q2⟩, _⟩ => five_mem ⟨_, hz, fun v q => nomatch q⟩ ⟨_, hI, fun v q => nomatch q⟩ ⟨_, hO, fun v q => nomatch q⟩ (Zs.itr_obj q1) (Zs.itr_obj q2)
  keep := fun i h h' ⟨hz, hI, ⟨x, y, hO⟩, ⟨q1, q2⟩, b⟩ k => ⟨k z (by simp) _ hz, k TI (by simp) _ hI, ⟨x, y, k TO (by simp) _ hO⟩, ⟨Zs.itr_at (k i1 (by simp)) q1, Zs.itr_at (k i2 (by simp)) q2⟩, b⟩
  item := by
    intro X eP ew eK hc i pins s σ H E I hf st go
    subst eP ew eK
    obtain ⟨hz, hI, ⟨a0, b0, hO⟩, ⟨q1, q2⟩, l1, l2⟩ := st
    obtain ⟨xs, ys, x, y, ⟨hx, ex⟩, ⟨hy, ey⟩, gx, gy⟩ := go
    obtain ⟨P1, S1, D1, s1, k1, b1⟩ := Zs.draws hc I r1 hx c1 q1
    obtain ⟨P2, S2, D2, s2, k2, b2⟩ := Zs.draws hc I r2 hy c2 q2
    have m1 : i < xs.length := (List.getElem?_eq_some_iff.mp gx).1
    have m2 : i < ys.length := (List.getElem?_eq_some_iff.mp gy).1
    have below : z < s.heap.objs.size := Heap.lt_size hz
    refine wpAny_pyNext_zipD2_item D D1 D2 hz hI hO s1 s2 m1 m2 fun u1 u2 h' tk p1 p2 hz' hO' t1 t2 hT hs hk => ⟨_, rfl, wpAny_letOwnedTupleGo_zip (s := { s with heap := h', toks := tk }) hz' fun h2 hz2 sb => ?_⟩
    obtain ⟨x1, f1, v1⟩ := k1 _ _ p1
    obtain ⟨y1, f2, v2⟩ := k2 _ _ p2
    rw [gx] at f1; rw [gy] at f2
    cases f1; cases f2
    have sb' : ∀ c o, c ≠ z → h'.get? c = some o → h2.get? c = some o := fun c o n e => (sb.2 c n).trans e
    have hT2 : h2.get? s.heap.objs.size = some { cls := .type "tuple", data := .seq #[u1, u2] } := sb' _ _ (Nat.ne_of_gt below) hT
    have ok : ObjOk X.prog X.w (upd H s.heap.objs.size (.tup [x, y])) h2 s.heap.objs.size (.tup [x, y]) := ⟨by show 2 ≤ sizeLine; decide, [u1, u2], .cons v1 (.cons v2 .nil), ⟨_, hT2, rfl, _, rfl⟩⟩
    have J : Inv X pins σ (upd H s.heap.objs.size (.tup [x, y])) { s with heap := h2, toks := tk } := I.turnedNew (ch := [z, TI, TO, i1, i2]) (fun c o n e => by
      simp only [List.mem_cons, List.not_mem_nil, or_false, not_or] at n
      exact sb' c o n.1 (hk c o n.1 n.2.2.1 n.2.2.2.1 n.2.2.2.2 e)) hf (Nat.le_refl _) ok
    have nz1 : i1 ≠ z := fun e => D.zf1 (e ▸ D.mem1)
    have nz2 : i2 ≠ z := fun e => D.zf2 (e ▸ D.mem2)
    have nI1 : TI ≠ TO := D.TITO
    refine ⟨.ref s.heap.objs.size, _, J, rfl, ⟨_, x, y, rfl, I.hok.fresh (Nat.le_refl _), rfl, fun l e => by rw [Zs.inj I r1 e hx]; exact gx, fun l e => by rw [Zs.inj I r2 e hy]; exact gy⟩,
      ⟨hz2, sb' _ _ D.TIz (hk _ _ D.TIz D.TITO D.TIi1 D.TIi2 hI), ⟨u1, u2, sb' _ _ D.TOz hO'⟩, ⟨Zs.itr_at (fun o e => sb' _ o nz1 e) (b1 _ _ t1), Zs.itr_at (fun o e => sb' _ o nz2 e) (b2 _ _ t2)⟩, by omega, by omega⟩, fun c hm => ?_⟩
    have live : c < s.heap.objs.size := by
      revert c
      exact five_mem below (Heap.lt_size hI) (Heap.lt_size hO) (Heap.lt_size (Zs.itr_obj q1).choose_spec.1) (Heap.lt_size (Zs.itr_obj q2).choose_spec.1)
    rw [upd_ne (Nat.ne_of_lt live)]
    exact (hf c hm).1
  done := by
    intro X eP ew eK hc i pins s σ H E I hf st stop
    subst eP ew eK
    obtain ⟨hz, hI, ⟨a0, b0, hO⟩, ⟨q1, q2⟩, l1, l2⟩ := st
    obtain ⟨xs, ys, ⟨hx, ex⟩, ⟨hy, ey⟩, fin⟩ := stop
    obtain ⟨P1, S1, D1, s1, k1, b1⟩ := Zs.draws hc I r1 hx c1 q1
    obtain ⟨P2, S2, D2, s2, k2, b2⟩ := Zs.draws hc I r2 hy c2 q2
    refine wpAny_pyNext_zipD2_end D D1 D2 hz hI hO s1 s2 (by omega) (by omega) (by omega) fun h' tk hk => ⟨rfl, I.turnedL (ch := [z, TI, TO, i1, i2]) (fun c o n e => ?_) hf⟩
    simp only [List.mem_cons, List.not_mem_nil, or_false, not_or] at n
    exact hk c o n.1 n.2.2.1 n.2.2.2.1 n.2.2.2.2 e
  self := fun A i s Q E st h => wpAny_pyIter_zip st.1 h
def iZipM (K : PySem.W.Frag) (ta : TA) : TI := fun σ H R => ta σ H fun vs H1 => ∃ (r1 r2 : Zs) (xs ys : List V), vs = [r1.v, r2.v] ∧ r1.has K H1 xs ∧ r2.has K H1 ys ∧ R (ItzM K r1 r2 xs.length ys.length) H1
theorem pi_zipM {X : Cx} {e e2 : Expr} {ta : TA} {p pos tpos : Pos} {elts : List Expr} {kk : Nat} (hg : Gl X "zip") (hm : X.mg "zip" = none) (ha : PA X [e, e2] ta)
    (hs : starEach [e, e2] X.env = (false, eval e X.env) :: starEach [e2] X.env := by rfl) (hpl : (backTo pos (starEach [e2] X.env)).any (·.1) = false := by rfl) : PI X (.Tuple elts kk tpos) (.Call (.Name "zip" p) [e, e2] [] pos) (iZipM X.K ta) := by
  constructor
  intro pins s σ H R I h
  refine Call_ (ld_blt I hg hm PyProof.Rows.boot_zip (PyProof.Rows.callWith_type1 (thn (ha.run pos pins s σ H _ I h) ?_) hs hpl))
  rintro us s1 ⟨vs, H1, I1, rr, r1, r2, xs, ys, rfl, hx, hy, q⟩
  obtain ⟨u1, u2, rfl, v1, v2⟩ := vals2 rr
  obtain ⟨o1, B1, g1, m1, f1, l1⟩ := Zs.begins I1 r1 hx v1
  obtain ⟨o2, B2, g2, m2, f2, l2⟩ := Zs.begins I1 r2 hy v2
  refine zip_begins2 g1 g2 m1 m2 fun h' hz hI hO e1 e2 hsz hk => wpAny_pyIter_zip hz ?_
  have J : Inv X pins σ H1 { s1 with heap := h' } := I1.kept (t' := s1.toks) hk
  have new : ∀ k, FpOk X pins H1 (s1.heap.objs.size + k) := fun k => I1.fpOk (Nat.le_add_right _ _) (I1.hok.fresh (Nat.le_add_right _ _))
  exact ⟨_, [s1.heap.objs.size + 4, s1.heap.objs.size + 2, s1.heap.objs.size + 3, s1.heap.objs.size, s1.heap.objs.size + 1], _, _, H1, rfl, J, turn_zipM (zip_sep2 l1 l2) (fun c hc => Nat.ne_of_lt (l1 c hc)) (fun c hc => Nat.ne_of_lt (Nat.lt_succ_of_lt (l2 c hc))),
    ⟨hz, hI, ⟨_, _, hO⟩, ⟨f1 _ _ e1, f2 _ _ e2⟩, Nat.zero_le _, Nat.zero_le _⟩, five_mem (new 4) (new 2) (new 3) (new 0) (new 1), q⟩
/-! ### in D -/
def fZipM : List D → Store → IRes
  | [x, y], S => (match itemsOf S x, itemsOf S y with
    | some (xs, g), some (ys, g') => (match gdBoth g g' with
      | some gg => .ok (zipD xs ys) gg S
      | none => .stuck)
    | _, _ => .stuck)
  | _, _ => .stuck
section
variable {G : Gam} {H H1 H' : Hp} {pi pi1 pi' rho rho1 rho' : List Addr} {S S' : Store}
theorem ch_rv {z : Str} (ho : PyData.strOk z = true) : RVs G H pi rho (chV z) (z.cps.toList.map fun c => D.str ⟨#[c]⟩) := by
  have h := strOk_mem ho
  unfold chV
  revert h
  generalize z.cps.toList = cs
  intro h
  induction cs with
  | nil => exact .nil
  | cons c r ih =>
    refine .cons (.str (strOk_of fun d hd => ?_)) (ih fun d hd => h d (List.mem_cons_of_mem _ hd))
    have e : d = c := by simpa using hd
    rw [e]; exact h c (List.mem_cons_self ..)
theorem src_fits {v : V} {d : D} {items : List D} {gd : Option (Nat × List D)} (R : Rel G H pi rho S) (r : RV G H pi rho v d) (e : itemsOf S d = some (items, gd)) :
    ∃ q : Zs, v = q.v ∧ items.length ≤ sizeLine ∧ gdOk gd S ∧ ∀ rho' H' pi' S', Rel G H' pi' rho' S' → Ext H pi rho H' pi' rho' → gdOk gd S' → ∃ ws, q.has G.K H' ws ∧ RVs G H' pi' rho' ws items := by
  have gok : gdOk gd S := by
    cases d with
    | ref n =>
      have e' : (match S[n]? with
        | some (.lst xs) => some (xs, some (n, xs))
        | _ => none) = some (items, gd) := e
      split at e'
      · rename_i xs ex
        cases e'
        exact ex
      · cases e'
    | str z =>
      have e' : (if z.length ≤ 16777216 then some (z.cps.toList.map fun c => D.str ⟨#[c]⟩, (none : Option (Nat × List D))) else none) = some (items, gd) := e
      split at e'
      · cases e'; trivial
      · cases e'
    | tup xs => cases e; trivial
    | ktup xs => cases e; trivial
    | lst xs => cases e; trivial
    | scr xs => cases e; trivial
    | non => cases e
    | bl b => cases e
    | int b => cases e
    | dct b => cases e
    | obj b c => cases e
    | fdct b => cases e
    | err b => cases e
  cases w : wkOf d with
  | l =>
    obtain ⟨a, rfl, _, hz, f⟩ := lst_fits R r w e
    exact ⟨.l a, rfl, hz, gok, f⟩
  | t =>
    obtain ⟨a, rfl, _, hz, f⟩ := tup_fits R r w e
    exact ⟨.t a, rfl, hz, gok, fun rho' H' pi' S' R' x _ => f rho' H' pi' S' R' x⟩
  | s =>
    cases r with
    | str ho =>
      rename_i z
      have e' : (if z.length ≤ 16777216 then some (z.cps.toList.map fun c => D.str ⟨#[c]⟩, (none : Option (Nat × List D))) else none) = some (items, gd) := e
      split at e'
      · rename_i hz
        cases e'
        exact ⟨.s z, rfl, by rw [List.length_map, sizeLine_eq]; exact hz, trivial, fun rho' H' pi' S' R' x _ => ⟨_, rfl, ch_rv ho⟩⟩
      · cases e'
    | _ => cases w
theorem walk_zM {q1 q2 : Zs} {gd : Option (Nat × List D)} {ds es : List D} (hz : ds.length ≤ sizeLine) (h : ∀ rho' H' pi' S', Rel G H' pi' rho' S' → Ext H1 pi1 rho H' pi' rho' → gdOk gd S' → ∃ ws us, (q1.has G.K H' ws ∧ RVs G H' pi' rho' ws ds) ∧ (q2.has G.K H' us ∧ RVs G H' pi' rho' us es)) :
    WalkD G H1 pi1 rho (zipD ds es) gd (ItzM G.K q1 q2 ds.length es.length) := by
  have hl : (zipD ds es).length = min ds.length es.length := by unfold zipD; simp
  refine ⟨by omega, ?_, ?_⟩
  · intro rho' i H' pi' S' d R x g e
    have hi : i < min ds.length es.length := hl ▸ (List.getElem?_eq_some_iff.mp e).1
    have ed : ds[i]? = some ds[i] := List.getElem?_eq_getElem (by omega)
    have ee : es[i]? = some es[i] := List.getElem?_eq_getElem (by omega)
    unfold zipD at e
    rw [List.getElem?_map, List.getElem?_range hi, Option.map_some, ed, ee] at e
    cases e
    obtain ⟨ws, us, ⟨hs, qw⟩, ht, qu⟩ := h rho' H' pi' S' R x g
    obtain ⟨v, ev, rv⟩ := qw.get ed
    obtain ⟨u, eu, ru⟩ := qu.get ee
    refine ⟨⟨ws, us, v, u, ⟨hs, qw.length⟩, ⟨ht, qu.length⟩, ev, eu⟩, ?_⟩
    rintro y H'' ⟨T, p, q, rfl, hT, rfl, hy1, hy2⟩
    have e1 := hy1 ws hs
    have e2 := hy2 us ht
    rw [ev] at e1
    rw [eu] at e2
    cases e1; cases e2
    exact new_pair R hT rv ru
  · intro rho' i H' pi' S' R x g e
    obtain ⟨ws, us, ⟨hs, qw⟩, ht, qu⟩ := h rho' H' pi' S' R x g
    exact ⟨ws, us, ⟨hs, qw.length⟩, ⟨ht, qu.length⟩, by omega⟩
end
section
variable {X : Cx} {c : Ctx} {W : WX} {m : ME}
theorem di_zipM {e e2 : Expr} {m2 : ME} {elts : List Expr} {kk : Nat} {p pos tpos : Pos} (hg : Gl X "zip") (hm : X.mg "zip" = none) (ha : DA X c W [e, e2] [m, m2])
    (hs : starEach [e, e2] X.env = (false, eval e X.env) :: starEach [e2] X.env := by rfl) (hpl : (backTo pos (starEach [e2] X.env)).any (·.1) = false := by rfl) :
    DI X c W (.Tuple elts kk tpos) (.Call (.Name "zip" p) [e, e2] [] pos) (iArg fZipM [m, m2]) := by
  refine ⟨_, pi_zipM hg hm ha hs hpl, fun {σ H pi rho S env RR} R N h => ?_⟩
  refine tDA.bindI R N h fun vs H1 ds pi1 S1 R1 r g h => ?_
  match ds, r, h with
  | [x, y], r, h =>
    have h : PostI (gm X c) W σ H pi rho RR (match itemsOf S1 x, itemsOf S1 y with
      | some (xs, g), some (ys, g') => (match gdBoth g g' with
        | some gg => .ok (zipD xs ys) gg S1
        | none => .stuck)
      | _, _ => .stuck) := h
    obtain ⟨v, u, rfl, rx, ry⟩ := r.two
    cases ei : itemsOf S1 x with
    | none => rw [ei] at h; exact h.elim
    | some q =>
      cases ej : itemsOf S1 y with
      | none => rw [ei, ej] at h; exact h.elim
      | some q' =>
        obtain ⟨xs, gd⟩ := q
        obtain ⟨ys, gd'⟩ := q'
        rw [ei, ej] at h
        obtain ⟨a, rfl, hz, ga, f⟩ := src_fits R1 rx ei
        obtain ⟨b, rfl, hz2, gb, f2⟩ := src_fits R1 ry ej
        cases eg : gdBoth gd gd' with
        | none =>
          have h : PostI (gm X c) W σ H pi rho RR (match gdBoth gd gd' with
            | some gg => .ok (zipD xs ys) gg S1
            | none => .stuck) := h
          rw [eg] at h; exact h.elim
        | some gg =>
          have h : PostI (gm X c) W σ H pi rho RR (match gdBoth gd gd' with
            | some gg => .ok (zipD xs ys) gg S1
            | none => .stuck) := h
          rw [eg] at h
          have both : ∀ S', gdOk gg S' → gdOk gd S' ∧ gdOk gd' S' := fun S' g => by
            cases gd with
            | none => cases eg; exact ⟨trivial, g⟩
            | some q =>
              cases gd' with
              | none => cases eg; exact ⟨g, trivial⟩
              | some q' => cases eg
          obtain ⟨ws, h1, h2⟩ := f rho H1 pi1 S1 R1 .refl ga
          obtain ⟨us, h3, h4⟩ := f2 rho H1 pi1 S1 R1 .refl gb
          refine ⟨a, b, ws, us, rfl, h1, h3, ?_⟩
          rw [h2.length, h4.length]
          refine h H1 pi1 _ R1 g (walk_zM hz fun rho' H' pi' S' R' x g => ?_)
          obtain ⟨w1, h1, h2⟩ := f rho' H' pi' S' R' x (both S' g).1
          obtain ⟨w2, h3, h4⟩ := f2 rho' H' pi' S' R' x (both S' g).2
          exact ⟨w1, w2, ⟨h1, h2⟩, h3, h4⟩
end
end DL
/-! a tuple of texts of the module's own; get of a dict of the module's own, texts to tuples of texts; str and int of a part of a line -/
namespace DL
open PySem PySem.Spec PyProof.Rows L2
/-! ### a tuple of texts, written at the top -/
theorem strs_vals : ∀ {vs : List Value} {ts : List Str}, DH.strsB vs ts = true → Vals (ts.map V.str) vs
  | [], [], _ => .nil
  | [], _ :: _, h => by cases h
  | _ :: _, [], h => by cases h
  | v :: r, x :: t, h => by
    unfold DH.strsB at h
    rw [Bool.and_eq_true] at h
    obtain ⟨u, e⟩ := Value.isStrOf_shape h.1
    exact .cons ⟨u, e⟩ (strs_vals h.2)
theorem tupB_ok {K : PySem.W.Frag} {a : Addr} {ts : List Str} (h : DH.tupB K a ts = true) : SqK K a (ts.map V.str) := by
  unfold DH.tupB at h
  cases e : K.lookup a with
  | none => rw [e] at h; cases h
  | some o =>
    rw [e] at h
    simp only [Bool.and_eq_true] at h
    obtain ⟨h1, h2⟩ := h
    cases ed : o.data with
    | seq its n =>
      rw [ed] at h2
      simp only [Bool.and_eq_true] at h2
      have hv := strs_vals h2.1
      have hl := hv.length
      have hz := of_decide_eq_true h2.2
      refine ⟨o, its, n, e, of_decide_eq_true h1, ed, ?_, hv⟩
      rw [List.length_map] at hl
      have : its.size = its.toList.length := by simp
      rw [sizeLine_eq]
      omega
    | _ => rw [ed] at h2; cases h2
def CT (K : PySem.W.Frag) (mg : Str → Option Value) (x : Str) (ts : List Str) : Prop := ∃ a, mg x = some (.ref a) ∧ SqK K a (ts.map V.str) ∧ ts.length ≤ 1000
theorem ctup_rv {G : Gam} {H : Hp} {pi rho : List Addr} : ∀ {ts : List Str}, (ts.all PyData.strOk) = true → RVs G H pi rho (ts.map V.str) (ts.map D.str)
  | [], _ => .nil
  | x :: t, h => by
    rw [List.all_cons, Bool.and_eq_true] at h
    exact .cons (.str h.1) (ctup_rv h.2)
section
variable {X : Cx} {c : Ctx} {W : WX} {pos : Pos}
theorem de_ct {x : Str} {ts : List Str} (h : CT X.K X.mg x ts) (ho : ts.all PyData.strOk = true := by decide +kernel) (hg : Gl X x := by rfl) (hd : (x == ("__debug__" : Str)) = false := by decide) : DE X c W (.Name x pos) (eC (.ktup (ts.map .str))) := by
  obtain ⟨a, e, s, z⟩ := h
  exact de_c (pe_glob (v := V.ref a) hg e rfl hd) fun H pi rho => .ktup s (by rw [List.length_map, sizeLine_eq]; omega) (ctup_rv ho)
end
/-! ### get of a written dict: a tuple of texts, or None -/
def tabGetT (tbl : List (Str × List Str)) (z : Str) : Option (List Str) := (tbl.find? fun p => decide (p.1 = z)).map (·.2)
structure KTabT (K : PySem.W.Frag) (w : World) (mg : Str → Option Value) (x : Str) (tbl : List (Str × List Str)) : Prop where
  ex : ∃ (d : Addr) (es : Array DictEntry) (n : Nat), mg x = some (.ref d) ∧ K.lookup d = some ⟨.type "dict", none, .dict es n, #[]⟩ ∧ PySem.W.KeysLit w.params es.toList ∧ (d == sysModules) = false ∧ DH.tabTI K es.toList tbl = true
theorem tabT_find {K : PySem.W.Frag} : ∀ {es : List DictEntry} {tbl : List (Str × List Str)} {z : Str}, DH.tabTI K es tbl = true → match tabGetT tbl z with
    | some ts => ∃ b, (es.find? fun d => Value.isStrOf z d.key).map (·.val) = some (.ref b) ∧ DH.tupB K b ts = true ∧ ts.all PyData.strOk = true
    | none => (es.find? fun d => Value.isStrOf z d.key).map (·.val) = none
  | [], [], z, _ => rfl
  | [], _ :: _, z, h => by cases h
  | _ :: _, [], z, h => by cases h
  | e :: es, (x, ts) :: tbl, z, h => by
    unfold DH.tabTI at h
    simp only [Bool.and_eq_true] at h
    obtain ⟨h1, h2, h3⟩ := h
    obtain ⟨t, ek⟩ := Value.isStrOf_shape h1
    have ih := tabT_find (z := z) h3
    unfold tabGetT
    rw [List.find?_cons, List.find?_cons]
    by_cases hz : x = z
    · subst hz
      simp only [decide_true, h1, Option.map_some]
      cases ev : e.val with
      | ref b =>
        rw [ev] at h2
        simp only [Bool.and_eq_true] at h2
        exact ⟨b, rfl, h2.1, h2.2⟩
      | _ => rw [ev] at h2; cases h2
    · have q : Value.isStrOf z e.key = false := by
        cases hq : Value.isStrOf z e.key with
        | false => rfl
        | true =>
          obtain ⟨t2, ek2⟩ := Value.isStrOf_shape hq
          rw [ek] at ek2
          injection ek2 with e1
          exact (hz e1).elim
      simp only [hz, decide_false, q]
      exact ih
def vTabT (tbl : List (Str × List Str)) (x : D) (S : Store) : Res := match x with
  | .str z => match tabGetT tbl z with
    | some ts => .ok (.ktup (ts.map .str)) S false
    | none => .ok .non S false
  | _ => .stuck
def tTabT (K : PySem.W.Frag) (tbl : List (Str × List Str)) (ta : TE) : TE := fun σ H Q => ta σ H fun y H1 => ∃ z, y = .str z ∧ match tabGetT tbl z with
  | some ts => ∀ b, SqK K b (ts.map V.str) → ts.all PyData.strOk = true → ts.length ≤ 1000 → Q (.ref b) H1
  | none => Q .non H1
section
variable {X : Cx} {c : Ctx} {W : WX} {a : Expr} {ma : ME} {ta : TE} {x : Str} {px apos cpos : Pos} {tbl : List (Str × List Str)}
theorem tupB_len {K : PySem.W.Frag} {a : Addr} {ts : List Str} (h : DH.tupB K a ts = true) : ts.length ≤ 1000 := by
  unfold DH.tupB at h
  split at h
  · split at h
    · simp only [Bool.and_eq_true, decide_eq_true_eq] at h; exact h.2.2
    · simp at h
  · cases h
theorem pe_tabT (hg : Gl X x) (T : KTabT X.K X.w X.mg x tbl) (ha : PE X a ta) (hd : (x == ("__debug__" : Str)) = false := by decide)
    (hbase : attributeBase (.Name x px) "get" X.env (eval (.Name x px) X.env) = eval (.Name x px) X.env := by rfl)
    (hfew : ((backTo cpos (starEach [a] X.env)).all (fun x => !x.1) && (backToKw cpos (keywordEach [] X.env)).all (fun x => x.1.isSome)
      && decide ([a].length + ([] : List Keyword).length + (if ([] : List Keyword).isEmpty then 0 else 1) < 30)) = true := by rfl)
    (hline : (apos.endLine == cpos.line) = true := by rfl) (hs : starEach [a] X.env = (false, eval a X.env) :: starEach [] X.env := by rfl) (hplain : (backTo cpos (starEach [] X.env)).any (·.1) = false := by rfl) :
    PE X (.Call (.Attribute (.Name x px) "get" apos) [a] [] cpos) (tTabT X.K tbl ta) := by
  obtain ⟨d, es, n, hm, hl, hk, low, ht⟩ := T.ex
  refine ⟨fun pins s σ H Q I h => ?_⟩
  refine wpAny_Call_method_late hbase hfew hline rfl (thn ((pe_glob (v := V.ref d) hg hm rfl hd).run pins s σ H (fun v H1 => v = .ref d ∧ H1 = H) I ⟨rfl, rfl⟩) ?_)
  rintro v s1 ⟨y, H1, I1, r1, ey, eH⟩
  subst ey eH
  obtain rfl : v = Value.ref d := r1
  have hmap := PySem.W.mapOf_K (prog := X.prog) (w := X.w) I1.kIn hl hk
  refine ⟨"dict", "dict.get", PySem.F.plainAttrs_dict, PySem.F.slot_dict_get, PySem.F.type_dict_get, hmap.typeIs, fun b e => (by cases e; exact ⟨_, I1.kIn _ _ hl, rfl⟩), ?_⟩
  have hA := (pa_cons ha pa_nil hs).run cpos pins s1 σ H1 (fun xs H2 => match xs with
    | [y] => ∃ z, y = .str z ∧ match tabGetT tbl z with
      | some ts => ∀ b, SqK X.K b (ts.map V.str) → ts.all PyData.strOk = true → ts.length ≤ 1000 → Q (.ref b) H2
      | none => Q .non H2
    | _ => False) I1 h
  rw [hs] at hA ⊢
  refine Calls.callWith_builtin (by show (false || (backTo cpos (starEach [] X.env)).any (·.1)) = false; rw [hplain] <;> rfl) (Calls.evalArgs_plain (thn hA ?_))
  rintro us s2 ⟨vs, H2, I2, r2, q0⟩
  have q1 : ∃ y, vs = [y] ∧ ∃ z, y = .str z ∧ match tabGetT tbl z with
      | some ts => ∀ b, SqK X.K b (ts.map V.str) → ts.all PyData.strOk = true → ts.length ≤ 1000 → Q (.ref b) H2
      | none => Q .non H2 := by
    match vs, q0 with
    | [y], q0 => exact ⟨y, rfl, q0⟩
  clear q0
  obtain ⟨y, rfl, z, rfl, q⟩ := q1
  obtain ⟨u, rfl, t, rfl⟩ := Vals.one r2
  have hm2 := PySem.W.mapOf_K (prog := X.prog) (w := X.w) I2.kIn hl hk
  refine call_meetsIn PySem.F.slot_dict_get hm2.typeIs PySem.F.entry_dict_get (PySem.F.args_dict_get_2 _ _) (meets_dict_get (strKind X.prog X.w) d (k := z) (strKind_is X.prog X.w z t) low) ⟨_, hm2, ?_⟩
  have tf := tabT_find (z := z) ht
  have ef : findBy Value.isStrOf es z = (es.toList.find? fun d => Value.isStrOf z d.key).map (·.val) := by
    unfold findBy
    rw [← Array.find?_toList]
  rw [ef]
  cases eg : tabGetT tbl z with
  | some ts =>
    rw [eg] at tf q
    obtain ⟨b, eb, hb, ho⟩ := tf
    rw [eb]
    exact ⟨.ref b, H2, I2.tok _, rfl, q b (tupB_ok hb) ho (tupB_len hb)⟩
  | none =>
    rw [eg] at tf q
    have tf : (es.toList.find? fun d => Value.isStrOf z d.key).map (·.val) = none := tf
    rw [tf]
    exact ⟨.non, H2, I2.tok _, rfl, q⟩
theorem de_tabT (hg : Gl X x) (T : KTabT X.K X.w X.mg x tbl) (ha : DE X c W a ma) (hd : (x == ("__debug__" : Str)) = false := by decide)
    (hbase : attributeBase (.Name x px) "get" X.env (eval (.Name x px) X.env) = eval (.Name x px) X.env := by rfl)
    (hfew : ((backTo cpos (starEach [a] X.env)).all (fun x => !x.1) && (backToKw cpos (keywordEach [] X.env)).all (fun x => x.1.isSome)
      && decide ([a].length + ([] : List Keyword).length + (if ([] : List Keyword).isEmpty then 0 else 1) < 30)) = true := by rfl)
    (hline : (apos.endLine == cpos.line) = true := by rfl) (hs : starEach [a] X.env = (false, eval a X.env) :: starEach [] X.env := by rfl) (hplain : (backTo cpos (starEach [] X.env)).any (·.1) = false := by rfl) :
    DE X c W (.Call (.Attribute (.Name x px) "get" apos) [a] [] cpos) (eUn (vTabT tbl) ma) :=
  PE_weak (pe_tabT hg T ha hd hbase hfew hline hs hplain) fun σ H Q ⟨pi, rho, S, env, R, N, h⟩ => tD.bind R N h fun y H1 dx pi1 S1 _ R1 r1 g1 _ h1 => by
    unfold vTabT at h1
    split at h1
    · cases r1 with
      | str hs =>
        refine ⟨_, rfl, ?_⟩
        revert h1
        cases tabGetT tbl _ with
        | some ts => exact fun h1 b sq ho hz => h1.fin R1 (.ktup sq (by rw [List.length_map, sizeLine_eq]; omega) (ctup_rv ho))
        | none => exact fun h1 => h1.fin R1 .non
    · exact h1.elim
end
/-! ### str(x), x None, a text or a whole number; int(x), x a text of figures too -/
def numS (i : Int) : Str := Str.ofString (toString i)
theorem numS_cps (m : Nat) : (numS (m : Nat)).cps.toList = (Nat.toDigits 10 m).map Char.toNat := PySem.W.KIN.signs_num m
theorem numS_dig (m : Nat) : ∀ c ∈ (numS (m : Nat)).cps.toList, 48 ≤ c ∧ c ≤ 57 := fun c hc => by
  rw [numS_cps] at hc
  obtain ⟨ch, hch, e⟩ := List.mem_map.mp hc
  have r := PyProof.Rows.digit_range (Nat.isDigit_of_mem_toDigits (by decide) (by decide) hch)
  rw [← e]
  exact r
theorem numS_ok {i : Int} (h : 0 ≤ i) : PyData.strOk (numS i) = true := by
  obtain ⟨m, rfl⟩ := Int.eq_ofNat_of_zero_le h
  exact strOk_of fun c hc => Nat.lt_of_le_of_lt (numS_dig m c hc).2 (by decide)
def vStrC : MF
  | [.non], S => .ok (.str "None") S false
  | [.str z], S => .ok (.str z) S false
  | [.int i], S => if 0 ≤ i ∧ i < 1000000000 then .ok (.str (numS i)) S false else .stuck
  | _, _ => .stuck
def rStrC : List V → Hp → VK → Prop := fun xs H Q => (xs = [.non] ∧ Q (.str "None") H) ∨ (∃ a, xs = [.str a] ∧ Q (.str a) H) ∨ ∃ i, xs = [.int i] ∧ i.natAbs.log2 < 1920 ∧ Q (.str (toString i)) H
theorem call_strNone {X : Cx} : CallR X (.type "str") (fun xs H Q => xs = [.non] ∧ Q (.str "None") H) := by
  rintro pins s σ H xs us Q I r ⟨rfl, q⟩
  obtain ⟨u, rfl, ru⟩ := vals1 r
  cases ru
  exact PySem.P.str_of_none ⟨.str "None", H, I.tok _, ⟨_, rfl⟩, q⟩
theorem call_strC {X : Cx} : CallR X (.type "str") rStrC := CallR.or call_strNone (CallR.or SkE.call_str_str call_str_int)
theorem log2_lt_of {i : Int} (h0 : 0 ≤ i) (h : i < 1000000000) : i.natAbs.log2 < 1920 := by
  have : i.natAbs < 2 ^ 30 := by omega
  by_cases hz : i.natAbs = 0
  · rw [hz]; decide
  · have := (Nat.log2_lt hz).mpr this
    omega
theorem vStrC_ok {G : Gam} : CallS G rStrC vStrC := by
  intro W σ H pi rho S xs ds Q R rx h
  unfold vStrC at h
  split at h
  · obtain ⟨x, rfl, r⟩ := rx.one
    cases r
    exact .inl ⟨rfl, h.fin R (.str (by decide +kernel))⟩
  · obtain ⟨x, rfl, r⟩ := rx.one
    cases r with | str ho => exact .inr (.inl ⟨_, rfl, h.fin R (.str ho)⟩)
  · split at h
    · rename_i i hi
      obtain ⟨x, rfl, r⟩ := rx.one
      cases r
      exact .inr (.inr ⟨_, rfl, log2_lt_of hi.1 hi.2, h.fin R (.str (numS_ok hi.1))⟩)
    · exact h.elim
  · exact h.elim
def vIntX : MF
  | [.str z], S => if z.length ≤ 640 then (match intText? z with
    | some n => .ok (.int n) S false
    | none => .stuck) else .stuck
  | xs, S => vInt xs S
def rIntX : List V → Hp → VK → Prop := fun xs H Q => (∃ a n, xs = [.str a] ∧ PySem.intText? a = some n ∧ a.length ≤ 640 ∧ Q (.int n) H) ∨ ((∃ i, xs = [.int i] ∧ Q (.int i) H) ∨ ∃ k, xs = [.bl k] ∧ Q (.int (if k then 1 else 0)) H)
theorem call_intX {X : Cx} : CallR X (.type "int") rIntX := CallR.or call_int_str call_int1
theorem vIntX_ok {G : Gam} : CallS G rIntX vIntX := by
  intro W σ H pi rho S xs ds Q R rx h
  unfold vIntX at h
  split at h
  · obtain ⟨x, rfl, r⟩ := rx.one
    cases r with | str ho =>
    split at h
    · rename_i hz
      split at h
      · rename_i n e
        exact .inl ⟨_, _, rfl, e, hz, h.fin R (.int _)⟩
      · exact h.elim
    · exact h.elim
  · exact .inr (vInt_ok _ _ _ _ _ _ _ _ _ R rx h)
/-! ### a text many times over -/
end DL
/-! a def that hands back a tuple whose own lists change no more -/
namespace DL
open PySem PySem.Spec PyProof.Rows L2
section
variable {G : Gam} {W : WX} {σ : L2.St} {H H' : Hp} {pi pi' rho : List Addr} {S S' : Store} {Q : VK}
end
section
variable {P : Program} {w : World} {K : PySem.W.Frag} {mg : Str → Option Value} {base : Heap} {cl : Nat → Addr}
end
section
variable {E : KE} {P : KV'} {S : Store}
end
end DL
/-! a def's promise where no repr is under way: what the text of a list or a tuple needs -/
namespace DL
open PySem PySem.Spec PyProof.Rows L2
/-- like FnOk, but for a caller whose stack is known to hold no repr -/
structure FnG (P : Program) (w : World) (K : PySem.W.Frag) (mg : Str → Option Value) (base : Heap) (k : Nat) (f : Addr) (fd : FuncData) (ps : List Str) (sp : Sp) : Prop where
  many : ∀ vs H Q E, sp vs H Q E → vs.length = ps.length
  go : ∀ (A : Around) (o : List Env) (s : Shared) (H : Hp) (ar : Args) (us : List Value) (vs : List V) (Q : VK) (E : XK), A.guards = some [] ∧ Room k A → Env0 P w K mg base A o s H → BindsTo s fd ar (ps.zip us) → Vals vs us → sp vs H Q E → codeAny (model P w) A (.call (.ref f) ar) (CR (L2N.CX P w) o P w H s Q E) s
section
variable {P : Program} {w : World} {K : PySem.W.Frag} {mg : Str → Option Value} {base : Heap} {cl : Nat → Addr} {k n nl : Nat} {f : Addr} {fd : FuncData} {ps : List Str} {sp sp' : Sp}
theorem FnG.weak (o : FnG P w K mg base k f fd ps sp) (h : ∀ vs H Q E, sp' vs H Q E → sp vs H Q E) : FnG P w K mg base k f fd ps sp' := ⟨fun vs H Q E q => o.many vs H Q E (h _ _ _ _ q), fun A o' s H ar us vs Q E g e b r q => o.go A o' s H ar us vs Q E g e b r (h _ _ _ _ q)⟩
theorem FnG.by_body {x qual : Str} {st : Stmt} {N : List Str} (F : Fun K x qual st f fd) (S : FnScope N ps (defScope st)) (hm : ∀ vs H Q E, sp vs H Q E → vs.length = ps.length)
    (hb : ∀ (cdv : Value) (A : Around) (o : List Env) (s : Shared) (H : Hp) (vs : List V) (Q : VK) (E : XK), A.guards = some [] → Room k (A.deeper (envOfC qual (defScope st) s.heap.objs.size f cdv)) → sp vs H Q E →
      ∃ t, PSs (cxOf (L2N.CX P w) P w K mg base N qual (defScope st) f cdv A o s H E) (defBody st) t ∧ t { nx := fun _ H' => Q .non H', rt := Q } (L2.start N vs) H) : FnG P w K mg base (k + 1) f fd ps sp := by
  obtain ⟨_, _, _, _, _, _, cdv, _, _, rfl, look, code⟩ := F.ex
  constructor
  · exact hm
  intro A o s H ar us vs Q E g env bnd rel q
  have stay : ∀ b ob, base.get? b = some ob → s.heap.get? b = some ob := fun b ob e => (env.bs b ob e).1
  have here : K.In s.heap := env.mod.kin.keeps stay
  have names : ∀ y ∈ ps.zip us, (defScope st).names.lookup y.1 = some .local ∨ ((defScope st).names.lookup y.1 = some .cell ∧ ((cellsFrom (s.heap.objs.size + 1) (defScope st).names []).lookup y.1).isSome = true) := by
    rintro ⟨y, u⟩ hy
    cases S.par y (List.of_mem_zip hy).1 with
    | inl z => exact Or.inl z
    | inr z => exact Or.inr ⟨z, PySem.W.cellsFrom_some _ _ _ (Or.inl z)⟩
  apply codeAny_call_function g.2.depth (here _ _ look) rfl S.co S.gen rfl (PySem.W.codeRec_of here code)
  apply bnd
  refine wpAny_newFunctionEnv_cells S.kind names ?_
  rintro env' rfl s1 inn
  constructor
  · exact (env.mod.nolimit.keeps stay).keeps inn.toInCall.keep
  apply codeAny_func
  obtain ⟨t, body, ht⟩ := hb cdv A o s H vs Q E g.1 (g.2.deeper _) q
  have I0 := inv_start (E := E) (CX := L2N.CX P w) (cd := cdv) (qual := qual) (f := f) S g.2.hd env (hm _ _ _ _ q) rel inn
  refine wpAny_mono (body.run [] s1 (L2.start N vs) H _ I0 ht) ?_ fun e s' z => z
  rintro (_ | _ | _ | u) s' z
  · obtain ⟨σ', H', J, z⟩ := z
    exact ⟨.non, H', J.os, J.bare, J.base, J.hok, rfl, z⟩
  · obtain ⟨_, _, _, z⟩ := z
    exact False.elim z
  · obtain ⟨_, _, _, z⟩ := z
    exact False.elim z
  · obtain ⟨v, σ', H', J, r, z⟩ := z
    exact ⟨v, H', J.os, J.bare, J.base, J.hok, r, z⟩
theorem def_okTG {x qual : Str} {st : Stmt} {N : List Str} {body : MS} (F : Fun K x qual st f fd) (S : scBool N ps (defScope st) = true) (hn : ps.length = n) (hl : N.length = n + nl)
    (hb : ∀ (cdv : Value) (A : Around) (outer : List Env) (s : Shared) (H : Hp) (E : XK), Room k (A.deeper (envOfC qual (defScope st) s.heap.objs.size f cdv)) → (A.deeper (envOfC qual (defScope st) s.heap.objs.size f cdv)).guards = some [] →
      L2N.Takes (cxOf (L2N.CX P w) P w K mg base N qual (defScope st) f cdv A outer s H E) (fun cls d _ H => E cls d H) → PassesOwn (model P w) (cxOf (L2N.CX P w) P w K mg base N qual (defScope st) f cdv A outer s H E).A (cxOf (L2N.CX P w) P w K mg base N qual (defScope st) f cdv A outer s H E).env (cxOf (L2N.CX P w) P w K mg base N qual (defScope st) f cdv A outer s H E).xe → N.Nodup →
      DSs (cxOf (L2N.CX P w) P w K mg base N qual (defScope st) f cdv A outer s H E) (cl, none) (fun cls dx _ H' => E cls dx H') (defBody st) body) :
    FnG P w K mg base (k + 1) f fd ps (spD ⟨K, cl, none⟩ n (dDef nl body)) := by
  refine FnG.by_body F (scB S) (fun vs H Q E h => ?_) (fun cdv A o s H vs Q E g hr h => ⟨_, hb cdv A o s H E hr g (@L2N.takes_of (cxOf (L2N.CX P w) P w K mg base N qual (defScope st) f cdv A o s H E) E rfl rfl rfl _ rfl) (@passes_of (cxOf (L2N.CX P w) P w K mg base N qual (defScope st) f cdv A o s H E) _ _ rfl) (scB S).nd, ?_⟩)
  · obtain ⟨pi, rho, T, ds, R, r, e, _⟩ := h
    rw [r.length, e, hn]
  · obtain ⟨pi, rho, T, ds, R, r, e, h⟩ := h
    refine ⟨pi, rho, T, _, R, REnv.start r N, ?_⟩
    rw [show N.length - ds.length = nl by omega]
    unfold dDef at h
    revert h
    cases body (ds.map Sl.val ++ List.replicate nl Sl.no) T with
    | nx env' S' => exact fun h σ' H' pi' R' N' g => finR_ok R h R' .non g fun z => by cases z
    | rt d S' fr => exact fun h v H' pi' R' r' g f => finR_ok R h R' r' g f
    | exc x env' S' => exact fun h σ' cls dx H' pi' R' N' g q => trunc_ok (σ := []) R h R' g q
    | bk env' S' => exact fun h => h.elim
    | ct env' S' => exact fun h => h.elim
    | stuck => exact fun h => h.elim
/-! ### the law itself -/
/-- what is known of the script's object -/
abbrev scO (vs : List Value) : Obj := { cls := .type "list", data := .seq vs.toArray }
/-- the law told true of the script at a -/
def LawTrue (P : Program) (w : World) (fa a : Addr) (t : Shared) : Prop := codeAny (model P w) callerA (.call (.ref fa) ⟨[.ref a], []⟩) (fun r z => r = .ok (.ret (.bool true)) ∧ OldK t.heap z.heap ∧ z.os = t.os ∧ AllBare z.gens) t
theorem law_core {s₁ : Shared} {mb : Str → Option Value} {fa a : Addr} {x : Str} {vs : List Value} {H : Hp} {u : HO} (kin : K.In s₁.heap) (gl : s₁.heap.Ns mainGlobals mg) (bl : s₁.heap.Ns builtinsNs mb) (bb : ∀ y : Str, y ≠ "__name__" → mb y = bootBuiltins y) (lim : s₁.heap.NoLimit) (ng : s₁.gens = #[])
    (sc : s₁.heap.get? a = some (scO vs)) (only : ∀ b z, H b = some z → b = a ∧ K.lookup a = none ∧ z = .frz (scO vs) u) (hok : HOk P w H s₁.heap) (room : Room k callerA) (bind : ∀ (s : Shared) (v : Value), BindsTo s fd ⟨[v], []⟩ [(x, v)])
    (F : ∀ b0 : Heap, K.In b0 → b0.Ns mainGlobals mg → FnG P w K mg b0 k fa fd [x] sp) (q : sp [.ref a] H (fun v _ => v = .bl true) fun _ _ _ => False) :
    LawTrue P w fa a s₁ := by
  have off : ∀ {b : Addr} {o : Obj}, s₁.heap.get? b = some o → o ≠ scO vs ∨ K.lookup b ≠ none → H b = none := by
    intro b o e n
    cases hb : H b with
    | none => rfl
    | some z =>
      obtain ⟨rfl, h2, -⟩ := only b z hb
      rw [sc] at e
      cases e
      rcases n with n | n
      · exact (n rfl).elim
      · exact (n h2).elim
  have space : ∀ {b : Addr} {m : Str → Option Value}, s₁.heap.Ns b m → (hidT s₁.heap H).Ns b m := by
    rintro b m ⟨o, es, ep, e, d, r⟩
    refine ⟨o, es, ep, hidT_get e (off e (.inl ?_)), d, r⟩
    rintro rfl
    cases d
  have kin' : K.In (hidT s₁.heap H) := fun b o e => hidT_get (kin b o e) (off (kin b o e) (.inr (by rw [e]; simp)))
  obtain ⟨mc, l1, l2⟩ := lim
  have env : Env0 P w K mg (hidT s₁.heap H) callerA [] s₁ H := {
    frames := rfl
    mod := ⟨kin', space gl, ⟨mb, space bl, bb⟩, ⟨mc, space l1, l2⟩⟩
    bs := fun b o e => of_hidT e
    bsz := Nat.le_of_eq (hidT_size _ _)
    funs := trivial
    frf := fun b hb => by cases (hb : b ∈ ([] : List Addr))
    hok := hok
    bare := .of_eq ng }
  have run := (F _ kin' (space gl)).go callerA [] s₁ H ⟨[.ref a], []⟩ [.ref a] [.ref a] _ _ ⟨rfl, room⟩ env (bind s₁ (.ref a)) (.cons rfl .nil) q
  refine codeAny_mono run ?_
  rintro (e | (_ | _ | _ | v)) s' z
  · obtain ⟨_, _, _, _, _, _, _, _, _, _, _, _, z⟩ := (z : L2N.CX P w [] H s₁ (fun _ _ _ => False) e s')
    exact False.elim z
  · exact False.elim z
  · exact False.elim z
  · exact False.elim z
  · obtain ⟨t, H', os, bare, un, hok', rt, z⟩ := z
    have z : t = .bl true := z
    rw [z] at rt
    have rt : v = Value.bool true := rt
    rw [rt]
    refine ⟨rfl, OldK.of_keep ?_, os, bare⟩
    intro b o e
    cases hb : H b with
    | none => exact un.keep b o e hb (fun y => by cases (y : b ∈ ([] : List Addr))) (fun y => by cases y)
    | some y =>
      obtain ⟨-, -, rfl⟩ := only b y hb
      have o1 := (hok b _ hb).1
      rw [e] at o1
      cases o1
      exact (hok' b _ (un.frzs b _ _ hb)).1
theorem law_callG {s₁ : Shared} {mb : Str → Option Value} {fa a : Addr} {x : Str} {vs : List Value} {ns : List Int} (kin : K.In s₁.heap) (gl : s₁.heap.Ns mainGlobals mg) (bl : s₁.heap.Ns builtinsNs mb) (bb : ∀ y : Str, y ≠ "__name__" → mb y = bootBuiltins y) (lim : s₁.heap.NoLimit) (ng : s₁.gens = #[])
    (sc : s₁.heap.get? a = some (scO vs)) (hi : IntsAre vs ns) (len : ns.length ≤ sizeLine) (room : Room k callerA) (bind : ∀ (s : Shared) (v : Value), BindsTo s fd ⟨[v], []⟩ [(x, v)])
    (F : ∀ b0 : Heap, K.In b0 → b0.Ns mainGlobals mg → FnG P w K mg b0 k fa fd [x] sp) (q : ∀ H : Hp, Only H → SqL K H a (ns.map V.int) → sp [.ref a] H (fun v _ => v = .bl true) fun _ _ _ => False) :
    LawTrue P w fa a s₁ := by
  have numbers := vals_ints hi
  by_cases hk : K.lookup a = none
  · let H : Hp := fun b => if b = a then some (.frz (scO vs) (.lst (ns.map V.int))) else none
    have only : ∀ b z, H b = some z → b = a ∧ K.lookup a = none ∧ z = .frz (scO vs) (.lst (ns.map V.int)) := by
      intro b z e
      by_cases hb : b = a
      · exact ⟨hb, hk, (Option.some.inj ((if_pos hb).symm.trans e)).symm⟩
      · cases (if_neg hb).symm.trans e
    refine law_core kin gl bl bb lim ng sc only ?_ room bind F (q H ?_ (.inl (.inr ⟨scO vs, if_pos rfl⟩)))
    · intro b z e
      obtain ⟨rfl, -, rfl⟩ := only b z e
      exact ⟨sc, by rw [List.length_map]; exact len, vs, _, numbers, sc⟩
    · intro b
      by_cases hb : b = a
      · exact .inr ⟨_, _, if_pos hb⟩
      · exact .inl (if_neg hb)
  · obtain ⟨o, ho⟩ := Option.ne_none_iff_exists'.mp hk
    have e := kin a o ho
    rw [sc] at e
    cases e
    refine law_core (H := fun _ => none) (u := .own 0) kin gl bl bb lim ng sc (fun _ _ e => by cases e) (fun _ _ e => by cases e) room bind F (q _ (fun _ => .inl rfl) (.inr ⟨_, vs.toArray, _, ho, rfl, rfl, rfl, ?_, by simpa using numbers⟩))
    rw [List.size_toArray, hi.length]
    exact len
theorem law_impG {F : MF} (T : FnG P w K mg base k f fd ps (spD ⟨K, cl, none⟩ 1 F)) (h : ∀ ns : List Int, ns.length ≤ 63 → ∃ S' fr, F [.scr ns] [] = .ok (.bl true) S' fr) : FnG P w K mg base k f fd ps (spL K) := by
  refine T.weak ?_
  rintro vs H Q E ⟨a, ns, rfl, hs, ho, hl, q⟩
  obtain ⟨S', fr, e⟩ := h ns hl
  have hsf : SqF K H a (ns.map V.int) := by
    refine hs.elim (fun hs => hs.elim (fun hs => ?_) .inl) .inr
    rcases ho a with n | ⟨o, xs, n⟩ <;> (rw [n] at hs; cases hs)
  have rel : Rel ⟨K, cl, none⟩ H [] [] [] := ⟨rfl, List.nodup_nil, fun a h => absurd h List.not_mem_nil, fun a h => absurd h List.not_mem_nil, fun n o e => by simp at e⟩
  refine ⟨[], [], [], [.scr ns], rel, .cons (.scr hsf (Nat.le_trans hl (by decide))) .nil, rfl, ?_⟩
  rw [e]
  intro v H' pi' R' r' g' _
  rw [bl_of r']
  exact q H'
end
end DL
/-! str of a list or a tuple -/
namespace DL
open PySem PySem.Spec PyProof.Rows L2
def pyDs (f : D → Option PyData) : List D → Option (List PyData)
  | [] => some []
  | d :: r => match f d, pyDs f r with
    | some x, some xs => some (x :: xs)
    | _, _ => none
/-- a value as plain data, less than k deep -/
def pyD (S : Store) : Nat → D → Option PyData
  | 0, _ => none
  | _ + 1, .non => some .none
  | _ + 1, .bl b => some (.bool b)
  | _ + 1, .int i => if i.natAbs < 1000000000 then some (.int i) else none
  | _ + 1, .str s => some (.str s)
  | k + 1, .tup xs => (pyDs (pyD S k) xs).map .tuple
  | k + 1, .lst xs => (pyDs (pyD S k) xs).map .list
  | k + 1, .ref n => match S[n]? with
    | some (.lst xs) => (pyDs (pyD S k) xs).map .list
    | _ => none
  | _ + 1, _ => none
/-- what a heap that keeps H reads at v -/
def RdV (K : PySem.W.Frag) (H : Hp) (v : V) (p : PyData) : Prop := ∀ (P : Program) (w : World) (h : Heap), HOk P w H h → K.In h → ∀ u, RelV v u → ∃ as, Reads h u p as
def RdVs (K : PySem.W.Frag) (H : Hp) (vs : List V) (ps : List PyData) : Prop := ∀ (P : Program) (w : World) (h : Heap), HOk P w H h → K.In h → ∀ us, Vals vs us → ∃ as, ReadsAll h us ps as
structure PyOk (K : PySem.W.Frag) (H : Hp) (k : Nat) (v : V) (p : PyData) : Prop where
  rd : RdV K H v p
  sh : p.showable = true
  nd : p.hasDict = false
  dp : p.depth ≤ k
theorem natAbs_log {i : Int} (h : i.natAbs < 1000000000) : i.natAbs.log2 < 1920 := by
  by_cases hz : i.natAbs = 0
  · rw [hz]; decide
  · have := (Nat.log2_lt hz).mpr (show i.natAbs < 2 ^ 30 by omega)
    omega
section
variable {G : Gam} {H : Hp} {pi rho : List Addr} {S : Store}
theorem pyDs_ok {k : Nat} (f : ∀ (v : V) (d : D) (p : PyData), RV G H pi rho v d → pyD S k d = some p → PyOk G.K H k v p) : ∀ {vs : List V} {ds : List D} {ps : List PyData}, RVs G H pi rho vs ds → pyDs (pyD S k) ds = some ps →
    RdVs G.K H vs ps ∧ PyData.showableAll ps = true ∧ PyData.hasDictAll ps = false ∧ PyData.depthAll ps ≤ k
  | _, _, _, .nil, e => by
    cases e
    refine ⟨fun P w h hok kin us r => ?_, by simp [PyData.showableAll], by simp [PyData.hasDictAll], by simp [PyData.depthAll]⟩
    cases r
    exact ⟨[], .nil⟩
  | _, d :: r, _, .cons hv hr, e => by
    unfold pyDs at e
    split at e
    · rename_i x xs e1 e2
      cases e
      have o := f _ _ _ hv e1
      obtain ⟨r1, r2, r3, r4⟩ := pyDs_ok f hr e2
      refine ⟨fun P w h hok kin us rr => ?_, by simp [PyData.showableAll, o.sh, r2], by simp [PyData.hasDictAll, o.nd, r3], ?_⟩
      · cases rr with
        | cons q t =>
          obtain ⟨as, h1⟩ := o.rd P w h hok kin _ q
          obtain ⟨bs, h2⟩ := r1 P w h hok kin _ t
          exact ⟨as ++ bs, .cons h1 h2⟩
      · have := o.dp
        unfold PyData.depthAll
        omega
    · cases e
theorem rd_list {vs : List V} {ps : List PyData} {a : Addr} (h : H a = some (.lst vs)) (r : RdVs G.K H vs ps) : RdV G.K H (.ref a) (.list ps) := by
  intro P w hp hok kin u ru
  obtain rfl : u = .ref a := ru
  obtain ⟨_, its, n, rv, e⟩ := hok a _ h
  obtain ⟨as, q⟩ := r P w hp hok kin its rv
  exact ⟨_, .list e rfl rfl (by simpa using q)⟩
theorem rd_tup {vs : List V} {ps : List PyData} {a : Addr} (h : H a = some (.tup vs)) (r : RdVs G.K H vs ps) : RdV G.K H (.ref a) (.tuple ps) := by
  intro P w hp hok kin u ru
  obtain rfl : u = .ref a := ru
  obtain ⟨_, its, rv, o, e⟩ := hok a _ h
  obtain ⟨as, q⟩ := r P w hp hok kin its rv
  obtain ⟨n, en⟩ := e.2.2
  exact ⟨_, .tuple e.1 e.2.1 en (by simpa using q)⟩
theorem pyD_ok (R : Rel G H pi rho S) : ∀ (k : Nat) (v : V) (d : D) (p : PyData), RV G H pi rho v d → pyD S k d = some p → PyOk G.K H k v p
  | 0, _, _, _, _, e => by cases e
  | k + 1, v, d, p, r, e => by
    cases d with
    | non =>
      cases e; cases r
      exact ⟨fun P w h hok kin u ru => ⟨[], by cases ru; exact .none⟩, by simp [PyData.showable], by simp [PyData.hasDict], by simp [PyData.depth]⟩
    | bl b =>
      cases e; cases r
      exact ⟨fun P w h hok kin u ru => ⟨[], by cases ru; exact .bool b⟩, by simp [PyData.showable], by simp [PyData.hasDict], by simp [PyData.depth]⟩
    | int i =>
      unfold pyD at e
      split at e
      · rename_i hi
        cases e; cases r
        refine ⟨fun P w h hok kin u ru => ⟨[], ?_⟩, by simp [PyData.showable, natAbs_log hi], by simp [PyData.hasDict], by simp [PyData.depth]⟩
        obtain ⟨t, rfl⟩ := ru
        exact .int i t
      · cases e
    | str s =>
      cases e; cases r
      refine ⟨fun P w h hok kin u ru => ⟨[], ?_⟩, by simp [PyData.showable], by simp [PyData.hasDict], by simp [PyData.depth]⟩
      obtain ⟨t, rfl⟩ := ru
      exact .str s t
    | tup xs =>
      have e' : (pyDs (pyD S k) xs).map PyData.tuple = some p := e
      obtain ⟨ps, e1, rfl⟩ := Option.map_eq_some_iff.mp e'
      cases r with
      | tup h z rs =>
        obtain ⟨r1, r2, r3, r4⟩ := pyDs_ok (pyD_ok R k) rs e1
        exact ⟨rd_tup h r1, by simp [PyData.showable, r2], by simp [PyData.hasDict, r3], by simp [PyData.depth]; omega⟩
    | lst xs =>
      have e' : (pyDs (pyD S k) xs).map PyData.list = some p := e
      obtain ⟨ps, e1, rfl⟩ := Option.map_eq_some_iff.mp e'
      cases r with
      | lst h _ _ z rs =>
        obtain ⟨r1, r2, r3, r4⟩ := pyDs_ok (pyD_ok R k) rs e1
        exact ⟨rd_list h r1, by simp [PyData.showable, r2], by simp [PyData.hasDict, r3], by simp [PyData.depth]; omega⟩
    | ref n =>
      unfold pyD at e
      split at e
      · rename_i xs hn
        obtain ⟨ps, e1, rfl⟩ := Option.map_eq_some_iff.mp e
        cases r with
        | ref ha =>
          obtain ⟨b, hb, vs, h, z, rs⟩ := R.at_ n _ hn
          cases hb.symm.trans ha
          obtain ⟨r1, r2, r3, r4⟩ := pyDs_ok (pyD_ok R k) rs e1
          exact ⟨rd_list h r1, by simp [PyData.showable, r2], by simp [PyData.hasDict, r3], by simp [PyData.depth]; omega⟩
      · cases e
    | _ => cases e
end
def vStrG : MF
  | [.non], S => vStrC [.non] S
  | [.str z], S => vStrC [.str z] S
  | [.int i], S => vStrC [.int i] S
  | [.bl _], _ => .stuck
  | [d], S => match pyD S 8 d with
    | some p => if p.shown.length ≤ 1000000 ∧ PyData.strOk p.shown = true then .ok (.str p.shown) S false else .stuck
    | none => .stuck
  | _, _ => .stuck
def rStrD (K : PySem.W.Frag) : List V → Hp → VK → Prop := fun xs H Q => ∃ a p, xs = [.ref a] ∧ PyOk K H 8 (.ref a) p ∧ p.shown.length ≤ sizeLine ∧ Q (.str p.shown) H
theorem call_strD {X : Cx} (hg : X.A.guards = some []) (hu : X.A.units + 64 < cLine) : CallR X (.type "str") (rStrD X.K) := by
  rintro pins s σ H xs us Q I r ⟨a, p, rfl, o, hz, q⟩
  obtain ⟨u, rfl, ru⟩ := vals1 r
  obtain rfl : u = .ref a := ru
  obtain ⟨as, rd⟩ := o.rd _ _ _ I.hok I.kIn _ rfl
  refine PySem.str_of_reads rd o.sh (PyData.noDict_hsm o.nd) hg (by have := o.dp; omega) (fun _ _ e => e) (fun h' u tk keep => ?_) hz
  exact ⟨.str p.shown, H, I.kept keep, ⟨_, rfl⟩, q⟩
theorem call_strG {X : Cx} (hg : X.A.guards = some []) (hu : X.A.units + 64 < cLine) : CallR X (.type "str") (fun xs H Q => rStrC xs H Q ∨ rStrD X.K xs H Q) := CallR.or call_strC (call_strD hg hu)
theorem vStrG_ok {G : Gam} : CallS G (fun xs H Q => rStrC xs H Q ∨ rStrD G.K xs H Q) vStrG := by
  intro W σ H pi rho S xs ds Q R rx h
  unfold vStrG at h
  split at h
  · exact .inl (vStrC_ok W σ H pi rho S _ _ Q R rx h)
  · exact .inl (vStrC_ok W σ H pi rho S _ _ Q R rx h)
  · exact .inl (vStrC_ok W σ H pi rho S _ _ Q R rx h)
  · exact h.elim
  · rename_i d n1 n2 n3 n4
    split at h
    · rename_i p e
      split at h
      · rename_i hp
        obtain ⟨x, rfl, r⟩ := rx.one
        have o := pyD_ok R 8 x d p r e
        have hx : ∃ a, x = .ref a := by
          cases r <;> first | exact ⟨_, rfl⟩ | exact (n1 rfl).elim | exact (n2 _ rfl).elim | exact (n3 _ rfl).elim | exact (n4 _ rfl).elim
        obtain ⟨a, rfl⟩ := hx
        exact .inr ⟨a, p, rfl, o, Nat.le_trans hp.1 (by decide), h.fin R (.str hp.2)⟩
      · exact h.elim
    · exact h.elim
  · exact h.elim
end DL
/-! a comprehension over a zip of two lists that may both change -/
namespace DL
open PySem PySem.Spec PyProof.Rows L2
/-- the iterator J walks the items while the store is as gd says -/
structure WalkP (G : Gam) (H1 : Hp) (pi1 rho : List Addr) (items : List D) (gd : Store → Bool) (J : It) : Prop where
  fit : items.length ≤ sizeLine
  go : ∀ (rho' : List Addr) (i : Nat) (H' : Hp) (pi' : List Addr) (S' : Store) (d : D), Rel G H' pi' rho' S' → Ext H1 pi1 rho H' pi' rho' → gd S' = true → items[i]? = some d →
    J.go i H' ∧ ∀ x H'', J.yld i H' x H'' → Rel G H'' pi' rho' S' ∧ Go H' pi' rho' H'' pi' ∧ RV G H'' pi' rho' x d
  stop : ∀ (rho' : List Addr) (i : Nat) (H' : Hp) (pi' : List Addr) (S' : Store), Rel G H' pi' rho' S' → Ext H1 pi1 rho H' pi' rho' → gd S' = true → items.length ≤ i → J.stop i H'
inductive IRP where
  | ok (items : List D) (gd : Store → Bool) (S : Store)
  | exc (e : Exc) (S : Store)
  | stuck
abbrev MIP := Env' → Store → IRP
def PostP (G : Gam) (W : WX) (σ : L2.St) (H : Hp) (pi rho : List Addr) (R : It → Hp → Prop) : IRP → Prop
  | .ok items g S1 => ∀ H1 pi1 J, Rel G H1 pi1 rho S1 → Go H pi rho H1 pi1 → WalkP G H1 pi1 rho items g J → R J H1
  | .exc e S1 => ∀ cls dx H1 pi1, Rel G H1 pi1 rho S1 → Go H pi rho H1 pi1 → RExc G H1 rho e cls dx → W cls dx σ H1
  | .stuck => False
def DIwP (X : Cx) (c : Ctx) (W : WX) (wi : TI) (mi : MIP) : Prop := ∀ {σ : L2.St} {H : Hp} {pi rho : List Addr} {S : Store} {env : Env'} {R : It → Hp → Prop}, Rel (gm X c) H pi rho S → REnv (gm X c) H pi rho σ env → PostP (gm X c) W σ H pi rho R (mi env S) → wi σ H R
def DIP (X : Cx) (c : Ctx) (W : WX) (tg iter : Expr) (mi : MIP) : Prop := ∃ wi, PI X tg iter wi ∧ DIwP X c W wi mi
def compP (gd : Store → Bool) (g : MG) (t : Option ME) (m : ME) (env : Env') : List D → List D → Store → Res
  | [], acc, S => if gd S = true then .ok (.lst acc) S true else .stuck
  | x :: r, acc, S => if gd S = true then (match g x env S with
    | some env1 => (match oTest t env1 S with
      | .ok (.bl true) S1 _ => (match m env1 S1 with
        | .ok d S2 _ => compP gd g t m env r (acc ++ [d]) S2
        | _ => .stuck)
      | .ok (.bl false) S1 _ => compP gd g t m env r acc S1
      | _ => .stuck)
    | none => .stuck) else .stuck
def eCompP (own : List Nat) (mi : MIP) (g : MG) (t : Option ME) (m : ME) : ME := fun env S => match mi env S with
  | .ok items gd S1 => compP gd g t m (wipeE env own) items [] S1
  | .exc e S1 => .exc e S1
  | .stuck => .stuck
section
variable {X : Cx} {c : Ctx} {W : WX} {elt tg iter : Expr} {ifs : List Expr} {scope : Scope} {own : List (Str × Nat)} {pos : Pos} {mi : MIP} {g : MG} {t : Option ME} {m : ME} {is : List Nat}
theorem comp_okP {σ : L2.St} {H H1 : Hp} {pi pi1 rho : List Addr} {S1 : Store} {env : Env'} {Q : VK} {items : List D} {gd : Store → Bool} {J : It} {vs : List Nat} {tt : TT} {G : Gam} {gT : TG} (N : REnv G H1 pi1 rho σ env) (R1 : Rel G H1 pi1 rho S1) (w : WalkP G H1 pi1 rho items gd J)
    (hg : ∀ v σ H Q, (∃ pi rho S env d env', Rel G H pi rho S ∧ REnv G H pi rho σ env ∧ RV G H pi rho v d ∧ g d env S = some env' ∧ ∀ σ', REnv G H pi rho σ' env' → WipeAs σ' σ is → Q σ' H) → gT v σ H Q) (his : ∀ i ∈ is, i ∈ vs)
    (ht : ∀ {σ : L2.St} {H : Hp} {pi rho : List Addr} {S : Store} {env : Env'} {Q : Bool → Hp → Prop}, Rel G H pi rho S → REnv G H pi rho σ env → PostE G W0 σ H pi rho (fun v H' => ∃ k, v = .bl k ∧ Q k H') (oTest t env S) → tt σ H Q)
    (h : PostE G W σ H1 pi1 rho Q (compP gd g t m (wipeE env vs) items [] S1)) :
    ∀ Dd, H1 Dd = none → ∃ Wv : Nat → Nat → Hp → Prop, (∃ m, Wv 0 m (upd H1 Dd (.lst []))) ∧ ∀ i k H, Wv i k H →
      (J.stop i H ∧ Q (.ref Dd) H) ∨ (J.go i H ∧ ∃ Nx : Hp → Prop, (∀ H', Nx H' → ∃ m', m' < k ∧ Wv (i + 1) m' H') ∧ ∀ x H', J.yld i H x H' → gT x (wipe σ vs) H' fun σ2 H2 => wipe σ2 vs = wipe σ vs ∧ tt σ2 H2 fun b H3 =>
        if b = true then tD G W0 m σ2 H3 fun y H4 => ∃ acc, H4 Dd = some (.lst acc) ∧ acc.length < sizeLine ∧ Nx (upd H4 Dd (.lst (acc ++ [y]))) else Nx H3) := by
  intro Dd hD
  have hDr : Dd ∉ rho := R1.freeR hD
  have x0 : Ext H1 pi1 rho (upd H1 Dd (.lst [])) pi1 (Dd :: rho) := Ext.newR hD
  -- what holds between the turns
  refine ⟨fun i k H' => k = items.length - i ∧ i ≤ items.length ∧ ∃ pi' S' acc vs', Rel G H' pi' (Dd :: rho) S' ∧ Ext (upd H1 Dd (.lst [])) pi1 (Dd :: rho) H' pi' (Dd :: rho) ∧ (∀ a o, a ∈ rho → H1 a = some o → H' a = some o) ∧ (∀ a, a ∈ pi' → a ∉ pi1 → H1 a = none) ∧
      H' Dd = some (.lst vs') ∧ RVs G H' pi' (Dd :: rho) vs' acc ∧ acc.length ≤ i ∧ PostE G W σ H1 pi1 rho Q (compP gd g t m (wipeE env vs) (items.drop i) acc S'), ⟨_, rfl, Nat.zero_le _, pi1, S1, [], [], R1.newR hD, .refl, fun a o m e => ?_, fun a h n => (n h).elim, upd_same, .nil, Nat.zero_le _, by rw [List.drop_zero]; exact h⟩, ?_⟩
  · rw [upd_ne (ne_of_none e hD)]; exact e
  rintro i k H' ⟨rfl, hi, pi', S', acc, vs', R', x', res', new', hDl, qacc, hacc, h'⟩
  have xx := x0.trans x'
  by_cases hlt : i < items.length
  · have ed : items.drop i = items[i] :: items.drop (i + 1) := List.drop_eq_getElem_cons hlt
    have ei : items[i]? = some items[i] := List.getElem?_eq_getElem hlt
    rw [ed] at h'
    unfold compP at h'
    split at h'
    · rename_i gok
      obtain ⟨go, yld⟩ := w.go (Dd :: rho) i H' pi' S' _ R' xx gok ei
      refine .inr ⟨go, fun H3 => ∃ pi3 S3 acc3 vs3, Rel G H3 pi3 (Dd :: rho) S3 ∧ Ext (upd H1 Dd (.lst [])) pi1 (Dd :: rho) H3 pi3 (Dd :: rho) ∧ (∀ a o, a ∈ rho → H1 a = some o → H3 a = some o) ∧ (∀ a, a ∈ pi3 → a ∉ pi1 → H1 a = none) ∧
        H3 Dd = some (.lst vs3) ∧ RVs G H3 pi3 (Dd :: rho) vs3 acc3 ∧ acc3.length ≤ i + 1 ∧ PostE G W σ H1 pi1 rho Q (compP gd g t m (wipeE env vs) (items.drop (i + 1)) acc3 S3), fun H3 ⟨pi3, S3, acc3, vs3, a⟩ => ⟨_, by omega, rfl, hlt, pi3, S3, acc3, vs3, a⟩, fun x H2 hy => ?_⟩
      obtain ⟨R2, g2, rx⟩ := yld x H2 hy
      split at h'
      · rename_i env1 eg
        refine hg _ _ _ _ ⟨pi', Dd :: rho, S', _, _, env1, R2, ((N.mono (xx.trans g2.x)).wipe vs), rx, eg, fun σ2 N2 w2 => ⟨(w2 vs his).trans (wipe_wipe σ vs), ?_⟩⟩
        · refine ht R2 N2 ?_
          have stepG : ∀ {H3 pi3}, Go H2 pi' (Dd :: rho) H3 pi3 → (∀ a, a ∈ pi3 → a ∉ pi1 → H1 a = none) := fun {H3 pi3} g3 a h n => by
            by_cases m : a ∈ pi'
            · exact new' a m n
            · have z := (g2.trans g3).new' a h m
              cases e : H1 a with
              | none => rfl
              | some o => exact absurd z (xx.dom a (by rw [e]; exact fun z => by cases z))
          cases et : oTest t env1 S' with
          | exc e S3 => rw [et] at h'; exact h'.elim
          | stuck => rw [et] at h'; exact h'.elim
          | ok b S3 fr =>
            rw [et] at h'
            cases b with
            | bl b =>
              intro v H3 pi3 R3 r3 g3 _
              refine ⟨b, bl_of r3, ?_⟩
              have gg := g2.trans g3
              have hD3 : H3 Dd = some (.lst vs') := gg.res _ _ List.mem_cons_self hDl
              cases b with
              | false =>
                rw [if_neg Bool.false_ne_true]
                exact ⟨pi3, S3, acc, vs', R3, x'.trans gg.x, fun a o m e => gg.res a o (List.mem_cons_of_mem _ m) (res' a o m e), stepG g3, hD3, qacc.mono gg.x, by omega, h'⟩
              | true =>
                rw [if_pos rfl]
                refine ⟨pi3, Dd :: rho, S3, env1, R3, N2.mono g3.x, ?_⟩
                dsimp only at h'
                cases em : m env1 S3 with
                | exc e S4 => rw [em] at h'; exact h'.elim
                | stuck => rw [em] at h'; exact h'.elim
                | ok d S4 fr4 =>
                  rw [em] at h'
                  intro y H4 pi4 R4 r4 g4 _
                  have ga := gg.trans g4
                  have hD4 : H4 Dd = some (.lst vs') := ga.res _ _ List.mem_cons_self hDl
                  have q4 : RVs G H4 pi4 (Dd :: rho) (vs' ++ [y]) (acc ++ [d]) := (qacc.mono ga.x).append (.cons r4 .nil)
                  have hz : vs'.length < sizeLine := by
                    have := qacc.length
                    have := w.fit
                    omega
                  have xu : Ext H4 pi4 (Dd :: rho) (upd H4 Dd (.lst (vs' ++ [y]))) pi4 (Dd :: rho) := Ext.updR hD4
                  refine ⟨vs', hD4, hz, pi4, S4, acc ++ [d], vs' ++ [y], R4.updR hD4, (x'.trans ga.x).trans xu, fun a o m e => ?_, stepG (g3.trans g4), upd_same, q4.mono xu, by rw [List.length_append]; show acc.length + 1 ≤ i + 1; omega, h'⟩
                  have hne : a ≠ Dd := fun z => hDr (z ▸ m)
                  rw [upd_ne hne]
                  exact ga.res a o (List.mem_cons_of_mem _ m) (res' a o m e)
            | _ => exact h'.elim
      · exact h'.elim
    · exact h'.elim
  · have ed : items.drop i = [] := List.drop_eq_nil_of_le (by omega)
    rw [ed] at h'
    unfold compP at h'
    split at h'
    · rename_i gok
      refine .inl ⟨w.stop (Dd :: rho) i H' pi' S' R' xx gok (by omega), ?_⟩
      have hpi : Dd ∉ pi' := fun q => R'.dis Dd q List.mem_cons_self
      have hz : vs'.length ≤ sizeLine := by
        have := qacc.length
        have := w.fit
        omega
      have gg : Go H1 pi1 rho H' pi' := ⟨xx.trans .unres, res', new'⟩
      exact h' (.ref Dd) H' pi' R'.unres (.lst hDl hpi hDr hz (qacc.mono .unres)) gg fun _ => ⟨Dd, _, rfl, hD, hDr, rfl, ⟨vs', hDl, hz, qacc⟩, R'⟩
    · exact h'.elim
theorem comp_lcP0 {wi : TI} (k : DIwP X c W wi mi)
    (hg : ∀ (s : Shared) (H : Hp) (C : Addr) (cl : List (Str × Addr)) (fp : List Addr), DG (Blk X scope s H C cl fp) c tg g is) (his : ∀ i ∈ is, i ∈ own.map (·.2))
    (ht : ∀ (s : Shared) (H : Hp) (C : Addr) (cl : List (Str × Addr)) (fp : List Addr), DIf (Blk X scope s H C cl fp) c ifs t) :
    ∃ (gT : TG) (tt : TT), (∀ (s : Shared) (H : Hp) (C : Addr) (cl : List (Str × Addr)) (fp : List Addr), PG (Blk X scope s H C cl fp) tg gT) ∧ (∀ (s : Shared) (H : Hp) (C : Addr) (cl : List (Str × Addr)) (fp : List Addr), PTs (Blk X scope s H C cl fp) ifs tt) ∧
      ∀ (σ : L2.St) (H : Hp) (Q : VK), tD (gm X c) W (eCompP (own.map (·.2)) mi g t m) σ H Q → tLc wi gT tt (tD (gm X c) W0 m) (own.map (·.2)) σ H Q := by
  have hpt : ∃ tt : TT, (∀ (s : Shared) (H : Hp) (C : Addr) (cl : List (Str × Addr)) (fp : List Addr), PTs (Blk X scope s H C cl fp) ifs tt) ∧ ∀ {σ : L2.St} {H : Hp} {pi rho : List Addr} {S : Store} {env : Env'} {Q : Bool → Hp → Prop}, Rel (gm X c) H pi rho S → REnv (gm X c) H pi rho σ env → PostE (gm X c) W0 σ H pi rho (fun v H' => ∃ k, v = .bl k ∧ Q k H') (oTest t env S) → tt σ H Q := by
    cases t with
    | none =>
      refine ⟨tYes, fun s H C cl fp => ?_, fun R N h => ?_⟩
      · cases ht s H C cl fp with | none => exact pts_nil
      · obtain ⟨k, e, q⟩ := PostE.fin h R (.bl true)
        cases e; exact q
    | some mt =>
      refine ⟨tB (tD (gm X c) W0 mt), fun s H C cl fp => ?_, fun R N h => ⟨_, _, _, _, R, N, h⟩⟩
      cases ht s H C cl fp with | one h => exact pts_one h
  obtain ⟨tt, hpt, htt⟩ := hpt
  refine ⟨fun v σ H Q => ∃ pi rho S env d env', Rel (gm X c) H pi rho S ∧ REnv (gm X c) H pi rho σ env ∧ RV (gm X c) H pi rho v d ∧ g d env S = some env' ∧ ∀ σ', REnv (gm X c) H pi rho σ' env' → WipeAs σ' σ is → Q σ' H, tt, fun s H C cl fp => hg s H C cl fp, hpt, fun σ H Q ⟨pi, rho, S, env, R, N, h⟩ => ?_⟩
  refine k R N ?_
  unfold eCompP at h
  cases em : mi env S with
  | stuck => rw [em] at h; exact h
  | exc e S1 => rw [em] at h; exact h
  | ok items gd S1 =>
    rw [em] at h
    intro H1 pi1 J R1 g1 w
    have h := PostE.base g1 h
    exact comp_okP (G := gm X c) (W := W) (H := H) (pi := pi) (N.mono g1.x) R1 w (fun v σ H Q q => q) his htt h
theorem comp_lcP (hi : DIP X c W tg iter mi)
    (hg : ∀ (s : Shared) (H : Hp) (C : Addr) (cl : List (Str × Addr)) (fp : List Addr), DG (Blk X scope s H C cl fp) c tg g is) (his : ∀ i ∈ is, i ∈ own.map (·.2))
    (ht : ∀ (s : Shared) (H : Hp) (C : Addr) (cl : List (Str × Addr)) (fp : List Addr), DIf (Blk X scope s H C cl fp) c ifs t) :
    ∃ (wi : TI) (gT : TG) (tt : TT), PI X tg iter wi ∧ (∀ (s : Shared) (H : Hp) (C : Addr) (cl : List (Str × Addr)) (fp : List Addr), PG (Blk X scope s H C cl fp) tg gT) ∧ (∀ (s : Shared) (H : Hp) (C : Addr) (cl : List (Str × Addr)) (fp : List Addr), PTs (Blk X scope s H C cl fp) ifs tt) ∧
      ∀ (σ : L2.St) (H : Hp) (Q : VK), tD (gm X c) W (eCompP (own.map (·.2)) mi g t m) σ H Q → tLc wi gT tt (tD (gm X c) W0 m) (own.map (·.2)) σ H Q := by
  obtain ⟨wi, pi_, k⟩ := hi
  obtain ⟨gT, tt, r⟩ := comp_lcP0 (m := m) k hg his ht
  exact ⟨wi, gT, tt, pi_, r⟩
theorem de_compP (hc : X.calm = true) (hN : X.N.Nodup) (hi : DIP X c W tg iter mi) (ok : BlkOk X.N X.env.scope scope own)
    (hg : ∀ (s : Shared) (H : Hp) (C : Addr) (cl : List (Str × Addr)) (fp : List Addr), DG (Blk X scope s H C cl fp) c tg g is)
    (ht : ∀ (s : Shared) (H : Hp) (C : Addr) (cl : List (Str × Addr)) (fp : List Addr), DIf (Blk X scope s H C cl fp) c ifs t)
    (he : ∀ (s : Shared) (H : Hp) (C : Addr) (cl : List (Str × Addr)) (fp : List Addr), DE (Blk X scope s H C cl fp) c W0 elt m) (his : ∀ i ∈ is, i ∈ own.map (·.2) := by decide) (hs : ∀ x, foldedSetIterable iter X.env x = pure x := by intro _; rfl) :
    DE X c W (.ListComp elt [⟨tg, iter, ifs, 0⟩] scope pos) (eCompP (own.map (·.2)) mi g t m) := by
  obtain ⟨wi, gT, tt, h1, h2, h3, h4⟩ := comp_lcP (m := m) hi hg his ht
  exact PE_weak (pe_lc (te := tD (gm X c) W0 m) hc hN h1 ok h2 h3 (fun s H C cl fp => he s H C cl fp) hs) h4
end
def fZipP : List D → Store → IRP
  | [x, y], S => (match itemsOf S x, itemsOf S y with
    | some (xs, g), some (ys, g') => .ok (zipD xs ys) (fun S' => decide (gdOk g S' ∧ gdOk g' S')) S
    | _, _ => .stuck)
  | _, _ => .stuck
def iArgP (f : List D → Store → IRP) (ms : List ME) : MIP := fun env S => match eArgs ms env S with
  | .ok ds S1 => f ds S1
  | .exc e S1 => .exc e S1
  | .stuck => .stuck
theorem tDA_bindP {G : Gam} {W : WX} {σ : L2.St} {H : Hp} {pi rho : List Addr} {S : Store} {env : Env'} {ms : List ME} {f : List D → Store → IRP} {Q : It → Hp → Prop} {Q' : List V → Hp → Prop} (R : Rel G H pi rho S) (N : REnv G H pi rho σ env)
    (h : PostP G W σ H pi rho Q (iArgP f ms env S)) (k : ∀ v H1 d pi1 S1, Rel G H1 pi1 rho S1 → RVs G H1 pi1 rho v d → Go H pi rho H1 pi1 → PostP G W σ H pi rho Q (f d S1) → Q' v H1) : tDA G W ms σ H Q' := by
  refine ⟨pi, rho, S, env, R, N, ?_⟩
  unfold iArgP at h
  cases e : eArgs ms env S with
  | ok d S1 =>
    rw [e] at h
    exact fun v H1 pi1 R1 r g => k v H1 d pi1 S1 R1 r g h
  | exc x S1 => rw [e] at h; exact h
  | stuck => rw [e] at h; exact h
section
variable {G : Gam} {H H1 H' : Hp} {pi pi1 pi' rho rho1 rho' : List Addr} {S S' : Store}
theorem walk_zP {q1 q2 : Zs} {gd : Store → Bool} {ds es : List D} (hz : ds.length ≤ sizeLine) (h : ∀ rho' H' pi' S', Rel G H' pi' rho' S' → Ext H1 pi1 rho H' pi' rho' → gd S' = true → ∃ ws us, (q1.has G.K H' ws ∧ RVs G H' pi' rho' ws ds) ∧ (q2.has G.K H' us ∧ RVs G H' pi' rho' us es)) :
    WalkP G H1 pi1 rho (zipD ds es) gd (ItzM G.K q1 q2 ds.length es.length) := by
  have hl : (zipD ds es).length = min ds.length es.length := by unfold zipD; simp
  refine ⟨by omega, ?_, ?_⟩
  · intro rho' i H' pi' S' d R x g e
    have hi : i < min ds.length es.length := hl ▸ (List.getElem?_eq_some_iff.mp e).1
    have ed : ds[i]? = some ds[i] := List.getElem?_eq_getElem (by omega)
    have ee : es[i]? = some es[i] := List.getElem?_eq_getElem (by omega)
    unfold zipD at e
    rw [List.getElem?_map, List.getElem?_range hi, Option.map_some, ed, ee] at e
    cases e
    obtain ⟨ws, us, ⟨hs, qw⟩, ht, qu⟩ := h rho' H' pi' S' R x g
    obtain ⟨v, ev, rv⟩ := qw.get ed
    obtain ⟨u, eu, ru⟩ := qu.get ee
    refine ⟨⟨ws, us, v, u, ⟨hs, qw.length⟩, ⟨ht, qu.length⟩, ev, eu⟩, ?_⟩
    rintro y H'' ⟨T, p, q, rfl, hT, rfl, hy1, hy2⟩
    have e1 := hy1 ws hs
    have e2 := hy2 us ht
    rw [ev] at e1
    rw [eu] at e2
    cases e1; cases e2
    exact new_pair R hT rv ru
  · intro rho' i H' pi' S' R x g e
    obtain ⟨ws, us, ⟨hs, qw⟩, ht, qu⟩ := h rho' H' pi' S' R x g
    exact ⟨ws, us, ⟨hs, qw.length⟩, ⟨ht, qu.length⟩, by omega⟩
end
section
variable {X : Cx} {c : Ctx} {W : WX} {m : ME}
theorem di_zipP {e e2 : Expr} {m2 : ME} {elts : List Expr} {kk : Nat} {p pos tpos : Pos} (hg : Gl X "zip") (hm : X.mg "zip" = none) (ha : DA X c W [e, e2] [m, m2])
    (hs : starEach [e, e2] X.env = (false, eval e X.env) :: starEach [e2] X.env := by rfl) (hpl : (backTo pos (starEach [e2] X.env)).any (·.1) = false := by rfl) :
    DIP X c W (.Tuple elts kk tpos) (.Call (.Name "zip" p) [e, e2] [] pos) (iArgP fZipP [m, m2]) := by
  refine ⟨_, pi_zipM hg hm ha hs hpl, fun {σ H pi rho S env RR} R N h => ?_⟩
  refine tDA_bindP R N h fun vs H1 ds pi1 S1 R1 r g h => ?_
  match ds, r, h with
  | [x, y], r, h =>
    have h : PostP (gm X c) W σ H pi rho RR (match itemsOf S1 x, itemsOf S1 y with
      | some (xs, g), some (ys, g') => .ok (zipD xs ys) (fun S' => decide (gdOk g S' ∧ gdOk g' S')) S1
      | _, _ => .stuck) := h
    obtain ⟨v, u, rfl, rx, ry⟩ := r.two
    cases ei : itemsOf S1 x with
    | none => rw [ei] at h; exact h.elim
    | some q =>
      cases ej : itemsOf S1 y with
      | none => rw [ei, ej] at h; exact h.elim
      | some q' =>
        obtain ⟨xs, gd⟩ := q
        obtain ⟨ys, gd'⟩ := q'
        rw [ei, ej] at h
        have h : PostP (gm X c) W σ H pi rho RR (.ok (zipD xs ys) (fun S' => decide (gdOk gd S' ∧ gdOk gd' S')) S1) := h
        obtain ⟨a, rfl, hz, ga, f⟩ := src_fits R1 rx ei
        obtain ⟨b, rfl, hz2, gb, f2⟩ := src_fits R1 ry ej
        obtain ⟨ws, h1, h2⟩ := f rho H1 pi1 S1 R1 .refl ga
        obtain ⟨us, h3, h4⟩ := f2 rho H1 pi1 S1 R1 .refl gb
        refine ⟨a, b, ws, us, rfl, h1, h3, ?_⟩
        rw [h2.length, h4.length]
        refine h H1 pi1 _ R1 g (walk_zP hz fun rho' H' pi' S' R' x g => ?_)
        have g := of_decide_eq_true g
        obtain ⟨w1, h1, h2⟩ := f rho' H' pi' S' R' x g.1
        obtain ⟨w2, h3, h4⟩ := f2 rho' H' pi' S' R' x g.2
        exact ⟨w1, w2, ⟨h1, h2⟩, h3, h4⟩
end
/-! ### plainly -/
section
variable {E : KE} {P : KV'} {S : Store} {env : Env'}
theorem ok_compMapP {gd : Store → Bool} {g : MG} {m : ME} (h : D → D) {xs : List D} (h0 : gd S = true) (hs : ∀ x ∈ xs, ∃ env1, g x env S = some env1 ∧ Ok NoE (m env1 S) fun d S' _ => d = h x ∧ S' = S) (hd : P (.lst (xs.map h)) S true) : Ok E (compP gd g none m env xs [] S) P := by
  have key : ∀ (l acc : List D), (∀ x ∈ l, ∃ env1, g x env S = some env1 ∧ Ok NoE (m env1 S) fun d S' _ => d = h x ∧ S' = S) → P (.lst (acc ++ l.map h)) S true → Ok E (compP gd g none m env l acc S) P := by
    intro l
    induction l with
    | nil =>
      intro acc _ q
      unfold compP
      rw [if_pos h0]
      rw [List.map_nil, List.append_nil] at q
      exact q
    | cons x l ih =>
      intro acc hl q
      obtain ⟨env1, e1, o⟩ := hl x List.mem_cons_self
      unfold compP
      rw [if_pos h0, e1]
      show Ok E (match m env1 S with
        | .ok d S2 _ => compP gd g none m env l (acc ++ [d]) S2
        | _ => .stuck) P
      cases em : m env1 S with
      | stuck => rw [em] at o; exact o.elim
      | exc e S2 => rw [em] at o; exact o.elim
      | ok d S2 fr =>
        rw [em] at o
        obtain ⟨rfl, rfl⟩ := o
        exact ih _ (fun y hy => hl y (List.mem_cons_of_mem _ hy)) (by rw [List.append_assoc]; exact q)
  exact key xs [] hs hd
theorem eCompP_zip {own : List Nat} {g : MG} {t : Option ME} {m ma mb : ME} {x y : D} {xs ys : List D} {g1 g2 : Option (Nat × List D)} {f1 f2 : Bool} (ea : ma env S = .ok x S f1) (eb : mb env S = .ok y S f2) (e1 : itemsOf S x = some (xs, g1)) (e2 : itemsOf S y = some (ys, g2)) :
    eCompP own (iArgP fZipP [ma, mb]) g t m env S = compP (fun S' => decide (gdOk g1 S' ∧ gdOk g2 S')) g t m (wipeE env own) (zipD xs ys) [] S := by
  have ez : iArgP fZipP [ma, mb] env S = .ok (zipD xs ys) (fun S' => decide (gdOk g1 S' ∧ gdOk g2 S')) S := by
    have ee : eArgs [ma, mb] env S = .ok [x, y] S := by simp [eArgs, ea, eb, Res.binda, ARes.cons]
    unfold iArgP
    rw [ee]
    show (match itemsOf S x, itemsOf S y with
      | some (xs, g), some (ys, g') => IRP.ok (zipD xs ys) (fun S' => decide (gdOk g S' ∧ gdOk g' S')) S
      | _, _ => .stuck) = _
    rw [e1, e2]
  unfold eCompP
  rw [ez]
end
end DL
/-! the text of a value: its signs, its size -/
namespace DL
open PySem PyProof.Rows L2
theorem char_low (ch : Char) : ch.toNat < 0x110000 := by
  have h := ch.valid
  rcases h with h | ⟨_, h⟩
  · exact Nat.lt_trans h (by decide)
  · exact h
theorem ofS_ok (s : String) : PyData.strOk (Str.ofString s) = true := strOk_of fun c hc => by
  have e : (Str.ofString s).cps.toList = s.toList.map Char.toNat := TL.tl_ofString s
  rw [e] at hc
  obtain ⟨ch, _, rfl⟩ := List.mem_map.mp hc
  exact char_low ch
theorem app_ok {x y : Str} (hx : PyData.strOk x = true) (hy : PyData.strOk y = true) : PyData.strOk (x ++ y) = true := strOk_of fun c hc => by
  have e : (x ++ y).cps.toList = x.cps.toList ++ y.cps.toList := TL.tl_append x y
  rw [e] at hc
  exact (List.mem_append.mp hc).elim (fun h => strOk_mem hx c h) fun h => strOk_mem hy c h
open PySem.Builtin PySem.Builtin.Str in
theorem reprChar_low {q c : Nat} (hc : c < 0x110000) : ∀ x ∈ reprChar q c, x < 0x110000 := by
  have hex : ∀ w, ∀ x ∈ List.replicate (w - ((Nat.toDigits 16 c).map Char.toNat).length) 48 ++ (Nat.toDigits 16 c).map Char.toNat, x < 0x110000 := by
    intro w x hx
    rcases List.mem_append.mp hx with hx | hx
    · rw [List.eq_of_mem_replicate hx]; decide
    · obtain ⟨ch, _, rfl⟩ := List.mem_map.mp hx
      exact char_low ch
  have two : ∀ (a b : Nat) (l : List Nat), a < 0x110000 → b < 0x110000 → (∀ x ∈ l, x < 0x110000) → ∀ x ∈ [a, b] ++ l, x < 0x110000 := by
    intro a b l ha hb hl x hx
    rcases List.mem_append.mp hx with hx | hx
    · simp only [List.mem_cons, List.not_mem_nil, or_false] at hx
      rcases hx with rfl | rfl <;> assumption
    · exact hl x hx
  have pair : ∀ (a b : Nat), a < 0x110000 → b < 0x110000 → ∀ x ∈ [a, b], x < 0x110000 := by
    intro a b ha hb x hx
    simp only [List.mem_cons, List.not_mem_nil, or_false] at hx
    rcases hx with rfl | rfl <;> assumption
  unfold reprChar
  dsimp only
  split
  · exact pair _ _ (by decide) hc
  split
  · exact pair _ _ (by decide) (by decide)
  split
  · exact pair _ _ (by decide) (by decide)
  split
  · exact pair _ _ (by decide) (by decide)
  split
  · intro x hx
    rw [List.mem_singleton] at hx
    rw [hx]; exact hc
  split
  · exact two _ _ _ (by decide) (by decide) (hex 2)
  split
  · exact two _ _ _ (by decide) (by decide) (hex 4)
  · exact two _ _ _ (by decide) (by decide) (hex 8)
theorem fold_low (q : Nat) : ∀ (l : List Nat) (acc : Array Nat), (∀ c ∈ l, c < 0x110000) → (∀ c ∈ acc.toList, c < 0x110000) → ∀ c ∈ (l.foldl (fun out c => out ++ (PySem.Builtin.Str.reprChar q c).toArray) acc).toList, c < 0x110000
  | [], acc, _, h => h
  | d :: r, acc, h, ha => by
    refine fold_low q r _ (fun c hc => h c (List.mem_cons_of_mem _ hc)) fun c hc => ?_
    rw [Array.toList_append] at hc
    rcases List.mem_append.mp hc with hc | hc
    · exact ha c hc
    · exact reprChar_low (h d List.mem_cons_self) c (by simpa using hc)
theorem repr_ok {x : Str} (h : PyData.strOk x = true) : PyData.strOk (reprText x) = true := strOk_of fun c hc => by
  have hq : reprQuote x < 0x110000 := by unfold reprQuote; split <;> decide
  unfold reprText at hc
  have e : ((x.cps.foldl (fun out c => out ++ (PySem.Builtin.Str.reprChar (reprQuote x) c).toArray) #[reprQuote x]).push (reprQuote x)).toList = (x.cps.toList.foldl (fun out c => out ++ (PySem.Builtin.Str.reprChar (reprQuote x) c).toArray) #[reprQuote x]).toList ++ [reprQuote x] := by
    rw [Array.toList_push, ← Array.foldl_toList]
  have hc : c ∈ ((x.cps.foldl (fun out c => out ++ (PySem.Builtin.Str.reprChar (reprQuote x) c).toArray) #[reprQuote x]).push (reprQuote x)).toList := hc
  rw [e] at hc
  rcases List.mem_append.mp hc with hc | hc
  · refine fold_low (reprQuote x) x.cps.toList #[reprQuote x] (fun d hd => strOk_mem h d hd) (fun d hd => ?_) c hc
    have hd : d = reprQuote x := by simpa using hd
    rw [hd]; exact hq
  · rw [List.mem_singleton] at hc
    rw [hc]; exact hq
theorem text_ok : ∀ (ts : List Str) (k : Nat) (acc : Str), PyData.strOk acc = true → (∀ t ∈ ts, PyData.strOk t = true) → PyData.strOk (textFrom k acc ts) = true
  | [], _, acc, h, _ => h
  | t :: ts, k, acc, h, ht => by
    refine text_ok ts (k + 1) _ ?_ fun s hs => ht s (List.mem_cons_of_mem _ hs)
    exact app_ok (app_ok h (ofS_ok _)) (ht t List.mem_cons_self)
theorem joinS_ok {s : Str} (hs : PyData.strOk s = true) : ∀ ts : List Str, (∀ t ∈ ts, PyData.strOk t = true) → PyData.strOk (Str.join s ts) = true
  | [], _ => by show PyData.strOk (Str.ofString "") = true; exact ofS_ok _
  | [t], h => h t List.mem_cons_self
  | t :: u :: r, h => by
    show PyData.strOk (t ++ s ++ Str.join s (u :: r)) = true
    exact app_ok (app_ok (h t List.mem_cons_self) hs) (joinS_ok hs (u :: r) fun z hz => h z (List.mem_cons_of_mem _ hz))
/-- plain data whose texts are texts, less than k deep -/
def okP : Nat → PyData → Bool
  | 0, _ => false
  | _ + 1, .none => true
  | _ + 1, .bool _ => true
  | _ + 1, .int i => decide (i.natAbs < 1000000000)
  | _ + 1, .str s => PyData.strOk s
  | k + 1, .tuple xs => xs.all (okP k)
  | k + 1, .list xs => xs.all (okP k)
  | _ + 1, .dict _ => false
theorem shownAll_map : ∀ xs : List PyData, PyData.shownAll xs = xs.map PyData.shown
  | [] => by simp [PyData.shownAll]
  | x :: xs => by simp [PyData.shownAll, shownAll_map xs]
theorem shown_ok : ∀ (k : Nat) (p : PyData), okP k p = true → PyData.strOk p.shown = true
  | 0, _, h => by cases h
  | _ + 1, .none, _ => by simp only [PyData.shown]; exact ofS_ok _
  | _ + 1, .bool b, _ => by cases b <;> (simp only [PyData.shown]; exact ofS_ok _)
  | _ + 1, .int i, _ => by simp only [PyData.shown]; exact ofS_ok _
  | _ + 1, .str s, h => by simp only [PyData.shown]; exact repr_ok h
  | k + 1, .list xs, h => by
    have h : xs.all (okP k) = true := h
    rw [List.all_eq_true] at h
    simp only [PyData.shown, shownAll_map]
    refine app_ok (text_ok _ _ _ (ofS_ok _) fun t ht => ?_) (ofS_ok _)
    obtain ⟨x, hx, rfl⟩ := List.mem_map.mp ht
    exact shown_ok k x (h x hx)
  | k + 1, .tuple xs, h => by
    have h : xs.all (okP k) = true := h
    rw [List.all_eq_true] at h
    simp only [PyData.shown, shownAll_map]
    refine app_ok (app_ok (ofS_ok _) (joinS_ok (ofS_ok _) _ fun t ht => ?_)) (ofS_ok _)
    obtain ⟨x, hx, rfl⟩ := List.mem_map.mp ht
    exact shown_ok k x (h x hx)
  | _ + 1, .dict _, h => by cases h
theorem leavesAll : ∀ xs : List PyData, (∀ x ∈ xs, PyData.leavesShort 13 x = true) → PyData.leavesShortAll 13 xs = true
  | [], _ => by simp [PyData.leavesShortAll]
  | x :: xs, h => by
    simp only [PyData.leavesShortAll, h x List.mem_cons_self, leavesAll xs fun y hy => h y (List.mem_cons_of_mem _ hy), Bool.and_self]
theorem leaves_ok : ∀ (k : Nat) (p : PyData), okP k p = true → PyData.leavesShort 13 p = true
  | 0, _, h => by cases h
  | _ + 1, .none, _ => by simp [PyData.leavesShort]
  | _ + 1, .bool b, _ => by simp [PyData.leavesShort]
  | _ + 1, .int i, h => by
    have h := of_decide_eq_true (show decide (i.natAbs < 1000000000) = true from h)
    have := PyData.shown_int_le (i := i) (by omega)
    simp [PyData.leavesShort, this]
  | _ + 1, .str s, h => by
    simp only [PyData.leavesShort, List.all_eq_true, decide_eq_true_eq]
    intro c hc
    exact Nat.lt_trans (strOk_mem h c hc) (by decide)
  | k + 1, .list xs, h => by
    have h : xs.all (okP k) = true := h
    rw [List.all_eq_true] at h
    simp only [PyData.leavesShort]
    exact leavesAll xs fun x hx => leaves_ok k x (h x hx)
  | k + 1, .tuple xs, h => by
    have h : xs.all (okP k) = true := h
    rw [List.all_eq_true] at h
    simp only [PyData.leavesShort]
    exact leavesAll xs fun x hx => leaves_ok k x (h x hx)
  | _ + 1, .dict _, h => by cases h
theorem shown_few {k : Nat} {p : PyData} (h : okP k p = true) (hw : p.weight ≤ 60000) : p.shown.length ≤ 1000000 := by
  have := PyData.shown_le 13 (by decide) p (leaves_ok k p h)
  have h2 : (13 + 2) * p.weight ≤ 15 * 60000 := Nat.mul_le_mul_left 15 hw
  omega
/-- str(x), plainly -/
theorem vStrG_is {S : Store} {d : D} {p : PyData} (hd : ∀ s, d ≠ .str s) (h1 : d ≠ .non) (h2 : ∀ i, d ≠ .int i) (h3 : ∀ b, d ≠ .bl b) (e : pyD S 8 d = some p) (k : Nat) (h : okP k p = true) (hw : p.weight ≤ 60000) : vStrG [d] S = .ok (.str p.shown) S false := by
  have g : (match pyD S 8 d with
    | some p => if p.shown.length ≤ 1000000 ∧ PyData.strOk p.shown = true then Res.ok (.str p.shown) S false else .stuck
    | none => .stuck) = .ok (.str p.shown) S false := by
    rw [e]
    exact if_pos ⟨shown_few h hw, shown_ok k p h⟩
  cases d <;> first | exact g | exact (h1 rfl).elim | exact (hd _ rfl).elim | exact (h2 _ rfl).elim | exact (h3 _ rfl).elim
end DL
namespace G
open PySem L2 DL
set_option maxHeartbeats 4000000
def m_l_mixed : MF := dDef 1
  (sSeq (sSet 2 (eBin vMod (eBin vMulS (eBin vAdd (eBin vAdd (eBin vMod (eVar 0) (eC (.int 2147483629))) (eBin vMulS (eC (.int 69621)) (eVar 1))) (eC (.int 1))) (eC (.int 48271))) (eC (.int 2147483629))))
  (sSeq (sSet 2 (eBin vMod (eBin vMulS (eVar 2) (eBin vAdd (eBin vFdiv (eVar 2) (eC (.int 1009))) (eC (.int 69621)))) (eC (.int 2147483629))))
  (sSeq (sSet 2 (eBin vMod (eBin vMulS (eVar 2) (eBin vAdd (eBin vAdd (eBin vFdiv (eVar 2) (eC (.int 907))) (eC (.int 16807))) (eVar 1))) (eC (.int 2147483629))))
  (sRet (eBin vMod (eBin vMulS (eVar 2) (eBin vAdd (eBin vFdiv (eVar 2) (eC (.int 1201))) (eC (.int 30011)))) (eC (.int 2147483629)))))))
def m_l_digits : MF := dDef 0
  (sRet (eLst [(eBin vMulS (eBin vFdiv (eVar 0) (eC (.int 2))) (eBin vSub (eC (.int 1)) (eBin vMod (eVar 0) (eC (.int 2))))), (eVar 0), (eC (.int 0))]))
def m_l_next : MF := dDef 1
  (sSeq (sIf (eBin vGt (eBin vIdx (eVar 0) (eC (.int 0))) (eC (.int 0))) (sSeq (sSet 2 (eBin vMod (eBin vIdx (eVar 0) (eC (.int 0))) (eVar 1)))
  (sSeq (sItem (eVar 0) (eC (.int 0)) (eBin vFdiv (eBin vIdx (eVar 0) (eC (.int 0))) (eVar 1)))
  (sRet (eVar 2)))) sPass)
  (sSeq (sItem (eVar 0) (eC (.int 2)) (eBin vAdd (eBin vIdx (eVar 0) (eC (.int 2))) (eC (.int 1))))
  (sRet (eBin vMod (eCallF m_l_mixed [(eBin vIdx (eVar 0) (eC (.int 1))), (eBin vIdx (eVar 0) (eC (.int 2)))]) (eVar 1)))))
end G
namespace G
open PySem L2 DL
set_option maxHeartbeats 4000000
def m_is_name : MF := dDef 1
  (sSeq (sIf (eOr (eNot (eUn (vIsi .str) (eVar 0))) (eNot (eChain vLe vLe (eC (.int 1)) (eCallF vLen [(eVar 0)]) (eC (.int 8))))) (sRet (eC (.bl false))) sPass)
  (sRet (eCallF vAll [(eComp [1] (iVal (eVar 0)) (gN 1) none (eBin (vInX false) (eVar 1) (eC (.str "abcdefghijklmnopqrstuvwxyz"))))])))
end G
namespace G
open PySem L2 DL
set_option maxHeartbeats 4000000
end G
namespace G
open PySem L2 DL
set_option maxHeartbeats 4000000
end G
namespace G
open PySem L2 DL
set_option maxHeartbeats 4000000
end G
namespace G
open PySem L2 DL
set_option maxHeartbeats 4000000
end G
namespace G
open PySem L2 DL
set_option maxHeartbeats 4000000
end G
namespace G
open PySem L2 DL
set_option maxHeartbeats 4000000
def m_l_word : MF := dDef 2
  (sSeq (sSet 2 (eC (.str "abcdefghijklmnopqrstuvwxyz")))
  (sRet (eBM isStrD vJoin (eC (.str "")) [(eComp [3] (iArg fRng1 [(eCallF m_l_next [(eVar 0), (eBin vAdd (eVar 1) (eC (.int 1)))])]) (gN 3) none (eBin vIdx (eVar 2) (eCallF m_l_next [(eVar 0), (eC (.int 26))])))])))
def m_l_namesx : MF := dDef 7
  (sSeq (sSet 2 (eC (.str "abcdefghijklmnopqrstuvwxyz")))
  (sSeq (sSet 3 (eCallF m_l_next [(eVar 0), (eC (.int 3))]))
  (sSeq (sSet 4 (eCallF m_l_next [(eVar 0), (eC (.int 26))]))
  (sSeq (sIf (eBin vEq (eVar 3) (eC (.int 0))) (sSeq (sSet 7 (eLst [(eC (.str "tree")), (eC (.str "tie")), (eC (.str "any")), (eC (.str "a")), (eC (.str "ab")), (eC (.str "aba")), (eC (.str "b")), (eC (.str "mend")), (eC (.str "zzzzzzzz")), (eC (.str "ask")), (eC (.str "house")), (eC (.str "asker"))]))
  (sRet (eSlice (eBin vAdd (eSlice (eVar 7) (some (eBin vMod (eVar 4) (eC (.int 12)))) none) (eSlice (eVar 7) none (some (eBin vMod (eVar 4) (eC (.int 12)))))) none (some (eVar 1))))) sPass)
  (sSeq (sSet 5 (eCallF m_l_word [(eVar 0), (eC (.int 7))]))
  (sSeq (sSet 6 (eCallF m_l_next [(eVar 0), (eBin vAdd (eCallF vLen [(eVar 5)]) (eC (.int 1)))]))
  (sSeq (sIf (eBin vEq (eVar 3) (eC (.int 1))) (sRet (eComp [8] (iArg fRng1 [(eVar 1)]) (gN 8) none (eBin vAdd (eBin vAdd (eSlice (eVar 5) none (some (eVar 6))) (eBin vIdx (eVar 2) (eBin vMod (eBin vAdd (eVar 4) (eBin vMulS (eC (.int 2)) (eVar 8))) (eC (.int 26))))) (eSlice (eVar 5) (some (eVar 6)) none)))) sPass)
  (sRet (eComp [8] (iArg fRng1 [(eVar 1)]) (gN 8) none (eBin vAdd (eCallF m_l_word [(eVar 0), (eC (.int 7))]) (eBin vIdx (eVar 2) (eBin vMod (eBin vAdd (eVar 4) (eBin vMulS (eC (.int 2)) (eVar 8))) (eC (.int 26))))))))))))))
end G
namespace G
open PySem L2 DL
set_option maxHeartbeats 4000000
end G
namespace G
open PySem L2 DL
set_option maxHeartbeats 4000000
def Src (S : Store) (n : Nat) : Prop := ∃ a c k : Int, S[n]? = some (.lst [.int a, .int c, .int k])
def Adv (n : Nat) (S S' : Store) : Prop := ∃ a c k : Int, S' = S.set n (.lst [.int a, .int c, .int k])
theorem Src.lt {S : Store} {n : Nat} (h : Src S n) : n < S.length := by
  obtain ⟨a, c, k, h⟩ := h
  exact (List.getElem?_eq_some_iff.mp h).1
theorem Adv.src {S S' : Store} {n : Nat} (h : Src S n) (a : Adv n S S') : Src S' n := by
  obtain ⟨a, c, k, rfl⟩ := a
  exact ⟨a, c, k, List.getElem?_set_self h.lt⟩
theorem Adv.len {S S' : Store} {n : Nat} (a : Adv n S S') : S'.length = S.length := by
  obtain ⟨a, c, k, rfl⟩ := a
  exact List.length_set
theorem Adv.trans {S S' S'' : Store} {n : Nat} (a : Adv n S S') (b : Adv n S' S'') : Adv n S S'' := by
  obtain ⟨a, c, k, rfl⟩ := a
  obtain ⟨a, c, k, rfl⟩ := b
  exact ⟨_, _, _, List.set_set ..⟩
theorem mixed_ok {a k : Int} {S : Store} {E : KE} : Ok E (m_l_mixed [.int a, .int k] S) fun d S' _ => ∃ i, d = .int i ∧ S' = S := by
  unfold m_l_mixed; rw [ok_def]
  simp [kDef]
  omega
theorem digits_ok {a : Int} {S : Store} {E : KE} : Ok E (m_l_digits [.int a] S) fun d S' fr => ∃ i, d = .lst [.int i, .int a, .int 0] ∧ S' = S ∧ fr = true := by
  unfold m_l_digits; rw [ok_def]
  simp [kDef]
  omega
theorem next_ok {n : Nat} {m : Int} {S : Store} {E : KE} (h : Src S n) (hm : 0 < m) (hb : m < 1000000000000000000000000000000) : Ok E (m_l_next [.ref n, .int m] S) fun d S' _ => ∃ i, d = .int i ∧ 0 ≤ i ∧ i < m ∧ Adv n S S' := by
  have hn := h.lt
  obtain ⟨a, c, k, h⟩ := h
  have e0 : vIdx (.ref n) (.int 0) S = .ok (.int a) S false := vIdx_ref h rfl
  have e2 : vIdx (.ref n) (.int 2) S = .ok (.int k) S false := vIdx_ref h rfl
  unfold m_l_next; rw [ok_def]
  simp [kDef, e0, e2]
  by_cases ha : 0 < a
  · simp only [ha, if_true]
    refine ⟨hm, ⟨hm, hb⟩, _, vSetItem_ref h rfl, ?_⟩
    simp
    exact ⟨Int.emod_nonneg _ (by omega), Int.emod_lt_of_pos _ hm, _, _, _, rfl⟩
  · simp only [ha, if_false]
    refine ⟨_, vSetItem_ref (j := 2) h rfl, ?_⟩
    have h' : (S.set n (.lst ([D.int a, .int c, .int k].set 2 (.int (k + 1)))))[n]? = some (.lst [.int a, .int c, .int (k + 1)]) := List.getElem?_set_self hn
    rw [vIdx_ref (i := 1) (d := .int c) h' rfl, ok_ok]
    have e2' := vIdx_ref (i := 2) (d := .int (k + 1)) h' rfl
    simp [e2', -List.set_cons_succ]
    refine mixed_ok.call fun d S' fr q => ?_
    obtain ⟨i, rfl, rfl⟩ := q
    simp
    exact ⟨hm, Int.emod_nonneg _ (by omega), Int.emod_lt_of_pos _ hm, _, _, _, rfl⟩
/-- small letters alone -/
def Low (x : Str) : Prop := ∀ c ∈ x.cps.toList, 97 ≤ c ∧ c ≤ 122
theorem letters_len : (Str.ofString "abcdefghijklmnopqrstuvwxyz").length = 26 := by decide +kernel
/-! ### alike -/
theorem vLen_seq {x : D} {S : Store} {xs : List D} (hd : dctOf S x = none) (hs : seqOf S x = some xs) : vLen [x] S = .ok (.int xs.length) S false := by
  cases x with
  | str z => cases hs
  | _ => unfold vLen; simp only [hd, hs]
theorem vIdx_seq {x : D} {S : Store} {xs : List D} {i : Int} {d : D} (hd : dctOf S x = none) (hs : seqOf S x = some xs) (e : atI xs i = some d) : vIdx x (.int i) S = .ok d S false := by
  cases x with
  | str z => cases hs
  | _ => unfold vIdx; simp only [hd, hs, e]
theorem atI_nat {α : Type} {xs : List α} {i : Nat} (h : i < xs.length) : atI xs (i : Int) = some xs[i] := by
  unfold atI ixN
  rw [if_pos (by omega), if_pos (by omega)]
  simp [List.getElem?_eq_getElem h]
@[simp] theorem vIsiT_eq {c : List Tag} {x : D} {t : Tag} {S : Store} (h : tagOf S x = some t) : vIsiT c x S = .ok (.bl (c.any fun c => isTag t c)) S false := by unfold vIsiT; rw [h]
/-! ### the script's numbers -/
theorem src_new {S : Store} {j i : Int} : Src (S ++ [.lst [.int j, .int i, .int 0]]) S.length := ⟨j, i, 0, by simp⟩
theorem Adv.get {S S' : Store} {n m : Nat} (a : Adv n S S') (h : m ≠ n) : S'[m]? = S[m]? := by
  obtain ⟨a, c, k, rfl⟩ := a
  exact List.getElem?_set_ne (Ne.symm h)
end G
namespace G
open PySem L2 DL
set_option maxHeartbeats 4000000
def goodT (x : Str) : Bool := !(Builtin.Str.occurrences (Str.ofString "abcdefghijklmnopqrstuvwxyz") x 0 (Str.ofString "abcdefghijklmnopqrstuvwxyz").length 1).isEmpty
def goodC (c : Nat) : Bool := goodT ⟨#[c]⟩
def goodS (z : Str) : Bool := z.cps.toList.all goodC
def isName (z : Str) : Bool := decide (1 ≤ z.length ∧ z.length ≤ 8) && goodS z
theorem signs_ok {E1 E2 : KE} {P : KV'} {env : Env'} {S : Store} {z : Str} {b : Nat} (hz : z.length ≤ 16777216) (hb : b < env.length) (h : P (.bl (goodS z)) S false) :
    ∃ xs g, itemsOf S (.str z) = some (xs, g) ∧ Ok E1 (compL g (gN b) none (eBin (vInX false) (eVar b) (eC (.str "abcdefghijklmnopqrstuvwxyz"))) env xs [] S) fun d S1 _ => Ok E2 (vAll [d] S1) P := by
  have hi : itemsOf S (.str z) = some (z.cps.toList.map fun c => .str ⟨#[c]⟩, none) := if_pos hz
  refine ⟨_, _, hi, ok_compMap (fun x => match x with | .str s => .bl (goodT s) | _ => .non) (gdOk_none.mpr trivial) ?_ ?_⟩
  · intro x hx
    rw [List.mem_map] at hx
    obtain ⟨c, _, rfl⟩ := hx
    simp [List.getElem?_set_self hb]
    exact ⟨rfl, rfl⟩
  · rw [List.nil_append, List.map_map]
    show Ok E2 (vAll [.lst (z.cps.toList.map fun c => .bl (goodC c))] S) P
    rw [vAll_map]
    exact h
theorem is_name_str {z : Str} {S : Store} (hz : z.length ≤ 16777216) : m_is_name [.str z] S = .ok (.bl (isName z)) S false := by
  refine ok_eq ?_
  unfold m_is_name; rw [ok_def]
  simp [kDef]
  refine ⟨hz, ?_⟩
  split
  · split
    · refine signs_ok hz (by simp [wipeE]) ?_
      simp [isName]; omega
    · simp [isName]; omega
  · simp [isName]; omega
/-- a name of one to eight letters -/
def NameOk (z : Str) : Prop := Low z ∧ 1 ≤ z.length ∧ z.length ≤ 8
theorem NameOk.isName {z : Str} (h : NameOk z) : isName z = true := by
  have hg : ∀ c, c < 26 → goodC (97 + c) = true := by decide +kernel
  unfold G.isName goodS
  rw [Bool.and_eq_true, decide_eq_true_eq, List.all_eq_true]
  refine ⟨h.2, fun c hc => ?_⟩
  have := h.1 c hc
  have e := hg (c - 97) (by omega)
  rwa [show 97 + (c - 97) = c by omega] at e
/-! ### a seat -/
structure SeatS where
  led : Option Str
  row : List (Str × Str)
  ins : Option Str
  ask : Bool
section
variable {S : Store} {a b : Nat} {s : SeatS} {E : KE}
end
/-! ### a seat's doors -/
section
variable {S : Store} {a b : Nat} {s : SeatS} {E : KE} {z : Str}
end
end G
namespace G
open PySem L2 DL
set_option maxHeartbeats 4000000
/-! ### what a seat refuses -/
section
variable {S : Store} {a b : Nat} {s : SeatS} {E : KE} {z : Str} {d : D}
end
/-! ### deeds -/
inductive Dd where
  | want (z : Str) | leave (z : Str) | done (z : Str) | ask (z : Str) | come (z : Str) (k : D)
section
variable {S : Store} {a b : Nat} {s : SeatS} {z : Str}
end
end G
namespace G
open PySem L2 DL
set_option maxHeartbeats 4000000
theorem vIdx_lst {xs : List D} {i : Nat} {d : D} {S : Store} (h : xs[i]? = some d) : vIdx (.lst xs) (.int (i : Int)) S = .ok d S false := by
  obtain ⟨hl, e⟩ := List.getElem?_eq_some_iff.mp h
  refine vIdx_seq rfl rfl ?_
  rw [atI_nat hl, e]
/-! ### drawn names -/
theorem Adv.refl {S : Store} {n : Nat} (h : Src S n) : Adv n S S := by
  obtain ⟨a, c, k, h⟩ := h
  refine ⟨a, c, k, (List.ext_getElem? fun i => ?_)⟩
  by_cases hi : n = i
  · subst hi
    rw [List.getElem?_set_self (List.getElem?_eq_some_iff.mp h).1, h]
  · rw [List.getElem?_set_ne hi]
theorem letters_at {S : Store} {i : Int} (h0 : 0 ≤ i) (h1 : i < 26) : vIdx (.str "abcdefghijklmnopqrstuvwxyz") (.int i) S = .ok (.str ⟨#[97 + i.toNat]⟩) S false := by
  obtain ⟨c, ec, e⟩ := vIdx_s (S := S) (z := Str.ofString "abcdefghijklmnopqrstuvwxyz") h0 (by rw [letters_len]; exact h1) (by rw [letters_len]; decide)
  rw [e]
  have hall : ∀ j, j < 26 → (Str.ofString "abcdefghijklmnopqrstuvwxyz").cps.toList[j]? = some (97 + j) := by decide +kernel
  rw [hall i.toNat (by omega)] at ec
  rw [← Option.some.inj ec]
theorem low_one {i : Nat} (h : i < 26) : Low ⟨#[97 + i]⟩ := fun d hd => by
  have : d = 97 + i := by simpa using hd
  omega
theorem letters_comp {E : KE} {P : KV'} {n b : Nat} {env : Env'} {items : List D} {S : Store} (h : Src S n) (e0 : env[0]? = some (.val (.ref n))) (e2 : env[2]? = some (.val (.str "abcdefghijklmnopqrstuvwxyz"))) (b0 : b ≠ 0) (b2 : b ≠ 2)
    (k : ∀ (ws : List Str) S', Adv n S S' → ws.length = items.length → (∀ w ∈ ws, w.length = 1 ∧ Low w) → P (.lst (ws.map fun x => D.str x)) S' true) :
    Ok E (compL none (gN b) none (eBin vIdx (eVar 2) (eCallF m_l_next [(eVar 0), (eC (.int 26))])) env items [] S) P := by
  refine ok_compL (fun r acc S' => Src S' n ∧ Adv n S S' ∧ acc.length + r.length = items.length ∧ ∃ ws : List Str, acc = ws.map (fun x => D.str x) ∧ ∀ w ∈ ws, w.length = 1 ∧ Low w) ⟨h, .refl h, by simp, [], rfl, by simp⟩ ?_ ?_
  · rintro x r acc S2 ⟨s2, a2, hl, ws, rfl, hw⟩
    simp [List.getElem?_set_ne b0, List.getElem?_set_ne b2, e0, e2]
    refine (next_ok s2 (by omega) (by omega)).call fun d S3 fr q => ?_
    obtain ⟨j, rfl, h2, h3, a3⟩ := q
    rw [letters_at h2 h3]
    refine ⟨a3.src s2, a2.trans a3, by simp at hl ⊢; omega, ws ++ [⟨#[97 + j.toNat]⟩], by simp, ?_⟩
    intro w hw'
    rw [List.mem_append] at hw'
    rcases hw' with hw' | hw'
    · exact hw w hw'
    · rw [List.mem_singleton] at hw'
      subst hw'
      exact ⟨rfl, low_one (by omega)⟩
  · rintro acc S2 ⟨s2, a2, hl, ws, rfl, hw⟩
    exact ⟨gdOk_none.mpr trivial, k ws S2 a2 (by simpa using hl) hw⟩
theorem sum_ones : ∀ {ws : List Str}, (∀ w ∈ ws, w.length = 1 ∧ Low w) → (ws.map fun y => y.length).sum = ws.length
  | [], _ => rfl
  | w :: r, hw => by
    rw [List.map_cons, List.sum_cons, (hw w List.mem_cons_self).1, sum_ones fun x hx => hw x (List.mem_cons_of_mem _ hx), List.length_cons]; omega
theorem join_ones {ws : List Str} {S : Store} (hw : ∀ w ∈ ws, w.length = 1 ∧ Low w) (hl : ws.length ≤ 1000) : vJoin (.str "") [.lst (ws.map fun x => D.str x)] S = .ok (.str (Txt.join "" ws)) S false ∧ Low (Txt.join "" ws) ∧ (Txt.join "" ws).length = ws.length := by
  have hll := sum_ones hw
  have ez : (Str.ofString "").length = 0 := by decide +kernel
  refine ⟨?_, fun c hc => ?_, ?_⟩
  · unfold vJoin
    have e1 : seqOf S (.lst (ws.map fun x => D.str x)) = some (ws.map fun x => D.str x) := rfl
    have e2 : strsOf (ws.map fun x => D.str x) = some ws := by have := strsOf_map (f := fun x => x) ws; simpa using this
    simp only [e1, e2]
    rw [if_pos (by rw [hll, ez]; omega)]
  · rw [join0_tl, List.mem_flatten] at hc
    obtain ⟨l, hl, hc⟩ := hc
    rw [List.mem_map] at hl
    obtain ⟨w, hw', rfl⟩ := hl
    exact (hw w hw').2 c hc
  · rw [str_len, join0_tl, List.length_flatten, List.map_map]
    have e : (ws.map (List.length ∘ fun y => y.cps.toList)) = ws.map fun y => y.length := by
      apply List.map_congr_left; intro y _; exact (str_len y).symm
    rw [e, hll]
theorem cutS_pre (z : Str) (i : Int) (h0 : 0 ≤ i) : (cutS z none (some i)).cps.toList = z.cps.toList.take i.toNat := by
  unfold cutS
  have : HT.sIx z.length z.length (some i) = min i.toNat z.length := by
    show (if i < 0 then _ else min i.toNat z.length) = _
    rw [if_neg (by omega)]
  rw [this, HT.sIx_none]
  simp only [List.drop_zero, Nat.sub_zero]
  rw [str_len]
  rw [List.take_eq_take_iff]
  omega
theorem Low.append {x y : Str} (hx : Low x) (hy : Low y) : Low (x ++ y) := fun c hc => by
  rw [append_tl, List.mem_append] at hc
  exact hc.elim (hx c) (hy c)
theorem Low.cut {x : Str} (h : Low x) (lo hi : Option Int) : Low (cutS x lo hi) := fun c hc => h c (cutS_mem hc)
def lastC (z : Str) : Option Nat := z.cps.toList.getLast?
theorem nodup_of_last {f : Nat → Nat} {zs : List Str} (h : ∀ i (hi : i < zs.length), lastC zs[i] = some (f i)) (hf : ∀ i j, i < zs.length → j < zs.length → f i = f j → i = j) : zs.Nodup := by
  unfold List.Nodup
  rw [List.pairwise_iff_getElem]
  intro i j hi hj hij e
  have h1 := h i hi
  have h2 := h j hj
  rw [e, h2] at h1
  have := hf j i hj hi (Option.some.inj h1)
  omega
theorem lastC_app (x : Str) (c : Nat) : lastC (x ++ ⟨#[c]⟩) = some c := by
  unfold lastC
  rw [append_tl]
  simp

/-! ### odd things -/
end G
namespace G
open PySem L2 DL
set_option maxHeartbeats 4000000
/-! ### a machine's seat: a dict -/
section
variable {S : Store} {m r : Nat} {s : SeatS} {E : KE} {z : Str}
end
end G
namespace G
open PySem L2 DL
set_option maxHeartbeats 4000000
/-! ### deeds told to a seat and to the machine -/
section
variable {S : Store} {a b m r : Nat} {s : SeatS} {E : KE} {z : Str}
end
section
variable {S : Store} {a b : Nat} {s : SeatS} {E : KE} {z : Str}
end
/-! ### pools -/
theorem Adv.low {S S' : Store} {n m : Nat} (a : Adv n S S') (h : m < n) : S'[m]? = S[m]? := a.get (by omega)
end G
namespace G
open PySem L2 DL
set_option maxHeartbeats 4000000
/-! ### the machine's answer -/
section
variable {S : Store} {m r : Nat} {s : SeatS} {E : KE} {z : Str}
end
/-! ### what is told, alike -/
end G
namespace G
open PySem L2 DL
set_option maxHeartbeats 4000000
/-! ### alike, through the store -/
section
variable {S : Store} {k : Nat}
end
end G
namespace G
open PySem L2 DL
set_option maxHeartbeats 4000000
/-! ### all that can be done -/
/-! ### deeds of known names -/
end G
namespace G
open PySem L2 DL
set_option maxHeartbeats 4000000
theorem items_int {ns : List Int} {lo hi : Option Int} : (∀ x ∈ cutD (ns.map D.int) lo hi, ∃ i, x = .int i) ∧ (cutD (ns.map D.int) lo hi).length ≤ ns.length := by
  refine ⟨fun x hx => ?_, ?_⟩
  · unfold cutD at hx
    have := List.mem_of_mem_drop (List.mem_of_mem_take hx)
    rw [List.mem_map] at this
    obtain ⟨i, _, rfl⟩ := this
    exact ⟨i, rfl⟩
  · unfold cutD
    rw [List.length_take, List.length_drop, List.length_map]
    omega
end G
namespace G
open PySem L2 DL
set_option maxHeartbeats 4000000
/-! ### a seat and the law's machine for it -/
end G
namespace G
open PySem L2 DL
set_option maxHeartbeats 4000000
/-! ### a house and its seats -/
section
variable {S : Store} {h : Nat} {nm : Str} {nbs : List Str} {as : List Nat} {E : KE}
end
/-! ### lines with a right's number -/
theorem slice_tl {w : D} {r : List D} {S : Store} (hr : r.length ≤ 100) : vSlice (.tup (w :: r)) (some 1) none S = .ok (.tup r) S false := by
  have : vSlice (.tup (w :: r)) (some 1) none S = .ok (.tup (cutD (w :: r) (some 1) none)) S false := rfl
  rw [this]
  unfold cutD
  have e : HT.sIx (w :: r).length 0 (some 1) = 1 := by
    have := HT.sIx_nat (w :: r).length 0 1
    rw [show (1 : Int) = ((1 : Nat) : Int) from rfl, this, List.length_cons]; omega
  rw [e, HT.sIx_none]
  simp only [List.drop_succ_cons, List.drop_zero]
  rw [List.take_of_length_le (by simp)]
end G
namespace G
open PySem L2 DL
set_option maxHeartbeats 4000000
/-! ### the makers of trees -/
theorem word_ok {n : Nat} {m : Int} {S : Store} {E : KE} (h : Src S n) (hm : 0 ≤ m) (hb : m ≤ 20) : Ok E (m_l_word [.ref n, .int m] S) fun d S' _ => ∃ z, d = .str z ∧ Low z ∧ (z.length : Int) ≤ m ∧ Adv n S S' := by
  unfold m_l_word; rw [ok_def]
  simp [kDef]
  refine (next_ok h (by omega) (by omega)).call fun d S1 fr q => ?_
  obtain ⟨j, rfl, h0, h1, a1⟩ := q
  simp
  refine ⟨by omega, ?_⟩
  refine letters_comp (a1.src h) rfl rfl (by decide) (by decide) fun ws S2 a2 hl hw => ?_
  have hl : ws.length = j.toNat := by simpa [rngL] using hl
  obtain ⟨ej, lj, jl⟩ := join_ones (S := S2) hw (by omega)
  simp [ej]
  rw [finR_same (by rw [a2.len, a1.len]), ok_ok]
  exact ⟨_, rfl, lj, by omega, a1.trans a2⟩
/-- letters by steps of two -/
def let2 (s k : Nat) : Str := ⟨#[97 + (s + 2 * k) % 26]⟩
theorem let2_inj {s i j : Nat} (hi : i < 13) (hj : j < 13) (h : (s + 2 * i) % 26 = (s + 2 * j) % 26) : i = j := by omega
def wordsT : List Str := [Str.ofString "tree", Str.ofString "tie", Str.ofString "any", Str.ofString "a", Str.ofString "ab", Str.ofString "aba", Str.ofString "b", Str.ofString "mend", Str.ofString "zzzzzzzz", Str.ofString "ask", Str.ofString "house", Str.ofString "asker"]
theorem wordsT_ok : (∀ z ∈ wordsT, NameOk z) ∧ wordsT.Nodup ∧ wordsT.length = 12 := by
  refine ⟨?_, by decide +kernel, rfl⟩
  have l : ∀ z : Str, (∀ c ∈ z.cps.toList, 97 ≤ c ∧ c ≤ 122) → 1 ≤ z.length → z.length ≤ 8 → NameOk z := fun z h1 h2 h3 => ⟨h1, h2, h3⟩
  intro z hz
  have h : ∀ z ∈ wordsT, (∀ c ∈ z.cps.toList, 97 ≤ c ∧ c ≤ 122) ∧ 1 ≤ z.length ∧ z.length ≤ 8 := by decide +kernel
  obtain ⟨h1, h2, h3⟩ := h z hz
  exact l z h1 h2 h3
theorem rot_perm {α : Type} (l : List α) (k : Nat) : (l.drop k ++ l.take k).Perm l := by
  have := List.perm_append_comm (l₁ := l.drop k) (l₂ := l.take k)
  rwa [List.take_append_drop] at this
theorem slice_from {xs : List D} {k : Int} {S : Store} (h : 0 ≤ k) : vSlice (.lst xs) (some k) none S = .ok (.lst (xs.drop k.toNat)) S true := by
  have : vSlice (.lst xs) (some k) none S = .ok (.lst (cutD xs (some k) none)) S true := rfl
  rw [this]
  unfold cutD
  obtain ⟨j, rfl⟩ : ∃ j : Nat, k = j := ⟨k.toNat, by omega⟩
  rw [HT.sIx_nat, HT.sIx_none]
  congr 2
  rw [Int.toNat_natCast]
  by_cases hj : j ≤ xs.length
  · rw [Nat.min_eq_left hj, List.take_of_length_le (by rw [List.length_drop]; omega)]
  · rw [Nat.min_eq_right (by omega), List.drop_eq_nil_of_le (Nat.le_refl _), List.drop_eq_nil_of_le (by omega)]; simp
theorem slice_to {xs : List D} {k : Int} {S : Store} (h : 0 ≤ k) : vSlice (.lst xs) none (some k) S = .ok (.lst (xs.take k.toNat)) S true := by
  have : vSlice (.lst xs) none (some k) S = .ok (.lst (cutD xs none (some k))) S true := rfl
  rw [this]
  unfold cutD
  obtain ⟨j, rfl⟩ : ∃ j : Nat, k = j := ⟨k.toNat, by omega⟩
  rw [HT.sIx_nat, HT.sIx_none]
  simp only [List.drop_zero, Nat.sub_zero, Int.toNat_natCast]
  congr 2
  rw [List.take_eq_take_iff]
  omega
theorem cutS_suf (z : Str) (i : Int) (h0 : 0 ≤ i) : (cutS z (some i) none).cps.toList = z.cps.toList.drop i.toNat := by
  unfold cutS
  have : HT.sIx z.length z.length (some i) = min i.toNat z.length := by
    show (if i < 0 then _ else min i.toNat z.length) = _
    rw [if_neg (by omega)]
  rw [HT.sIx_none]
  simp only [show HT.sIx z.length 0 (some i) = min i.toNat z.length from by
    show (if i < 0 then _ else min i.toNat z.length) = _
    rw [if_neg (by omega)]]
  rw [str_len]
  by_cases hj : i.toNat ≤ z.cps.toList.length
  · rw [Nat.min_eq_left hj, List.take_of_length_le (by rw [List.length_drop]; omega)]
  · rw [Nat.min_eq_right (by omega), List.drop_eq_nil_of_le (Nat.le_refl _), List.drop_eq_nil_of_le (by omega)]; simp
/-- the stem with a letter put in -/
def putIn (stem : Str) (at_ : Int) (s k : Nat) : Str := cutS stem none (some at_) ++ let2 s k ++ cutS stem (some at_) none
theorem putIn_at {stem : Str} {at_ : Int} {s k : Nat} (h0 : 0 ≤ at_) (h1 : at_ ≤ stem.length) : (putIn stem at_ s k).cps.toList[at_.toNat]? = some (97 + (s + 2 * k) % 26) ∧ (putIn stem at_ s k).length = stem.length + 1 := by
  have hl := str_len stem
  unfold putIn
  constructor
  · rw [append_tl, append_tl, cutS_pre _ _ h0, cutS_suf _ _ h0]
    have ht : (stem.cps.toList.take at_.toNat).length = at_.toNat := by rw [List.length_take]; omega
    rw [List.append_assoc, List.getElem?_append_right (by omega), ht, Nat.sub_self]
    rfl
  · rw [str_len_append, str_len_append, str_len (cutS stem none (some at_)), str_len (cutS stem (some at_) none), cutS_pre _ _ h0, cutS_suf _ _ h0, List.length_take, List.length_drop]
    have : (let2 s k).length = 1 := rfl
    omega
theorem let2_low {s k : Nat} : Low (let2 s k) := low_one (Nat.mod_lt _ (by omega))
theorem namesx_ok {n : Nat} {m : Int} {S : Store} {E : KE} (h : Src S n) (hm : 0 ≤ m) (hb : m ≤ 12) : Ok E (m_l_namesx [.ref n, .int m] S) fun d S' _ => ∃ zs : List Str, d = .lst (zs.map D.str) ∧ (zs.length : Int) = m ∧ zs.Nodup ∧ (∀ z ∈ zs, NameOk z) ∧ Adv n S S' := by
  unfold m_l_namesx; rw [ok_def]
  simp only [kDef, List.map_cons, List.map_nil, List.replicate, List.cons_append, List.nil_append]
  simp
  refine (next_ok h (by omega) (by omega)).call fun d S1 fr q => ?_
  obtain ⟨wy, rfl, w0, w1, a1⟩ := q
  simp
  refine (next_ok (a1.src h) (by omega) (by omega)).call fun d S2 fr q => ?_
  obtain ⟨sh, rfl, h0, h1, a2⟩ := q
  have a12 := a1.trans a2
  have s2 := a12.src h
  obtain ⟨s, rfl⟩ : ∃ s : Nat, sh = (s : Int) := ⟨sh.toNat, by omega⟩
  simp
  by_cases hw : wy = 0
  · have hr0 : 0 ≤ (s : Int) % 12 := Int.emod_nonneg _ (by omega)
    obtain ⟨wk, wn, wl⟩ := wordsT_ok
    have ew : (D.lst [.str "tree", .str "tie", .str "any", .str "a", .str "ab", .str "aba", .str "b", .str "mend", .str "zzzzzzzz", .str "ask", .str "house", .str "asker"]) = .lst (wordsT.map D.str) := rfl
    have c1 : ∀ S, vSlice (.lst (wordsT.map D.str)) (some ((s : Int) % 12)) none S = .ok (.lst ((wordsT.map D.str).drop ((s : Int) % 12).toNat)) S true := fun S => slice_from hr0
    have c2 : ∀ S, vSlice (.lst (wordsT.map D.str)) none (some ((s : Int) % 12)) S = .ok (.lst ((wordsT.map D.str).take ((s : Int) % 12).toNat)) S true := fun S => slice_to hr0
    have c3 : ∀ (l : List D) S, vSlice (.lst l) none (some m) S = .ok (.lst (l.take m.toNat)) S true := fun l S => slice_to hm
    have hp := rot_perm wordsT ((s : Int) % 12).toNat
    have ha : ∀ S, vAdd (.lst ((wordsT.map D.str).drop ((s : Int) % 12).toNat)) (.lst ((wordsT.map D.str).take ((s : Int) % 12).toNat)) S = .ok (.lst ((wordsT.drop ((s : Int) % 12).toNat ++ wordsT.take ((s : Int) % 12).toNat).map D.str)) S true := fun S => by
      rw [vAdd_ll, if_pos (by rw [List.length_drop, List.length_take, List.length_map]; omega), List.map_append, List.map_drop, List.map_take]
    simp [hw]
    rw [ew]
    generalize wordsT.map D.str = W at c1 c2 ha
    rw [c1, ok_ok]
    simp [c2, ha, -List.map_append, -List.map_take, -List.map_drop]
    rw [c3, ok_ok, finR_same (by rw [a2.len, a1.len]), ok_ok]
    refine ⟨(wordsT.drop ((s : Int) % 12).toNat ++ wordsT.take ((s : Int) % 12).toNat).take m.toNat, by rw [List.map_take], ?_, ?_, ?_, a12⟩
    · rw [List.length_take, hp.length_eq, wl]; omega
    · exact (hp.nodup_iff.mpr wn).sublist (List.take_sublist _ _)
    · exact fun z hz => wk z (hp.subset (List.mem_of_mem_take hz))
  · simp [hw]
    refine (word_ok s2 (by omega) (by omega)).call fun d S3 fr q => ?_
    obtain ⟨stem, rfl, ls, lm, a3⟩ := q
    have s3 := a3.src s2
    simp
    refine ⟨by omega, ?_⟩
    refine (next_ok s3 (by omega) (by omega)).call fun d S4 fr q => ?_
    obtain ⟨at_, rfl, t0, t1, a4⟩ := q
    have s4 := a4.src s3
    have a14 := (a12.trans a3).trans a4
    have hq : ∀ k, (let2 s k).length = 1 := fun k => rfl
    have lets : ∀ (k : Nat) S, vIdx (.str "abcdefghijklmnopqrstuvwxyz") (.int (((s : Int) + 2 * (k : Int)) % 26)) S = .ok (.str (let2 s k)) S false := fun k S => by
      have e : ((s : Int) + 2 * (k : Int)) % 26 = (((s + 2 * k) % 26 : Nat) : Int) := by omega
      rw [e, letters_at (by omega) (by omega)]; rfl
    simp
    by_cases hw1 : wy = 1
    · simp [hw1]
      refine ⟨by omega, ?_⟩
      refine ok_compMM (f := fun k : Nat => .int (0 + (k : Int))) (l := List.range m.toNat) (fun k => .str (putIn stem at_ s k)) (gdOk_none.mpr trivial) (fun k hk => ⟨_, rfl, ?_⟩) ?_
      · have c1 : ∀ S, vSlice (.str stem) none (some at_) S = .ok (.str (cutS stem none (some at_))) S false := fun S => by
          show (if stem.length ≤ 16777216 then Res.ok (.str (cutS stem none (some at_))) S false else .stuck) = _
          rw [if_pos (by omega)]
        have c2 : ∀ S, vSlice (.str stem) (some at_) none S = .ok (.str (cutS stem (some at_) none)) S false := fun S => by
          show (if stem.length ≤ 16777216 then Res.ok (.str (cutS stem (some at_) none)) S false else .stuck) = _
          rw [if_pos (by omega)]
        have l1 := cutS_len stem none (some at_)
        have l2 := cutS_len stem (some at_) none
        simp [wipeE, c1, c2, lets, hq]
        exact ⟨by omega, by omega, rfl⟩
      · simp [a14.len]
        refine ⟨(List.range m.toNat).map fun k => putIn stem at_ s k, by simp, by simp; omega, ?_, ?_, a14⟩
        · rw [List.Nodup, List.pairwise_map]
          refine (List.nodup_range (n := m.toNat)).imp_of_mem fun {i j} hi hj hne e => ?_
          have hi := List.mem_range.mp hi
          have hj := List.mem_range.mp hj
          have e1 := (putIn_at (s := s) (k := i) t0 (by omega : at_ ≤ stem.length)).1
          have e2 := (putIn_at (s := s) (k := j) t0 (by omega : at_ ≤ stem.length)).1
          rw [e, e2] at e1
          have := Option.some.inj e1
          exact hne (let2_inj (s := s) (by omega) (by omega) (by omega))
        · intro z hz
          rw [List.mem_map] at hz
          obtain ⟨k, _, rfl⟩ := hz
          have e1 := (putIn_at (s := s) (k := k) t0 (by omega : at_ ≤ stem.length)).2
          exact ⟨((ls.cut _ _).append let2_low).append (ls.cut _ _), by omega, by omega⟩
    · simp [hw1]
      refine ⟨by omega, ?_⟩
      refine ok_compL (fun r acc S' => Src S' n ∧ Adv n S S' ∧ ∃ zs : List Str, acc = zs.map D.str ∧ r = (rngL 0 m.toNat).drop zs.length ∧ zs.length ≤ m.toNat ∧ (∀ z ∈ zs, NameOk z) ∧ ∀ i (hi : i < zs.length), lastC zs[i] = some (97 + (s + 2 * i) % 26)) ⟨s4, a14, [], rfl, rfl, by simp, by simp, by simp⟩ ?_ ?_
      · rintro x r acc S5 ⟨s5, a5, zs, rfl, er, hz, hn, hlast⟩
        have hlt : zs.length < m.toNat := by
          have := congrArg List.length er
          simp [rngL] at this
          omega
        have ex : x = .int zs.length := by
          have := congrArg (fun l => l[0]?) er
          simp [rngL, hlt] at this
          exact this
        have er' : r = (rngL 0 m.toNat).drop (zs.length + 1) := by
          have := congrArg List.tail er
          simpa using this
        subst ex
        simp [wipeE]
        refine (word_ok s5 (by omega) (by omega)).call fun d S6 fr q => ?_
        obtain ⟨w, rfl, lw, lwm, a6⟩ := q
        simp [lets, hq]
        refine ⟨by omega, a6.src s5, a5.trans a6, zs ++ [w ++ let2 s zs.length], by simp, by simpa using er', by simp; omega, ?_, ?_⟩
        · intro z hz'
          rw [List.mem_append, List.mem_singleton] at hz'
          rcases hz' with hz' | rfl
          · exact hn z hz'
          · refine ⟨lw.append let2_low, ?_, ?_⟩
            · rw [str_len_append, hq]; omega
            · rw [str_len_append, hq]; omega
        · intro i hi
          by_cases hi2 : i < zs.length
          · rw [List.getElem_append_left hi2]; exact hlast i hi2
          · have : i = zs.length := by simp at hi; omega
            subst this
            rw [List.getElem_append_right (by omega)]
            simp [let2, lastC_app]
      · rintro acc S5 ⟨s5, a5, zs, rfl, er, hz, hn, hlast⟩
        have hlen : zs.length = m.toNat := by
          have := congrArg List.length er
          simp [rngL] at this
          omega
        refine ⟨gdOk_none.mpr trivial, ?_⟩
        simp [a5.len]
        refine ⟨zs, rfl, by omega, nodup_of_last hlast fun i j hi hj e => ?_, hn, a5⟩
        exact let2_inj (s := s) (by omega) (by omega) (by omega)
end G
namespace G
open PySem L2 DL
set_option maxHeartbeats 4000000
/-! ### texts: split and joined, their sizes -/
def spS : Str := Str.ofString " "
def nlS : Str := Str.ofString "\n"
theorem tl_sp : TL.tl spS = [32] := by decide +kernel
theorem tl_nl : TL.tl nlS = [10] := by decide +kernel
/-- how long the parts are, with one sign behind each -/
def totL (ps : List (List Nat)) : Nat := (ps.map fun p => p.length + 1).sum
def tot (ps : List Str) : Nat := (ps.map fun p => p.length + 1).sum
theorem totL_cons {p : List Nat} {ps : List (List Nat)} : totL (p :: ps) = p.length + 1 + totL ps := by simp [totL]
theorem tot_cons {p : Str} {ps : List Str} : tot (p :: ps) = p.length + 1 + tot ps := by simp [tot]
theorem tot_tl (ps : List Str) : tot ps = totL (ps.map TL.tl) := by
  unfold tot totL
  rw [List.map_map]
  congr 1
theorem tot_len (ps : List Str) : ps.length ≤ tot ps := by
  induction ps with
  | nil => simp [tot]
  | cons p ps ih => rw [tot_cons, List.length_cons]; omega
theorem tot_mem {ps : List Str} {p : Str} (h : p ∈ ps) : p.length + 1 ≤ tot ps := by
  induction ps with
  | nil => cases h
  | cons q ps ih =>
    rw [tot_cons]
    rcases List.mem_cons.mp h with rfl | h
    · omega
    · have := ih h; omega
theorem spl1_tot {s : Nat} : ∀ {acc l : List Nat}, totL (TL.spl [s] 0 acc l) = acc.length + l.length + 1
  | acc, [] => by rw [TL.spl_nil]; simp [totL]
  | acc, c :: r => by
    by_cases h : TL.pre [s] (c :: r) = true
    · rw [TL.spl_hit h, totL_cons]
      have := spl1_tot (s := s) (acc := []) (l := r)
      show acc.length + 1 + totL (TL.spl [s] 0 [] r) = _
      rw [this]; simp; omega
    · have h : TL.pre [s] (c :: r) = false := by simpa using h
      rw [TL.spl_miss h, spl1_tot (s := s) (acc := acc ++ [c]) (l := r)]
      simp; omega
/-- a text over signs that a text may have -/
def TOk (x : Str) : Prop := PyData.strOk x = true
section
variable {x y : Str} {s : Nat} {S : Store}
theorem sep_ok (ey : TL.tl y = [s]) (hs : s < 256) : y.cps.all (· < 256) = true ∧ y.length = 1 := by
  refine ⟨?_, by rw [TL.len_tl, ey]; rfl⟩
  rw [Array.all_eq_true_iff_forall_mem]
  intro c hc
  have : c ∈ TL.tl y := Array.mem_toList_iff.mpr hc
  rw [ey, List.mem_singleton] at this
  subst this
  simpa using hs
theorem split_tot (ey : TL.tl y = [s]) (hs : s < 256) : tot (Txt.split x y) = x.length + 1 := by
  obtain ⟨hk, _⟩ := sep_ok ey hs
  rw [tot_tl, TL.split_spl x y (by rw [ey]; simp) (TL.kind_ok hk), ey, spl1_tot, TL.len_tl]
  simp
theorem split_ne (ey : TL.tl y = [s]) (hs : s < 256) : Txt.split x y ≠ [] := fun e => by
  have := split_tot (x := x) ey hs
  rw [e] at this
  simp [tot] at this
theorem split_all (ey : TL.tl y = [s]) (hs : s < 256) (h : TOk x) : ∀ p ∈ Txt.split x y, TOk p := by
  obtain ⟨hk, _⟩ := sep_ok ey hs
  exact strOk_split h (by rw [ey]; simp) hk
theorem vsplit_ok (ey : TL.tl y = [s]) (hs : s < 256) (hx : x.length ≤ 10000000) : vSplit (.str x) [.str y] S = .ok (.lst ((Txt.split x y).map D.str)) S true := by
  obtain ⟨hk, hl⟩ := sep_ok ey hs
  show (if (y.length == 0) = false ∧ x.length + 2 ≤ 16777216 ∧ y.cps.all (· < 256) = true then Res.ok (.lst ((Txt.split x y).map D.str)) S true else .stuck) = _
  rw [if_pos ⟨by rw [hl]; rfl, by omega, hk⟩]
theorem strsOf_mapT : ∀ ys : List Str, strsOf (ys.map D.str) = some ys
  | [] => rfl
  | y :: ys => by
    show (strsOf (ys.map D.str)).map (y :: ·) = _
    rw [strsOf_mapT ys]; rfl
theorem sum_tot (ys : List Str) : (ys.map (·.length)).sum + ys.length = tot ys := by
  induction ys with
  | nil => rfl
  | cons y ys ih => rw [tot_cons, List.map_cons, List.sum_cons, List.length_cons]; omega
theorem join_tot (hl : y.length = 1) : ∀ ys : List Str, (Txt.join y ys).length ≤ tot ys := by
  have key : ∀ ps : List (List Nat), (TL.joinL (TL.tl y) ps).length ≤ totL ps := by
    have h1 : (TL.tl y).length = 1 := by rw [← TL.len_tl, hl]
    intro ps
    induction ps with
    | nil => exact Nat.zero_le _
    | cons p ps ih =>
      cases ps with
      | nil => show p.length ≤ totL [p]; simp [totL]
      | cons q r =>
        show (p ++ (TL.tl y ++ TL.joinL (TL.tl y) (q :: r))).length ≤ _
        rw [List.length_append, List.length_append, h1, totL_cons]
        omega
  intro ys
  rw [TL.len_tl, TL.join_eq, TL.tl_join, tot_tl]
  exact key _
theorem vjoin_ok {ys : List Str} (hl : y.length = 1) (h : tot ys ≤ 1000000) : vJoin (.str y) [.lst (ys.map D.str)] S = .ok (.str (Txt.join y ys)) S false := by
  have e : seqOf S (.lst (ys.map D.str)) = some (ys.map D.str) := rfl
  have := sum_tot ys
  unfold vJoin
  simp only [e, strsOf_mapT]
  rw [if_pos]
  rw [hl]
  omega
theorem vjoin_okr {ys : List Str} {q : Nat} (g : S[q]? = some (.lst (ys.map D.str))) (hl : y.length = 1) (h : tot ys ≤ 1000000) : vJoin (.str y) [.ref q] S = .ok (.str (Txt.join y ys)) S false := by
  have e : seqOf S (.ref q) = some (ys.map D.str) := by
    show (match S[q]? with
      | some (.lst ds) => some ds
      | _ => none) = _
    rw [g]
  have := sum_tot ys
  unfold vJoin
  simp only [e, strsOf_mapT]
  rw [if_pos]
  rw [hl]
  omega
theorem joinL_mem' {S : List Nat} {c : Nat} : ∀ {ps : List (List Nat)}, c ∈ TL.joinL S ps → c ∈ S ∨ ∃ p ∈ ps, c ∈ p
  | [], h => by cases h
  | [p], h => .inr ⟨p, List.mem_singleton_self _, h⟩
  | p :: q :: r, h => by
    rcases List.mem_append.mp (show c ∈ p ++ (S ++ TL.joinL S (q :: r)) from h) with h | h
    · exact .inr ⟨p, List.mem_cons_self, h⟩
    · rcases List.mem_append.mp h with h | h
      · exact .inl h
      · rcases joinL_mem' h with h | ⟨z, hz, h⟩
        · exact .inl h
        · exact .inr ⟨z, List.mem_cons_of_mem _ hz, h⟩
theorem join_TOk {ys : List Str} (hy : TOk y) (h : ∀ p ∈ ys, TOk p) : TOk (Txt.join y ys) := by
  refine strOk_tl.mpr fun c hc => ?_
  rw [TL.join_eq, TL.tl_join] at hc
  rcases joinL_mem' hc with hc | ⟨p, hp, hc⟩
  · exact strOk_tl.mp hy c hc
  · obtain ⟨z, hz, rfl⟩ := List.mem_map.mp hp
    exact strOk_tl.mp (h z hz) c hc
end
end G
namespace G
open PySem L2 DL
set_option maxHeartbeats 4000000
def m_number_in : MF := dDef 1
  (sSeq (sIf (eOr (eNot (eChain vLe vLe (eC (.int 1)) (eCallF vLen [(eVar 0)]) (eC (.int 6)))) (eNot (eCallF vAll [(eComp [1] (iVal (eVar 0)) (gN 1) none (eBin (vInX false) (eVar 1) (eC (.str "0123456789"))))]))) (sRet (eC .non)) sPass)
  (sSeq (sIf (eAnd (eBin vGt (eCallF vLen [(eVar 0)]) (eC (.int 1))) (eBin vEq (eBin vIdx (eVar 0) (eC (.int 0))) (eC (.str "0")))) (sRet (eC .non)) sPass)
  (sRet (eCallF vIntX [(eVar 0)]))))
def m_fits : MF := dDef 0
  (sSeq (sIf (eBin vEq (eVar 1) (eC (.str "name"))) (sRet (eCallF m_is_name [(eVar 0)])) sPass)
  (sSeq (sIf (eBin vEq (eVar 1) (eC (.str "letter"))) (sRet (eBin (vInX false) (eVar 0) (eC (.ktup [.str "ask", .str "right", .str "back"])))) sPass)
  (sRet (eOr (eBin vIsNot (eCallF m_number_in [(eVar 0)]) (eC .non)) (eAnd (eBin vEq (eVar 1) (eC (.str "wish"))) (eBin vEq (eVar 0) (eC (.str "any"))))))))
def m_mend_in_b1 : MS :=
  (sSeq (sIf (eOr (eBin (vInX true) (eBin vIdx (eVar 0) (eVar 2)) (eVar 1)) (eOr (eNot (eCallF m_is_name [(eBin vIdx (eVar 0) (eBin vAdd (eVar 2) (eC (.int 1))))])) (eAnd (eBin vEq (eBin vIdx (eVar 0) (eVar 2)) (eC (.str "+"))) (eBin vNe (eBin vIdx (eVar 1) (eC (.str "-"))) (eLst []))))) (sRet (eC .non)) sPass)
  (sExpr (eBM isLstD vAppend (eBin vIdx (eVar 1) (eBin vIdx (eVar 0) (eVar 2))) [(eBin vIdx (eVar 0) (eBin vAdd (eVar 2) (eC (.int 1))))])))
def m_mend_in : MF := dDef 2
  (sSeq (sSet 1 (eDct [((eC (.str "+")), (eThaw (eLst []))), ((eC (.str "-")), (eThaw (eLst [])))]))
  (sSeq (sIf (eBin vEq (eBin vMod (eCallF vLen [(eVar 0)]) (eC (.int 2))) (eC (.int 0))) (sRet (eC .non)) sPass)
  (sSeq (sFor (iArg fRng3 [(eC (.int 1)), (eCallF vLen [(eVar 0)]), (eC (.int 2))]) (gN 2) m_mend_in_b1)
  (sRet (eTup [(eC (.str "mend")), (eBin vIdx (eVar 1) (eC (.str "+"))), (eBin vIdx (eVar 1) (eC (.str "-")))])))))
def m_part_in : MF := dDef 0
  (sSeq (sIf (eBin (vInX false) (eVar 1) (eTup [(eC (.str "number")), (eC (.str "wish"))])) (sRet (eCallF m_number_in [(eVar 0)])) sPass)
  (sRet (eVar 0)))
def m_line_in : MF := dDef 4
  (sSeq (sSet 1 (eBM isStrD vSplit (eVar 0) [(eC (.str " "))]))
  (sSeq (sIf (eBin vEq (eBin vIdx (eVar 1) (eC (.int 0))) (eC (.str "mend"))) (sRet (eCallF m_mend_in [(eVar 1)])) sPass)
  (sSeq (sSet 2 (eUn (vTabT [("want", ["name", "name", "wish"]), ("leave", ["name", "name"]), ("done", ["name", "name"]), ("come", ["name", "name"]), ("fall", ["name"]), ("cut", ["name", "name"]), ("given", ["name", "name", "number"]), ("sends", ["name", "name", "number", "letter"]), ("lost", ["name", "name", "number", "letter"]), ("anew", ["number", "name"])]) (eBin vIdx (eVar 1) (eC (.int 0)))))
  (sSeq (sIf (eOr (eBin vIs (eVar 2) (eC .non)) (eBin vNe (eCallF vLen [(eVar 1)]) (eBin vAdd (eC (.int 1)) (eCallF vLen [(eVar 2)])))) (sRet (eC .non)) sPass)
  (sSeq (sIf (eNot (eCallF vAll [(eComp [3, 4] (iArg fZipM [(eSlice (eVar 1) (some (eC (.int 1))) none), (eVar 2)]) (gT [(gN 3), (gN 4)]) none (eCallF m_fits [(eVar 3), (eVar 4)]))])) (sRet (eC .non)) sPass)
  (sRet (eBin vAdd (eTup [(eBin vIdx (eVar 1) (eC (.int 0)))]) (eCallF vTuple [(eComp [3, 4] (iArg fZipM [(eSlice (eVar 1) (some (eC (.int 1))) none), (eVar 2)]) (gT [(gN 3), (gN 4)]) none (eCallF m_part_in [(eVar 3), (eVar 4)]))]))))))))
def m_read_book_b1 : MS :=
  (sSeq (sSet 4 (eCallF m_line_in [(eVar 3)]))
  (sSeq (sIf (eBin vIs (eVar 4) (eC .non)) (sRaiseF 11 (eVar 2)) sPass)
  (sExpr (eBM isLstD vAppend (eVar 1) [(eVar 4)]))))
def m_read_book : MF := dDef 4
  (sSeq (sIf (eNot (eUn (vIsi .str) (eVar 0))) (sRaiseF 11 (eC (.int 0))) sPass)
  (sSeq (sIf (eBin vEq (eVar 0) (eC (.str ""))) (sRet (eLst [])) sPass)
  (sSeq (sSet 1 (eThaw (eLst [])))
  (sSeq (sFor (iArg fEnum [(eBM isStrD vSplit (eVar 0) [(eC (.str "\n"))])]) (gT [(gN 2), (gN 3)]) m_read_book_b1)
  (sRet (eVar 1))))))
def m_read_line : MF := dDef 1
  (sSeq (sSet 1 (eC .non))
  (sSeq (sIf (eUn (vIsi .str) (eVar 0)) (sSet 1 (eCallF m_line_in [(eVar 0)])) sPass)
  (sSeq (sIf (eBin vIs (eVar 1) (eC .non)) (sRaiseF 11 (eC (.int 0))) sPass)
  (sRet (eVar 1)))))
def m_l_same : Nat → MF
  | 0 => fun _ _ => .stuck
  | k + 1 => dDef 2
      (sSeq (sIf (eUn (vIsiT [.tup, .lst]) (eVar 1)) (sSeq (sIf (eOr (eBin vNe (eUn (vIsi .tup) (eVar 0)) (eUn (vIsi .tup) (eVar 1))) (eNot (eUn (vIsiT [.tup, .lst]) (eVar 0)))) (sRet (eC (.bl false))) sPass)
        (sRet (eAnd (eBin vEq (eCallF vLen [(eVar 0)]) (eCallF vLen [(eVar 1)])) (eCallF vAll [(eCompP [2, 3] (iArgP fZipP [(eVar 0), (eVar 1)]) (gT [(gN 2), (gN 3)]) none (eCallF (m_l_same k) [(eVar 2), (eVar 3)]))])))) sPass)
        (sSeq (sIf (eBin vIs (eVar 1) (eC .non)) (sRet (eBin vIs (eVar 0) (eC .non))) sPass)
        (sSeq (sIf (eUn (vIsi .str) (eVar 1)) (sRet (eAnd (eUn (vIsi .str) (eVar 0)) (eBin vEq (eVar 0) (eVar 1)))) sPass)
        (sRet (eAnd (eUn (vIsi .int) (eVar 0)) (eAnd (eNot (eUn (vIsi .bl) (eVar 0))) (eBin vEq (eVar 0) (eVar 1))))))))
def m_l_right_number : MF := dDef 0
  (sRet (eBin vIdx (eLst [(eCallF m_l_next [(eVar 0), (eC (.int 4))]), (eCallF m_l_next [(eVar 0), (eC (.int 1000))]), (eCallF m_l_next [(eVar 0), (eBin vPow (eC (.int 10)) (eC (.int 6)))]), (eC (.int 999999))]) (eCallF m_l_next [(eVar 0), (eC (.int 4))])))
def m_l_line : MF := dDef 9
  (sSeq (sAsg (gT [(gN 6), (gN 7), (gN 8)]) (eComp [9] (iArg fRng1 [(eC (.int 3))]) (gN 9) none (eBin vIdx (eVar 1) (eCallF m_l_next [(eVar 0), (eCallF vLen [(eVar 1)])]))))
  (sSeq (sSet 2 (eCallF m_l_right_number [(eVar 0)]))
  (sSeq (sSet 3 (eBin vIdx (eLst [(eC (.str "ask")), (eC (.str "right")), (eC (.str "back"))]) (eCallF m_l_next [(eVar 0), (eC (.int 3))])))
  (sSeq (sSet 4 (eComp [10] (iArg fRng1 [(eC (.int 2))]) (gN 10) none (eComp [9] (iArg fRng1 [(eCallF m_l_next [(eVar 0), (eC (.int 5))])]) (gN 9) none (eBin vIdx (eVar 1) (eCallF m_l_next [(eVar 0), (eCallF vLen [(eVar 1)])])))))
  (sSeq (sSet 5 (eLst [(eTup [(eC (.str "want")), (eVar 6), (eVar 7), (eVar 2)]), (eTup [(eC (.str "want")), (eVar 6), (eVar 7), (eC .non)]), (eTup [(eC (.str "leave")), (eVar 6), (eVar 7)]), (eTup [(eC (.str "done")), (eVar 6), (eVar 7)])]))
  (sSeq (sSet 5 (eBin vAdd (eVar 5) (eLst [(eTup [(eC (.str "come")), (eVar 6), (eVar 7)]), (eTup [(eC (.str "fall")), (eVar 6)]), (eTup [(eC (.str "cut")), (eVar 6), (eVar 7)]), (eTup [(eC (.str "mend")), (eBin vIdx (eVar 4) (eC (.int 0))), (eBin vIdx (eVar 4) (eC (.int 1)))])])))
  (sSeq (sSet 5 (eBin vAdd (eVar 5) (eLst [(eTup [(eC (.str "given")), (eVar 6), (eVar 8), (eVar 2)]), (eTup [(eC (.str "sends")), (eVar 6), (eVar 7), (eVar 2), (eVar 3)]), (eTup [(eC (.str "lost")), (eVar 6), (eVar 7), (eVar 2), (eVar 3)])])))
  (sRet (eBin vIdx (eBin vAdd (eVar 5) (eLst [(eTup [(eC (.str "anew")), (eVar 2), (eVar 6)])])) (eCallF m_l_next [(eVar 0), (eC (.int 12))]))))))))))
def m_l_line_text : MF := dDef 3
  (sSeq (sSet 1 (eLst [(eBin vIdx (eVar 0) (eC (.int 0)))]))
  (sSeq (sIf (eBin vEq (eBin vIdx (eVar 0) (eC (.int 0))) (eC (.str "mend"))) (sSet 1 (eBin vAdd (eBin vAdd (eVar 1) (eComp [2] (iVal (eBin vIdx (eVar 0) (eC (.int 1)))) (gN 2) none (eBin vAdd (eC (.str "+ ")) (eVar 2)))) (eComp [2] (iVal (eBin vIdx (eVar 0) (eC (.int 2)))) (gN 2) none (eBin vAdd (eC (.str "- ")) (eVar 2))))) (sSet 1 (eBin vAdd (eVar 1) (eComp [3] (iVal (eSlice (eVar 0) (some (eC (.int 1))) none)) (gN 3) none (eBin vIdx (eLst [(eC (.str "any")), (eCallF vStrC [(eVar 3)])]) (eCallF vInt [(eBin vIsNot (eVar 3) (eC .non))]))))))
  (sRet (eBM isStrD vJoin (eC (.str " ")) [(eVar 1)]))))
end G
namespace G
open PySem L2 DL
set_option maxHeartbeats 4000000
/-! ### what a line's text tells -/
open NumText in
def numOf (w : Str) : Option Nat := if (1 ≤ w.length ∧ w.length ≤ 6) ∧ (∀ c ∈ w.cps.toList, 48 ≤ c ∧ c ≤ 57) ∧ ¬ (1 < w.length ∧ w.cps.toList[0]? = some 48) then some (digitsVal w.cps.toList) else none
/-- the form of a word -/
inductive Fm where
  | name | wish | number | letter
  deriving DecidableEq
/-- a part of a line -/
inductive Pt where
  | s (z : Str) | n (k : Nat) | any
  deriving DecidableEq
/-- a line -/
inductive Ln where
  | parts (w : Str) (ps : List Pt) | mend (k o : List Str)
  deriving DecidableEq
def anyT : Str := Str.ofString "any"
def mendT : Str := Str.ofString "mend"
def plusT : Str := Str.ofString "+"
def minusT : Str := Str.ofString "-"
def letT : List Str := [Str.ofString "ask", Str.ofString "right", Str.ofString "back"]
def ptOf (f : Fm) (w : Str) : Option Pt := match f with
  | .name => if isName w = true then some (.s w) else none
  | .letter => if w ∈ letT then some (.s w) else none
  | .number => (numOf w).map .n
  | .wish => if w = anyT then some .any else (numOf w).map .n
def formsT : List (Str × List Fm) := [(Str.ofString "want", [.name, .name, .wish]), (Str.ofString "leave", [.name, .name]), (Str.ofString "done", [.name, .name]), (Str.ofString "come", [.name, .name]), (Str.ofString "fall", [.name]), (Str.ofString "cut", [.name, .name]),
  (Str.ofString "given", [.name, .name, .number]), (Str.ofString "sends", [.name, .name, .number, .letter]), (Str.ofString "lost", [.name, .name, .number, .letter]), (Str.ofString "anew", [.number, .name])]
def formOf (w : Str) : Option (List Fm) := (formsT.find? fun p => decide (p.1 = w)).map (·.2)
/-- all words are of their forms -/
def ptsOf : List Fm → List Str → Option (List Pt)
  | [], [] => some []
  | f :: fs, w :: ws => match ptOf f w, ptsOf fs ws with
    | some p, some ps => some (p :: ps)
    | _, _ => none
  | _, _ => none
/-- + and - with names, all + ahead -/
def mendOf : List Str → List Str → List Str → Option Ln
  | [], k, o => some (.mend k o)
  | [_], _, _ => none
  | s :: z :: r, k, o => if isName z = true then (if s = plusT then (if o = [] then mendOf r (k ++ [z]) o else none) else if s = minusT then mendOf r k (o ++ [z]) else none) else none
def lineOfW : List Str → Option Ln
  | [] => none
  | w :: r => if w = mendT then mendOf r [] [] else match formOf w with
    | none => none
    | some fs => (ptsOf fs r).map (.parts w)
def lineOf (x : Str) : Option Ln := lineOfW (Txt.split x spS)
/-! ### a line as data -/
def pdP : Pt → PyData
  | .s z => .str z
  | .n k => .int k
  | .any => .none
def valP : Pt → D
  | .s z => .str z
  | .n k => .int (k : Int)
  | .any => .non
def pdL : Ln → PyData
  | .parts w ps => .tuple (.str w :: ps.map pdP)
  | .mend k o => .tuple [.str mendT, .list (k.map .str), .list (o.map .str)]
def valL : Ln → D
  | .parts w ps => .tup (.str w :: ps.map valP)
  | .mend k o => .tup [.str mendT, .lst (k.map .str), .lst (o.map .str)]
/-- what a thing is, lists seen through -/
structure LnD (L : Ln) (d : D) (S : Store) : Prop where
  tup : ∃ xs, d = .tup xs
  is : DL.snap 50 S d = some (pdL L)
/-! ### snapshots -/
section
variable {S S' : Store}
theorem allSome_map {α : Type} {f g : α → Option PyData} : ∀ {xs : List α} {ps : List PyData}, (∀ x ∈ xs, ∀ p, f x = some p → g x = some p) → allSome (xs.map f) = some ps → allSome (xs.map g) = some ps
  | [], ps, _, h => h
  | x :: r, ps, k, h => by
    rw [List.map_cons] at h ⊢
    cases e : f x with
    | none => rw [e] at h; cases h
    | some p =>
      rw [e] at h
      rw [k x (List.mem_cons_self ..) p e]
      have h : (allSome (r.map f)).map (p :: ·) = some ps := h
      cases e2 : allSome (r.map f) with
      | none => rw [e2] at h; cases h
      | some qs =>
        rw [e2] at h
        have := allSome_map (g := g) (fun y hy => k y (List.mem_cons_of_mem _ hy)) e2
        show (allSome (r.map g)).map (p :: ·) = some ps
        rw [this]; exact h
theorem snap_ext (k0 : ∀ j, j < S.length → S'[j]? = S[j]?) : ∀ (k : Nat) (d : D) (p : PyData), DL.snap k S d = some p → DL.snap k S' d = some p := by
  intro k
  induction k with
  | zero => intro d p h; cases h
  | succ k ih =>
    have two : ∀ {xs : List D} {f : List PyData → PyData} {p : PyData}, (allSome (xs.map (DL.snap k S))).map f = some p → (allSome (xs.map (DL.snap k S'))).map f = some p := by
      intro xs f p h
      cases e : allSome (xs.map (DL.snap k S)) with
      | none => rw [e] at h; cases h
      | some ps =>
        rw [allSome_map (fun x _ q => ih x q) e]
        rw [e] at h; exact h
    intro d p h
    cases d with
    | tup xs => exact two (f := .tuple) h
    | ktup xs => exact two (f := .tuple) h
    | lst xs => exact two (f := .list) h
    | ref n =>
      have h : (match S[n]? with
        | some (.lst xs) => (allSome (xs.map (DL.snap k S))).map PyData.list
        | _ => none) = some p := h
      show (match S'[n]? with
        | some (.lst xs) => (allSome (xs.map (DL.snap k S'))).map PyData.list
        | _ => none) = some p
      have hn : n < S.length := by
        by_cases q : n < S.length
        · exact q
        · rw [List.getElem?_eq_none (by omega)] at h; cases h
      rw [k0 n hn]
      split at h
      · exact two (f := .list) h
      · cases h
    | _ => exact h
theorem snap_more : ∀ (k : Nat) (d : D) (p : PyData), DL.snap k S d = some p → DL.snap (k + 1) S d = some p := by
  intro k
  induction k with
  | zero => intro d p h; cases h
  | succ k ih =>
    have two : ∀ {xs : List D} {f : List PyData → PyData} {p : PyData}, (allSome (xs.map (DL.snap k S))).map f = some p → (allSome (xs.map (DL.snap (k + 1) S))).map f = some p := by
      intro xs f p h
      cases e : allSome (xs.map (DL.snap k S)) with
      | none => rw [e] at h; cases h
      | some ps =>
        rw [allSome_map (fun x _ q => ih x q) e]
        rw [e] at h; exact h
    intro d p h
    cases d with
    | tup xs => exact two (f := .tuple) h
    | ktup xs => exact two (f := .tuple) h
    | lst xs => exact two (f := .list) h
    | ref n =>
      have h : (match S[n]? with
        | some (.lst xs) => (allSome (xs.map (DL.snap k S))).map PyData.list
        | _ => none) = some p := h
      show (match S[n]? with
        | some (.lst xs) => (allSome (xs.map (DL.snap (k + 1) S))).map PyData.list
        | _ => none) = some p
      split at h
      · exact two (f := .list) h
      · cases h
    | _ => exact h
theorem snap_le {k j : Nat} (h : k ≤ j) {d : D} {p : PyData} (e : DL.snap k S d = some p) : DL.snap j S d = some p := by
  induction h with
  | refl => exact e
  | step _ ih => exact snap_more _ _ _ ih
end
end G
namespace G
open PySem L2 DL
set_option maxHeartbeats 4000000
/-- a walk over a range -/
theorem oks_rng {K : KB} {lo : Int} {n : Nat} {g : MG} {b : MS} {env : Env'} {S : Store} (I : Nat → Env' → Store → Prop) (h0 : I 0 env S)
    (hs : ∀ i env S, i < n → I i env S → ∃ env1, g (.int (lo + (i : Nat))) env S = some env1 ∧ OkS { K with nx := I (i + 1), ct := I (i + 1), bk := K.nx } (b env1 S)) (hd : ∀ env S, I n env S → K.nx env S) : OkS K (forL none g b (rngL lo n) env S) := by
  refine oks_for (fun rr env S => ∃ k, k ≤ n ∧ rr = (rngL lo n).drop k ∧ I k env S) ⟨0, Nat.zero_le _, rfl, h0⟩ ?_ ?_
  · rintro x rr env S ⟨k, hk, e, hI⟩
    have hlen : ((rngL lo n).drop k).length = n - k := by simp [rngL]
    have hkn : k < n := by rw [← e, List.length_cons] at hlen; omega
    have hk2 : k < (rngL lo n).length := by simpa [rngL] using hkn
    rw [List.drop_eq_getElem_cons hk2] at e
    injection e with e1 e2
    have e3 : (rngL lo n)[k] = .int (lo + (k : Nat)) := by simp [rngL]
    rw [e3] at e1
    subst e1
    obtain ⟨env1, h1, h2⟩ := hs k env S hkn hI
    have conv : ∀ {r : FR} {Q : KS}, OkS { K with nx := Q, ct := Q, bk := K.nx } r → ∀ Q', (∀ e S, Q e S → Q' e S) → OkS { K with nx := Q', ct := Q', bk := K.nx } r := by
      intro r Q h Q' hq
      cases r with
      | nx e S => exact hq _ _ h
      | ct e S => exact hq _ _ h
      | _ => exact h
    exact ⟨gdOk_none.mpr trivial, env1, h1, conv h2 _ fun e S q => ⟨k + 1, hkn, e2, q⟩⟩
  · rintro env S ⟨k, hk, e, hI⟩
    have hlen : ((rngL lo n).drop k).length = n - k := by simp [rngL]
    rw [← e] at hlen
    have : k = n := by simp at hlen; omega
    subst this
    exact ⟨gdOk_none.mpr trivial, hd _ _ hI⟩
section
variable {S : Store} {h : Nat} {nm : Str} {nbs : List Str} {as : List Nat} {ss : List SeatS} {E : KE} {z : Str}
def rk (s : SeatS) : Int × Int := ((s.row.length : Int) + (if s.ins.isSome = true then 1 else 0), if s.led.isSome = true then 1 else 0)
end
/-! ### deeds told to a house -/
section
variable {S : Store} {h : Nat} {nm : Str} {nbs : List Str} {as : List Nat} {ss : List SeatS} {E : KE} {z : Str} {a b : Nat}
end
end G
namespace G
open PySem L2 DL
set_option maxHeartbeats 4000000
/-! ### the law's machines, one for each right -/
section
variable {S : Store} {ms : List Nat} {ss : List SeatS} {E : KE} {z : Str} {nbs : List Str}
end
/-! ### a deed told to the machines -/
theorem vAdd_tt {xs ys : List D} {S : Store} (h : xs.length + ys.length ≤ 1000) : vAdd (.tup xs) (.tup ys) S = .ok (.tup (xs ++ ys)) S false := by
  show (if xs.length + ys.length ≤ 16777216 then Res.ok (.tup (xs ++ ys)) S false else .stuck) = _
  rw [if_pos (by omega)]
section
variable {S : Store} {ms : List Nat} {ss : List SeatS} {E : KE} {nbs : List Str} {m r : Nat}
end
end G
namespace G
open PySem L2 DL
set_option maxHeartbeats 4000000
/-! ### the good deeds -/
section
variable {S S' : Store} {ms : List Nat} {ss : List SeatS} {askers nbs : List Str} {n : Nat} {xs : List D} {K : KB}
end
end G
namespace G
open PySem L2 DL
set_option maxHeartbeats 4000000
/-! ### many seats, each with a machine -/
/-- the numbers of a seat and of its machine -/
structure Q4 where
  a : Nat
  b : Nat
  m : Nat
  r : Nat
end G
namespace G
open PySem L2 DL
set_option maxHeartbeats 4000000
/-! ### a house and the law's machines for it -/
section
variable {S S' : Store} {names nbs : List Str} {k h : Nat} {nm : Str} {qs : List (Q4 × SeatS)} {E : KE}
end
end G
namespace G
open PySem L2 DL
set_option maxHeartbeats 4000000
/-! ### a house is made -/
def s0 (o : Option Str) : SeatS := ⟨o, [], none, false⟩
section
variable {S : Store} {E : KE} {nm : Str} {nbs : List Str} {os : List (Option Str)}
end
end G
namespace G
open PySem L2 DL
set_option maxHeartbeats 4000000
/-! ### the maker of houses -/
end G
namespace G
open PySem L2 DL
set_option maxHeartbeats 4000000
/-! ### what a house tells of its rights, held against the machines -/
theorem finR_stay {b : Bool} {S S' : Store} {d : D} {fr : Bool} (h : (frzD b S.length S' d).1.lo S.length = false) : finR b S d S' fr = .ok d S' fr := by
  unfold finR
  split
  · rfl
  · rw [if_neg (fun q => by rw [h] at q; cases q.1)]
section
variable {S : Store} {h : Nat} {nm : Str} {nbs : List Str} {as : List Nat} {ss : List SeatS} {E : KE}
end
end G
namespace G
open PySem L2 DL
set_option maxHeartbeats 4000000
end G
namespace G
open PySem L2 DL
set_option maxHeartbeats 4000000
/-! ### the tree drawn -/
abbrev Tie := Str × Str
end G
namespace G
open PySem L2 DL
set_option maxHeartbeats 4000000
/-! ### trees, plainly -/
def ends (z : Str) (t : Tie) : List Str := (if t.1 = z then [t.2] else []) ++ (if t.2 = z then [t.1] else [])
/-- those that a house is tied to, in the order of the ties -/
def nbr (ts : List Tie) (z : Str) : List Str := ts.flatMap (ends z)
/-! ### found by going along the ties -/
end G
namespace G
open PySem L2 DL
set_option maxHeartbeats 4000000
/-! ### a house and its machines, made and kept -/
section
variable {S S' : Store} {names nbs : List Str} {k h : Nat} {nm : Str} {qs : List (Q4 × SeatS)} {E : KE}
end
end G
namespace G
open PySem L2 DL
set_option maxHeartbeats 4000000
/-! ### the askers of a house -/
section
variable {S : Store} {h : Nat} {nm : Str} {nbs : List Str} {as : List Nat} {ss : List SeatS} {E : KE}
end
end G
namespace G
open PySem L2 DL
set_option maxHeartbeats 4000000
section
variable {S : Store} {names nbs : List Str} {k h : Nat} {nm : Str} {qs : List (Q4 × SeatS)} {E : KE} {z : Str} {q : Q4 × SeatS}
end
/-! ### the same told twice -/
end G
namespace G
open PySem L2 DL
set_option maxHeartbeats 4000000
/-! ### askers sorted by their names -/
/-! ### the right at rest -/
/-! ### what a move changes of the askers -/
end G
namespace G
open PySem L2 DL
set_option maxHeartbeats 4000000
/-! ### each asker once in a house -/
/-! ### a table of askers -/
/-! ### a deed, in the table and at the house -/
/-! ### what is told of the askers -/
end G
namespace G
open PySem L2 DL
set_option maxHeartbeats 4000000
/-! ### the tied houses as a dict -/
def nbs (ts : List Tie) (z : Str) : List Str := (nbr ts z).mergeSort strLe
/-! ### what is found, as a dict -/
end G
namespace G
open PySem L2 DL
set_option maxHeartbeats 4000000
/-! ### the dict of those that are tied -/
theorem vIdx_dctv {kvs : List (D × D)} {k d : D} {S : Store} (hk : isKey false k = true) (e : dval kvs k = some d) : vIdx (.dct kvs) k S = .ok d S false := by
  show (if isKey false k = true then (match dval kvs k with
    | some d => Res.ok d S false
    | none => .stuck) else .stuck) = _
  rw [if_pos hk, e]
end G
namespace G
open PySem L2 DL
set_option maxHeartbeats 4000000
/-! ### a tree made -/
end G
namespace G
open PySem L2 DL
set_option maxHeartbeats 4000000
/-! ### a number in a word -/
def figS : Str := Str.ofString "0123456789"
theorem signs_okA {E1 E2 : KE} {P : KV'} {env : Env'} {S : Store} {z A : Str} {b : Nat} (hz : z.length ≤ 16777216) (hb : b < env.length) (h : P (.bl (z.cps.toList.all fun c => decide (c ∈ A.cps.toList))) S false) :
    ∃ xs g, itemsOf S (.str z) = some (xs, g) ∧ Ok E1 (compL g (gN b) none (eBin (vInX false) (eVar b) (eC (.str A))) env xs [] S) fun d S1 _ => Ok E2 (vAll [d] S1) P := by
  have hi : itemsOf S (.str z) = some (z.cps.toList.map fun c => .str ⟨#[c]⟩, none) := if_pos hz
  refine ⟨_, _, hi, ok_compMM (f := fun c : Nat => D.str ⟨#[c]⟩) (l := z.cps.toList) (fun c => .bl (decide (c ∈ A.cps.toList))) (gdOk_none.mpr trivial) (fun c _ => ⟨_, rfl, ?_⟩) ?_⟩
  · simp [List.getElem?_set_self hb]
    show Ok _ (vIn false (.str ⟨#[c]⟩) (.str A) S) _
    unfold vIn
    simp only
    rw [PySem.StrLaws.found_one]
    exact ⟨by simp, rfl⟩
  · rw [vAll_map (f := fun c : Nat => decide (c ∈ A.cps.toList))]
    exact h
theorem fig_mem (c : Nat) : c ∈ figS.cps.toList ↔ 48 ≤ c ∧ c ≤ 57 := by
  have h1 : ∀ d ∈ figS.cps.toList, 48 ≤ d ∧ d ≤ 57 := by decide +kernel
  have h2 : ∀ d, d < 10 → 48 + d ∈ figS.cps.toList := by decide +kernel
  refine ⟨h1 c, fun h => ?_⟩
  have := h2 (c - 48) (by omega)
  rwa [show 48 + (c - 48) = c by omega] at this
def zeroS : Str := Str.ofString "0"
theorem one_eq {c d : Nat} : ((⟨#[c]⟩ : Str) = ⟨#[d]⟩) ↔ c = d := by
  constructor
  · intro h
    have := congrArg (fun z : Str => z.cps.toList) h
    simpa using this
  · rintro rfl; rfl
theorem zero_is : zeroS = ⟨#[48]⟩ := by decide +kernel
section
variable {S : Store} {w : Str}
theorem idx0 {c : Nat} {r : List Nat} (h : w.cps.toList = c :: r) (hz : w.length ≤ 16777216) : vIdx (.str w) (.int 0) S = .ok (.str ⟨#[c]⟩) S false := by
  have hl : w.length = r.length + 1 := by rw [str_len, h]; rfl
  obtain ⟨d, e1, e2⟩ := vIdx_s (S := S) (z := w) (i := 0) (by omega) (by omega) hz
  rw [h] at e1
  cases e1
  exact e2
open NumText in
theorem vInt_num {k : Nat} (h : numOf w = some k) : vIntX [.str w] S = .ok (.int (k : Int)) S false := by
  unfold numOf at h
  split at h
  · rename_i c
    obtain ⟨⟨h1, h2⟩, h3, h4⟩ := c
    cases h
    have ne : w.cps.toList ≠ [] := fun e => by rw [str_len, e] at h1; simp at h1
    have e := intText_digits (x := w) h3 ne (by omega)
    show (if w.length ≤ 640 then (match intText? w with
      | some n => Res.ok (.int n) S false
      | none => .stuck) else .stuck) = _
    rw [if_pos (by omega), e]
  · cases h
def numbD : Option Nat → D
  | some k => .int (k : Int)
  | none => .non
theorem number_in_ok (hz : w.length ≤ 16777216) : m_number_in [.str w] S = .ok (numbD (numOf w)) S false := by
  refine ok_eq ?_
  have fin : ∀ d, d = numbD (numOf w) → Ok NoE (finR false S d S false) fun d' S' f => d' = numbD (numOf w) ∧ S' = S ∧ f = false := fun d e => by rw [finR_same rfl]; exact ⟨e, rfl, rfl⟩
  unfold m_number_in; rw [ok_def]
  simp -implicitDefEqProofs only [List.map_cons, List.map_nil, List.replicate, List.cons_append, List.nil_append]
  simp -implicitDefEqProofs only [oks_seq, oks_set, oks_item, oks_if, oks_ret, oks_expr, ok_or, ok_and, ok_not, ok_ebin, ok_eun, ok_bm, ok_callF, ok_meth, ok_lst, ok_tup, ok_slice, ok_part0, ok_part1, ok_thaw, ok_c, oka_cons, oka_nil, ok_var, List.set_cons_succ, List.set_cons_zero, List.getElem?_cons_succ, List.getElem?_cons_zero, Option.some.injEq, Sl.val.injEq, exists_eq_left', D.int.injEq, ok_ok, ok_onB, oks_onS, Bool.not_true, Bool.not_false, if_true, Bool.false_eq_true, if_false, oks_pass, ok_chain, vLen_s]
  simp [kDef]
  refine ⟨hz, ?_⟩
  have no : ¬((1 ≤ w.length ∧ w.length ≤ 6) ∧ (∀ c ∈ w.cps.toList, 48 ≤ c ∧ c ≤ 57)) → D.non = numbD (numOf w) := fun h => by
    unfold numOf
    rw [if_neg fun q => h ⟨q.1, q.2.1⟩]; rfl
  split
  · rename_i c1
    split
    · rename_i c2
      refine signs_okA (A := figS) hz (by simp [wipeE]) ?_
      have ea : (w.cps.toList.all fun c => decide (c ∈ figS.cps.toList)) = decide (∀ c ∈ w.cps.toList, 48 ≤ c ∧ c ≤ 57) := by
        rw [Bool.eq_iff_iff, List.all_eq_true, decide_eq_true_eq]
        constructor
        · intro h c hc; exact (fig_mem c).mp (of_decide_eq_true (h c hc))
        · intro h c hc; exact decide_eq_true ((fig_mem c).mpr (h c hc))
      rw [ea]
      have ne : w.cps.toList ≠ [] := fun e => by rw [str_len, e] at c1; simp at c1
      obtain ⟨c, r, er⟩ := List.exists_cons_of_ne_nil ne
      by_cases c3 : ∀ c ∈ w.cps.toList, 48 ≤ c ∧ c ≤ 57
      · rw [decide_eq_true c3]
        have g0 : vGt (.int (w.length : Int)) (.int 1) S = .ok (.bl (decide (1 < w.length))) S false := by
          rw [vGt_i]; congr 2; simp only [decide_eq_decide]; omega
        have i0 := idx0 (S := S) er hz
        have v0 : vEq (.str ⟨#[c]⟩) (.str (Str.ofString "0")) S = .ok (.bl (decide (c = 48))) S false := by
          rw [vEq_s, show Str.ofString "0" = ⟨#[48]⟩ from zero_is]
          congr 2
          simp only [decide_eq_decide]
          exact one_eq
        have vl : vLen [.str w] S = .ok (.int w.length) S false := by rw [vLen_s, if_pos hz]
        show Ok _ _ _
        simp -implicitDefEqProofs only [oks_seq, oks_set, oks_item, oks_if, oks_ret, oks_expr, ok_or, ok_and, ok_not, ok_ebin, ok_eun, ok_bm, ok_callF, ok_meth, ok_lst, ok_tup, ok_slice, ok_part0, ok_part1, ok_thaw, ok_c, oka_cons, oka_nil, ok_var, List.set_cons_succ, List.set_cons_zero, List.getElem?_cons_succ, List.getElem?_cons_zero, Option.some.injEq, Sl.val.injEq, exists_eq_left', D.int.injEq, ok_ok, ok_onB, oks_onS, Bool.not_true, Bool.not_false, if_true, Bool.false_eq_true, if_false, oks_pass, vl, g0, i0, v0]
        by_cases c4 : 1 < w.length ∧ c = 48
        · have e0 : numOf w = none := by
            unfold numOf
            rw [if_neg fun q => q.2.2 ⟨c4.1, by rw [er, c4.2]; rfl⟩]
          rw [e0]
          simp [c4.1, c4.2, numbD, trunc]
        · have e0 : ∃ k, numOf w = some k := by
            unfold numOf
            rw [if_pos ⟨⟨by omega, by omega⟩, c3, fun q => c4 ⟨q.1, by rw [er] at q; simpa using q.2⟩⟩]
            exact ⟨_, rfl⟩
          obtain ⟨k, e0⟩ := e0
          have vi := vInt_num (S := S) e0
          rw [e0]
          by_cases c5 : 1 < w.length
          · have c6 : c ≠ 48 := fun e => c4 ⟨c5, e⟩
            simp [c5, c6, vi, numbD]
          · simp [c5, vi, numbD]
      · rw [decide_eq_false c3]
        simp
        exact no fun q => c3 q.2
    · exact no fun q => by omega
  · exact no fun q => by omega
/-! ### the forms of words -/
def fmS : Fm → Str
  | .name => Str.ofString "name"
  | .wish => Str.ofString "wish"
  | .number => Str.ofString "number"
  | .letter => Str.ofString "letter"
theorem numbD_isSome {o : Option Nat} : (!decide (numbD o = .non)) = o.isSome := by
  cases o <;> simp [numbD]
theorem in_let : vIn false (.str w) (.ktup [.str "ask", .str "right", .str "back"]) S = .ok (.bl (decide (w ∈ letT))) S false := by
  show (if (flatD (.str w) && [D.str "ask", .str "right", .str "back"].all flatD) = true then inRes false ([D.str "ask", .str "right", .str "back"].any fun y => eqFlat y (.str w)) S else .stuck) = _
  refine Eq.trans (if_pos rfl) ?_
  have : ([D.str "ask", .str "right", .str "back"].any fun y => eqFlat y (.str w)) = decide (w ∈ letT) := by
    unfold letT
    simp only [List.any_cons, List.any_nil, eqFlat, Bool.or_false, List.mem_cons, List.not_mem_nil, or_false, Bool.decide_or]
    congr 1
    · exact decide_eq_decide.mpr eq_comm
    · congr 1 <;> exact decide_eq_decide.mpr eq_comm
  rw [this]; rfl
theorem fits_ok {f : Fm} (hz : w.length ≤ 16777216) : m_fits [.str w, .str (fmS f)] S = .ok (.bl (ptOf f w).isSome) S false := by
  refine ok_eq ?_
  have nm := number_in_ok (S := S) hz
  have na := is_name_str (S := S) hz
  unfold m_fits; rw [ok_def]
  simp -implicitDefEqProofs only [List.map_cons, List.map_nil, List.replicate, List.cons_append, List.nil_append]
  simp -implicitDefEqProofs only [oks_seq, oks_set, oks_item, oks_if, oks_ret, oks_expr, ok_or, ok_and, ok_not, ok_ebin, ok_eun, ok_bm, ok_callF, ok_meth, ok_lst, ok_tup, ok_slice, ok_part0, ok_part1, ok_thaw, ok_c, oka_cons, oka_nil, ok_var, List.set_cons_succ, List.set_cons_zero, List.getElem?_cons_succ, List.getElem?_cons_zero, Option.some.injEq, Sl.val.injEq, exists_eq_left', D.int.injEq, ok_ok, ok_onB, oks_onS, Bool.not_true, Bool.not_false, if_true, Bool.false_eq_true, if_false, oks_pass, vEq_s, na, nm, vInX_s, in_let, vIsNot_n, numbD_isSome]
  cases f with
  | name =>
    simp [kDef, fmS, ptOf]
    cases isName w <;> simp
  | letter =>
    simp [kDef, fmS, ptOf, show ¬ Str.ofString "letter" = Str.ofString "name" by decide +kernel]
    by_cases h : w ∈ letT <;> simp [h]
  | number =>
    simp [kDef, fmS, ptOf, show ¬ Str.ofString "number" = Str.ofString "name" by decide +kernel, show ¬ Str.ofString "number" = Str.ofString "letter" by decide +kernel, show ¬ Str.ofString "number" = Str.ofString "wish" by decide +kernel]
  | wish =>
    simp [kDef, fmS, ptOf, show ¬ Str.ofString "wish" = Str.ofString "name" by decide +kernel, show ¬ Str.ofString "wish" = Str.ofString "letter" by decide +kernel]
    by_cases h : w = anyT
    · subst h
      have : numOf anyT = none := by decide +kernel
      rw [this]
      simp [anyT]
    · cases numOf w with
      | none => simp [h]; exact h
      | some k => simp [h]
theorem part_in_ok {f : Fm} {p : Pt} (hz : w.length ≤ 16777216) (h : ptOf f w = some p) : m_part_in [.str w, .str (fmS f)] S = .ok (valP p) S false := by
  refine ok_eq ?_
  have nm := number_in_ok (S := S) hz
  unfold m_part_in; rw [ok_def]
  simp -implicitDefEqProofs only [List.map_cons, List.map_nil, List.replicate, List.cons_append, List.nil_append]
  have inn : ∀ a : Str, vInX false (.str a) (.tup [.str (Str.ofString "number"), .str (Str.ofString "wish")]) S = .ok (.bl (decide (a = fmS .number) || decide (a = fmS .wish))) S false := fun a => by
    show (if (flatD (.str a) && [D.str (Str.ofString "number"), .str (Str.ofString "wish")].all flatD) = true then inRes false ([D.str (Str.ofString "number"), .str (Str.ofString "wish")].any fun y => eqFlat y (.str a)) S else .stuck) = _
    refine Eq.trans (if_pos rfl) ?_
    have e : ∀ x : Str, eqFlat (.str x) (.str a) = decide (a = x) := fun x => by
      show (x == a) = _
      rw [Bool.eq_iff_iff, beq_iff_eq, decide_eq_true_eq]
      exact eq_comm
    simp only [List.any_cons, List.any_nil, Bool.or_false, e, fmS]
    rfl
  simp -implicitDefEqProofs only [oks_seq, oks_set, oks_item, oks_if, oks_ret, oks_expr, ok_or, ok_and, ok_not, ok_ebin, ok_eun, ok_bm, ok_callF, ok_meth, ok_lst, ok_tup, ok_slice, ok_part0, ok_part1, ok_thaw, ok_c, oka_cons, oka_nil, ok_var, List.set_cons_succ, List.set_cons_zero, List.getElem?_cons_succ, List.getElem?_cons_zero, Option.some.injEq, Sl.val.injEq, exists_eq_left', D.int.injEq, ok_ok, ok_onB, oks_onS, Bool.not_true, Bool.not_false, if_true, Bool.false_eq_true, if_false, oks_pass, inn, nm]
  cases f with
  | name =>
    rw [if_neg (by decide +kernel)]
    unfold ptOf at h
    simp only at h
    split at h
    · cases h; simp [kDef, valP]
    · cases h
  | letter =>
    rw [if_neg (by decide +kernel)]
    unfold ptOf at h
    simp only at h
    split at h
    · cases h; simp [kDef, valP]
    · cases h
  | number =>
    rw [if_pos (by decide +kernel)]
    unfold ptOf at h
    simp only at h
    cases e : numOf w with
    | none => rw [e] at h; cases h
    | some k => rw [e] at h; cases h; simp [kDef, valP, numbD]
  | wish =>
    rw [if_pos (by decide +kernel)]
    unfold ptOf at h
    simp only at h
    split at h
    · rename_i ew
      cases h
      subst ew
      have : numOf anyT = none := by decide +kernel
      rw [this]; simp [kDef, valP, numbD]
    · cases e : numOf w with
      | none => rw [e] at h; cases h
      | some k => rw [e] at h; cases h; simp [kDef, valP, numbD]
end
end G
namespace G
open PySem L2 DL
set_option maxHeartbeats 4000000
/-! ### a tree told -/
@[simp] theorem ok_frz {E : KE} {P : KV'} {env : Env'} {S : Store} {m : ME} : Ok E (eFrz m env S) P ↔ Ok E (m env S) fun x S1 fr => Ok E (finR true S x S1 fr) P := by
  unfold eFrz; simp only [ok_bind]
end G
namespace G
open PySem L2 DL
set_option maxHeartbeats 4000000
/-! ### the ties sorted -/
end G
namespace G
open PySem L2 DL
set_option maxHeartbeats 4000000
/-! ### lists held against lists -/
section
variable {α : Type} [BEq α] [LawfulBEq α] {f : α → D} {g : α → PyData}
end
end G
namespace G
open PySem L2 DL
set_option maxHeartbeats 4000000
/-! ### the doors of a tree -/
section
variable {S : Store} {hs : List Str} {ts : List Tie} {d x : D} {z : Str}
end
end G
namespace G
open PySem L2 DL
set_option maxHeartbeats 4000000
end G
namespace G
open PySem L2 DL
set_option maxHeartbeats 4000000
/-- the store has grown -/
structure Grw (S S' : Store) : Prop where
  len : S.length ≤ S'.length
  low : ∀ j, j < S.length → S'[j]? = S[j]?
theorem Grw.refl (S : Store) : Grw S S := ⟨Nat.le_refl _, fun _ _ => rfl⟩
theorem Grw.trans {S S1 S2 : Store} (a : Grw S S1) (b : Grw S1 S2) : Grw S S2 := ⟨Nat.le_trans a.len b.len, fun j hj => (b.low j (Nat.lt_of_lt_of_le hj a.len)).trans (a.low j hj)⟩
theorem Grw.app (S T : Store) : Grw S (S ++ T) := ⟨by simp, fun j hj => by rw [List.getElem?_append_left hj]⟩
theorem Grw.set {S S1 : Store} (a : Grw S S1) {n : Nat} {o : O} (h : S.length ≤ n) : Grw S (S1.set n o) := ⟨by rw [List.length_set]; exact a.len, fun j hj => by rw [List.getElem?_set_ne (by omega)]; exact a.low j hj⟩
/-- a walk over numbered things -/
theorem oks_mapr {K : KB} {n : Nat} {f : Nat → D} {g : MG} {b : MS} {env : Env'} {S : Store} (I : Nat → Env' → Store → Prop) (h0 : I 0 env S)
    (hs : ∀ i env S, i < n → I i env S → ∃ env1, g (f i) env S = some env1 ∧ OkS { K with nx := I (i + 1), ct := I (i + 1), bk := K.nx } (b env1 S)) (hd : ∀ env S, I n env S → K.nx env S) : OkS K (forL none g b ((List.range n).map f) env S) := by
  refine oks_for (fun rr env S => ∃ k, k ≤ n ∧ rr = ((List.range n).map f).drop k ∧ I k env S) ⟨0, Nat.zero_le _, rfl, h0⟩ ?_ ?_
  · rintro x rr env S ⟨k, hk, e, hI⟩
    have hlen : (((List.range n).map f).drop k).length = n - k := by simp
    have hkn : k < n := by rw [← e, List.length_cons] at hlen; omega
    have hk2 : k < ((List.range n).map f).length := by simpa using hkn
    rw [List.drop_eq_getElem_cons hk2] at e
    injection e with e1 e2
    have e3 : ((List.range n).map f)[k] = f k := by simp
    rw [e3] at e1
    subst e1
    obtain ⟨env1, h1, h2⟩ := hs k env S hkn hI
    exact ⟨gdOk_none.mpr trivial, env1, h1, h2.mono (fun _ _ q => ⟨k + 1, hkn, e2, q⟩) (fun _ _ q => q) (fun _ _ q => ⟨k + 1, hkn, e2, q⟩) (fun _ _ _ q => q) (fun _ _ _ q => q)⟩
  · rintro env S ⟨k, hk, e, hI⟩
    have hlen : (((List.range n).map f).drop k).length = n - k := by simp
    rw [← e] at hlen
    have : k = n := by simp at hlen; omega
    subst this
    exact ⟨gdOk_none.mpr trivial, hd _ _ hI⟩
/-! ### mend -/
theorem mendOf_odd : ∀ (n : Nat) (r k o : List Str), r.length = 2 * n + 1 → mendOf r k o = none
  | 0, [a], k, o, _ => rfl
  | n + 1, s :: z :: r, k, o, h => by
    have hr : r.length = 2 * n + 1 := by simp at h; omega
    unfold mendOf
    rw [mendOf_odd n r _ _ hr, mendOf_odd n r _ _ hr]
    split <;> (try split) <;> (try split) <;> rfl
section
variable {S : Store}
theorem mendOf_two {s z : Str} {r k o : List Str} : mendOf (s :: z :: r) k o = if isName z = true then (if s = plusT then (if o = [] then mendOf r (k ++ [z]) o else none) else if s = minusT then mendOf r k (o ++ [z]) else none) else none := by rw [mendOf]
theorem snap_strsT : ∀ (k : Nat) (S : Store) (l : List Str), allSome ((l.map D.str).map (DL.snap (k + 1) S)) = some (l.map PyData.str)
  | _, _, [] => rfl
  | k, S, a :: r => by
    have := snap_strsT k S r
    show (allSome ((r.map D.str).map (DL.snap (k + 1) S))).map (PyData.str a :: ·) = _
    rw [this]; rfl
theorem snap_refS {S : Store} {n k : Nat} {l : List Str} (h : S[n]? = some (.lst (l.map D.str))) : DL.snap (k + 2) S (.ref n) = some (.list (l.map .str)) := by
  show (match S[n]? with
    | some (.lst xs) => (allSome (xs.map (DL.snap (k + 1) S))).map PyData.list
    | _ => none) = _
  rw [h]
  show (allSome ((l.map D.str).map (DL.snap (k + 1) S))).map PyData.list = _
  rw [snap_strsT]; rfl
theorem snap_lstS {S : Store} {k : Nat} {l : List Str} : DL.snap (k + 2) S (.lst (l.map D.str)) = some (.list (l.map .str)) := by
  show (allSome ((l.map D.str).map (DL.snap (k + 1) S))).map PyData.list = _
  rw [snap_strsT]; rfl
theorem mend_D {a b : D} {k o : List Str} (ha : DL.snap 49 S a = some (.list (k.map .str))) (hb : DL.snap 49 S b = some (.list (o.map .str))) : LnD (.mend k o) (.tup [.str mendT, a, b]) S :=
  ⟨⟨_, rfl⟩, by
    show (allSome [DL.snap 49 S (.str mendT), DL.snap 49 S a, DL.snap 49 S b]).map PyData.tuple = _
    rw [ha, hb]; rfl⟩
theorem finR_up {S S' : Store} {xs : List D} {fr : Bool} (h : D.loL S.length xs = false) : finR false S (.tup xs) S' fr = .ok (.tup xs) S' fr := finR_stay (by
  show D.lo S.length (.tup xs) = false
  exact h)
def MendI (S : Store) (ws : List Str) (j : Nat) (env : Env') (S' : Store) : Prop := ∃ (k o : List Str) (e2 : Sl), env = [.val (.lst (ws.map D.str)), .val (.dct [(.str "+", .ref S.length), (.str "-", .ref (S.length + 1))]), e2] ∧ mendOf (ws.drop (1 + 2 * j)) k o = mendOf (ws.drop 1) [] [] ∧
  S'[S.length]? = some (.lst (k.map D.str)) ∧ S'[S.length + 1]? = some (.lst (o.map D.str)) ∧ k.length + o.length = j ∧ Grw S S' ∧ S'.length = S.length + 2
/-- a mend's row with lists of its own, made at k or behind -/
def MdD (k : Nat) (L : Ln) (d : D) (S : Store) : Prop := ∃ (a b : Nat) (ks os : List Str), L = .mend ks os ∧ d = .tup [.str mendT, .ref a, .ref b] ∧ (k ≤ a ∧ k ≤ b) ∧ S[a]? = some (.lst (ks.map D.str)) ∧ S[b]? = some (.lst (os.map D.str))
theorem MdD.lo {k j : Nat} {L : Ln} {d : D} {S : Store} (h : MdD k L d S) (hj : j ≤ k) : D.lo j d = false := by
  obtain ⟨a, b, ks, os, _, rfl, ⟨h1, h2⟩, _⟩ := h
  have : ¬ a < j := by omega
  simp [D.lo, D.loL, this]
theorem MdD.ln {k : Nat} {L : Ln} {d : D} {S : Store} (h : MdD k L d S) : LnD L d S := by
  obtain ⟨a, b, ks, os, rfl, rfl, _, h3, h4⟩ := h
  exact mend_D (snap_refS h3) (snap_refS h4)
theorem MdD.grow {k : Nat} {L : Ln} {d : D} {S S' : Store} (h : MdD k L d S) (g : Grw S S') : MdD k L d S' := by
  obtain ⟨a, b, ks, os, e1, e2, e3, h3, h4⟩ := h
  exact ⟨a, b, ks, os, e1, e2, e3, (g.low _ (List.getElem?_eq_some_iff.mp h3).1).trans h3, (g.low _ (List.getElem?_eq_some_iff.mp h4).1).trans h4⟩
theorem MdD.set {k n : Nat} {o : O} {L : Ln} {d : D} {S : Store} (h : MdD k L d S) (hn : n < k) : MdD k L d (S.set n o) := by
  obtain ⟨a, b, ks, os, e1, e2, e3, h3, h4⟩ := h
  exact ⟨a, b, ks, os, e1, e2, e3, by rw [List.getElem?_set_ne (by omega)]; exact h3, by rw [List.getElem?_set_ne (by omega)]; exact h4⟩
theorem MdD.le {k j : Nat} {L : Ln} {d : D} {S : Store} (h : MdD k L d S) (hj : j ≤ k) : MdD j L d S := by
  obtain ⟨a, b, ks, os, e1, e2, e3, h34⟩ := h
  exact ⟨a, b, ks, os, e1, e2, ⟨by omega, by omega⟩, h34⟩
theorem snap_valP (k : Nat) (S : Store) (p : Pt) : DL.snap (k + 1) S (valP p) = some (pdP p) := by cases p <;> rfl
theorem parts_D {S : Store} {w : Str} {ps : List Pt} : LnD (.parts w ps) (.tup (.str w :: ps.map valP)) S := by
  refine ⟨⟨_, rfl⟩, ?_⟩
  have h : ∀ l : List Pt, allSome ((l.map valP).map (DL.snap 49 S)) = some (l.map pdP) := by
    intro l
    induction l with
    | nil => rfl
    | cons p r ih =>
      rw [List.map_cons, List.map_cons, snap_valP 48]
      show (allSome ((r.map valP).map (DL.snap 49 S))).map (pdP p :: ·) = _
      rw [ih]; rfl
  show (allSome (some (.str w) :: (ps.map valP).map (DL.snap 49 S))).map PyData.tuple = _
  show ((allSome ((ps.map valP).map (DL.snap 49 S))).map (PyData.str w :: ·)).map PyData.tuple = _
  rw [h ps]; rfl
/-- a line without lists, as a value -/
def FlD (L : Ln) (d : D) : Prop := ∃ w ps, L = .parts w ps ∧ d = .tup (.str w :: ps.map valP)
theorem FlD.at {L : Ln} {d : D} (h : FlD L d) (S : Store) : LnD L d S := by
  obtain ⟨w, ps, rfl, rfl⟩ := h
  exact parts_D
/-- a line as it is read: with lists of its own, or one in any store -/
def ElD (k : Nat) (L : Ln) (d : D) (S : Store) : Prop := MdD k L d S ∨ FlD L d
theorem ElD.ln {k : Nat} {L : Ln} {d : D} {S : Store} (h : ElD k L d S) : LnD L d S := h.elim (fun q => q.ln) fun q => q.at S
theorem ElD.grow {k : Nat} {L : Ln} {d : D} {S S' : Store} (h : ElD k L d S) (g : Grw S S') : ElD k L d S' := h.elim (fun q => .inl (q.grow g)) .inr
theorem ElD.set {k n : Nat} {o : O} {L : Ln} {d : D} {S : Store} (h : ElD k L d S) (hn : n < k) : ElD k L d (S.set n o) := h.elim (fun q => .inl (q.set hn)) .inr
theorem ElD.le {k j : Nat} {L : Ln} {d : D} {S : Store} (h : ElD k L d S) (hj : j ≤ k) : ElD j L d S := h.elim (fun q => .inl (q.le hj)) .inr
def MdP (S : Store) (R : Option Ln) (d : D) (S' : Store) : Prop := match R with
  | none => d = .non ∧ S' = S
  | some L => Grw S S' ∧ (MdD S.length L d S' ∨ (S' = S ∧ FlD L d))
/-- a def hands it on -/
theorem md_pass {R : Option Ln} {d : D} {S' : Store} {fr : Bool} (h : MdP S R d S') : Ok NoE (finR false S d S' fr) fun d S' _ => MdP S R d S' := by
  cases R with
  | none =>
    obtain ⟨rfl, rfl⟩ := h
    rw [finR_same rfl]; exact ⟨rfl, rfl⟩
  | some L =>
    obtain ⟨h2, h3⟩ := h
    rcases h3 with h3 | ⟨rfl, h3⟩
    · obtain ⟨xs, rfl⟩ := h3.ln.tup
      rw [finR_up (h3.lo (Nat.le_refl _))]
      exact ⟨h2, .inl h3⟩
    · rw [finR_same rfl]
      exact ⟨h2, .inr ⟨rfl, h3⟩⟩
theorem tKey84 {a : Str} (h : TOk a) : isKey false (.str a) = true := by
  show (DL.keyOf (.str a)).isSome = true
  show (if PyData.strOk a = true then some (Sum.inr a : Key) else none).isSome = true
  have h : PyData.strOk a = true := h
  rw [if_pos h]; rfl
theorem md_none {R : Option Ln} {S' : Store} {fr : Bool} (e : R = none) (g : Grw S S') : Ok NoE (finR false S .non S' fr) fun d S' _ => MdP S R d S' := by
  subst e
  rw [finR_drop' (fun n e => by cases e) rfl g.len g.low]
  exact ⟨rfl, rfl⟩
theorem pm_ne : ¬ Str.ofString "+" = Str.ofString "-" := by decide +kernel
theorem dv_plus {a b : D} : dval [(.str "+", a), (.str "-", b)] (.str "+") = some a := by simp [dval]
theorem dv_minus {a b : D} : dval [(.str "+", a), (.str "-", b)] (.str "-") = some b := by simp [dval, pm_ne]
theorem sgn_in {s : Str} {a b : D} (hs : TOk s) : vInX true (.str s) (.dct [(.str "+", a), (.str "-", b)]) S = .ok (.bl (!(decide (s = plusT) || decide (s = minusT)))) S false := by
  have hk : isKey false (.str s) = true := tKey84 hs
  rw [vInX_s]
  show (if isKey false (.str s) = true then inRes true (dval [(D.str "+", a), (.str "-", b)] (.str s)).isSome S else .stuck) = _
  rw [if_pos hk]
  have : (dval [(D.str "+", a), (.str "-", b)] (.str s)).isSome = (decide (s = plusT) || decide (s = minusT)) := by
    unfold dval
    by_cases h1 : s = plusT
    · subst h1
      simp [plusT]
    · by_cases h2 : s = minusT
      · subst h2
        simp [minusT, pm_ne]
      · have n1 : ¬ D.str "+" = D.str s := fun q => h1 (by injection q with q; exact q.symm)
        have n2 : ¬ D.str "-" = D.str s := fun q => h2 (by injection q with q; exact q.symm)
        simp [n1, n2, h1, h2]
  rw [this]; rfl
theorem mend_in_ok {ws : List Str} (hn : 1 ≤ ws.length) (hl : ws.length ≤ 1000000) (hT : ∀ w ∈ ws, TOk w) (hw : ∀ w ∈ ws, w.length ≤ 16777216) : Ok NoE (m_mend_in [.lst (ws.map D.str)] S) fun d S' _ => MdP S (mendOf (ws.drop 1) [] []) d S' := by
  unfold m_mend_in; rw [ok_def]
  simp -implicitDefEqProofs only [List.map_cons, List.map_nil, List.replicate, List.cons_append, List.nil_append]
  have vl : ∀ S, vLen [.lst (ws.map D.str)] S = .ok (.int ws.length) S false := fun S => by rw [vLen_lst, List.length_map]
  have hm : ∀ S, vMod (.int (ws.length : Int)) (.int 2) S = .ok (.int ((ws.length % 2 : Nat) : Int)) S false := fun S => by
    rw [vMod_int, if_pos (by decide)]; rfl
  have hv : ∀ S, vEq (.int ((ws.length % 2 : Nat) : Int)) (.int 0) S = .ok (.bl (decide (ws.length % 2 = 0))) S false := fun S => by
    rw [vEq_i]; congr 2; simp only [decide_eq_decide]; omega
  have ed : putAll [] (prs [D.str (Str.ofString "+"), D.ref (List.length S), D.str (Str.ofString "-"), D.ref (List.length (S ++ [O.lst []]))]) = [(.str "+", .ref S.length), (.str "-", .ref (S.length + 1))] := by
    rw [show (S ++ [O.lst []]).length = S.length + 1 by simp]
    simp [prs, putAll, dput, pm_ne]
  simp -implicitDefEqProofs only [oks_seq, oks_set, oks_item, oks_if, oks_ret, oks_expr, ok_or, ok_and, ok_not, ok_ebin, ok_eun, ok_bm, ok_callF, ok_meth, ok_lst, ok_tup, ok_slice, ok_part0, ok_part1, ok_thaw, ok_c, oka_cons, oka_nil, ok_var, List.set_cons_succ, List.set_cons_zero, List.getElem?_cons_succ, List.getElem?_cons_zero, Option.some.injEq, Sl.val.injEq, exists_eq_left', D.int.injEq, ok_ok, ok_onB, oks_onS, Bool.not_true, Bool.not_false, if_true, Bool.false_eq_true, if_false, oks_pass, ok_dct, flat2, thaw_lst, vl, hm, hv, ed]
  refine ⟨by
    have h1 := tKey84 (a := Str.ofString "+") (by unfold TOk; decide +kernel)
    have h2 := tKey84 (a := Str.ofString "-") (by unfold TOk; decide +kernel)
    have h1 : (DL.keyOf (.str (Str.ofString "+"))).isSome = true := h1
    have h2 : (DL.keyOf (.str (Str.ofString "-"))).isSome = true := h2
    simp [keysAll, prs, h1, h2], ?_⟩
  have g0 : (S ++ [O.lst []] ++ [O.lst []])[S.length]? = some (.lst (([] : List Str).map D.str)) := by simp
  have g1 : (S ++ [O.lst []] ++ [O.lst []])[S.length + 1]? = some (.lst (([] : List Str).map D.str)) := by simp
  have gg : Grw S (S ++ [O.lst []] ++ [O.lst []]) := (Grw.app S _).trans (Grw.app _ _)
  have ll : (S ++ [O.lst []] ++ [O.lst []]).length = S.length + 2 := by simp
  generalize S ++ [O.lst []] ++ [O.lst []] = S2 at g0 g1 gg ll
  by_cases c0 : ws.length % 2 = 0
  · rw [if_pos (decide_eq_true c0)]
    exact md_none (mendOf_odd ((ws.length - 2) / 2) _ _ _ (by rw [List.length_drop]; omega)) gg
  · rw [if_neg (by simp [c0])]
    have er : ∀ S, fRng3 [.int 1, .int (ws.length : Int), .int 2] S = .ok (rng2L 1 (ws.length / 2)) none S := fun S => by
      show (if (2 : Int) = 2 ∧ (0 : Int) ≤ 1 ∧ (1 : Int) ≤ 1000000 ∧ 0 ≤ (ws.length : Int) ∧ (ws.length : Int) ≤ 1000000 then IRes.ok (rng2L 1 (((ws.length : Int) - 1 + 1) / 2).toNat) none S else .stuck) = _
      rw [if_pos ⟨rfl, by decide, by decide, by omega, by omega⟩]
      congr 2
      omega
    simp -implicitDefEqProofs only [oks_seq, oks_set, oks_item, oks_if, oks_ret, oks_expr, ok_or, ok_and, ok_not, ok_ebin, ok_eun, ok_bm, ok_callF, ok_meth, ok_lst, ok_tup, ok_slice, ok_part0, ok_part1, ok_thaw, ok_c, oka_cons, oka_nil, ok_var, List.set_cons_succ, List.set_cons_zero, List.getElem?_cons_succ, List.getElem?_cons_zero, Option.some.injEq, Sl.val.injEq, exists_eq_left', D.int.injEq, ok_ok, ok_onB, oks_onS, Bool.not_true, Bool.not_false, if_true, Bool.false_eq_true, if_false, oks_pass, oks_sfor, oki_arg, vl, er, oki_ok]
    unfold rng2L
    refine oks_mapr (MendI S ws) ⟨[], [], _, rfl, rfl, g0, g1, rfl, gg, ll⟩ ?_ ?_
    · rintro j env S3 hj ⟨k, o, e2, rfl, em, h0, h1, hko, hg, h2⟩
      refine ⟨_, rfl, ?_⟩
      have l1 : 1 + 2 * j < ws.length := by omega
      have l2 : 2 + 2 * j < ws.length := by omega
      have d1 : ws.drop (1 + 2 * j) = ws[1 + 2 * j] :: ws[2 + 2 * j] :: ws.drop (1 + 2 * (j + 1)) := by
        rw [List.drop_eq_getElem_cons l1, List.drop_eq_getElem_cons (by omega : 1 + 2 * j + 1 < ws.length)]
        have e1 : 1 + 2 * j + 1 = 2 + 2 * j := by omega
        simp only [e1]
        rw [show 2 + 2 * j + 1 = 1 + 2 * (j + 1) by omega]
      have i1 : ∀ S, vIdx (.lst (ws.map D.str)) (.int (1 + (j : Nat) * 2)) S = .ok (.str ws[1 + 2 * j]) S false := fun S => by
        have : (1 + ((j : Nat) : Int) * 2) = ((1 + 2 * j : Nat) : Int) := by omega
        rw [this]
        exact vIdx_lst (by rw [List.getElem?_map, List.getElem?_eq_getElem l1]; rfl)
      have i2 : ∀ S, vIdx (.lst (ws.map D.str)) (.int (1 + (j : Nat) * 2 + 1)) S = .ok (.str ws[2 + 2 * j]) S false := fun S => by
        have : (1 + ((j : Nat) : Int) * 2 + 1) = ((2 + 2 * j : Nat) : Int) := by omega
        rw [this]
        exact vIdx_lst (by rw [List.getElem?_map, List.getElem?_eq_getElem l2]; rfl)
      rw [d1] at em
      have t1 := hT _ (List.getElem_mem l1)
      have w2 := hw _ (List.getElem_mem l2)
      have t2 := hT _ (List.getElem_mem l2)
      generalize ws[1 + 2 * j] = s at *
      generalize ws[2 + 2 * j] = z at *
      have na := is_name_str (S := S3) w2
      have ns := sgn_in (S := S3) (a := .ref S.length) (b := .ref (S.length + 1)) t1
      have q1 : ∀ {S : Store} {a b : D}, vIdx (.dct [(.str "+", a), (.str "-", b)]) (.str "+") S = .ok a S false := fun {S a b} => vIdx_dctv (by decide +kernel) dv_plus
      have q2 : ∀ {S : Store} {a b : D}, vIdx (.dct [(.str "+", a), (.str "-", b)]) (.str "-") S = .ok b S false := fun {S a b} => vIdx_dctv (by decide +kernel) dv_minus
      have ne := vNe_ref0 tells_str h1
      unfold m_mend_in_b1
      simp -implicitDefEqProofs only [oks_seq, oks_set, oks_item, oks_if, oks_ret, oks_expr, ok_or, ok_and, ok_not, ok_ebin, ok_eun, ok_bm, ok_callF, ok_meth, ok_lst, ok_tup, ok_slice, ok_part0, ok_part1, ok_thaw, ok_c, oka_cons, oka_nil, ok_var, List.set_cons_succ, List.set_cons_zero, List.getElem?_cons_succ, List.getElem?_cons_zero, Option.some.injEq, Sl.val.injEq, exists_eq_left', D.int.injEq, ok_ok, ok_onB, oks_onS, Bool.not_true, Bool.not_false, if_true, Bool.false_eq_true, if_false, oks_pass, gN, i1, i2, vAdd_int, ns, na, vEq_s, q1, q2, ne]
      have rt : mendOf (ws.drop 1) [] [] = none → (kDef S NoE fun d S' _ => MdP S (mendOf (ws.drop 1) [] []) d S').rt .non S3 false := fun e => md_none e hg
      rw [mendOf_two] at em
      by_cases c1 : s = plusT ∨ s = minusT
      · rw [if_neg (by rcases c1 with c1 | c1 <;> simp [c1])]
        cases c2 : isName z with
        | false =>
          rw [c2] at em
          rw [if_neg (by simp)]
          exact rt em.symm
        | true =>
          rw [c2, if_pos rfl] at em
          rw [if_pos rfl]
          by_cases c3 : s = plusT
          · rw [if_pos c3] at em
            subst c3
            rw [if_pos (by decide +kernel)]
            cases o with
            | cons x r =>
              rw [if_neg (by simp)] at em
              rw [if_pos (by simp)]
              exact rt em.symm
            | nil =>
              rw [if_pos rfl] at em
              have q1' : ∀ {S : Store} {a b : D}, vIdx (.dct [(.str "+", a), (.str "-", b)]) (.str plusT) S = .ok a S false := q1
              have ap := vAppend_ref (S := S3) (y := .str z) h0 (by rw [List.length_map]; omega)
              rw [if_neg (by simp)]
              simp -implicitDefEqProofs only [oks_seq, oks_set, oks_item, oks_if, oks_ret, oks_expr, ok_or, ok_and, ok_not, ok_ebin, ok_eun, ok_bm, ok_callF, ok_meth, ok_lst, ok_tup, ok_slice, ok_part0, ok_part1, ok_thaw, ok_c, oka_cons, oka_nil, ok_var, List.set_cons_succ, List.set_cons_zero, List.getElem?_cons_succ, List.getElem?_cons_zero, Option.some.injEq, Sl.val.injEq, exists_eq_left', D.int.injEq, ok_ok, ok_onB, oks_onS, Bool.not_true, Bool.not_false, if_true, Bool.false_eq_true, if_false, oks_pass, i1, i2, vAdd_int, q1', isLst_ref h0, ap]
              refine ⟨trivial, k ++ [z], [], _, rfl, em, ?_, ?_, by simp at hko ⊢; omega, hg.set (Nat.le_refl _), by simp [h2]⟩
              · rw [List.getElem?_set_self (by omega)]; simp
              · rw [List.getElem?_set_ne (by omega)]; exact h1
          · rw [if_neg c3] at em
            have c4 : s = minusT := c1.resolve_left c3
            rw [if_pos c4] at em
            rw [if_neg (by simpa [plusT] using c3)]
            subst c4
            have q2' : ∀ {S : Store} {a b : D}, vIdx (.dct [(.str "+", a), (.str "-", b)]) (.str minusT) S = .ok b S false := q2
            have ap := vAppend_ref (S := S3) (y := .str z) h1 (by rw [List.length_map]; omega)
            simp -implicitDefEqProofs only [oks_seq, oks_set, oks_item, oks_if, oks_ret, oks_expr, ok_or, ok_and, ok_not, ok_ebin, ok_eun, ok_bm, ok_callF, ok_meth, ok_lst, ok_tup, ok_slice, ok_part0, ok_part1, ok_thaw, ok_c, oka_cons, oka_nil, ok_var, List.set_cons_succ, List.set_cons_zero, List.getElem?_cons_succ, List.getElem?_cons_zero, Option.some.injEq, Sl.val.injEq, exists_eq_left', D.int.injEq, ok_ok, ok_onB, oks_onS, Bool.not_true, Bool.not_false, if_true, Bool.false_eq_true, if_false, oks_pass, i1, i2, vAdd_int, q2', isLst_ref h1, ap]
            refine ⟨trivial, k, o ++ [z], _, rfl, em, ?_, ?_, by simp; omega, hg.set (by omega), by simp [h2]⟩
            · rw [List.getElem?_set_ne (by omega)]; exact h0
            · rw [List.getElem?_set_self (by omega)]; simp
      · have c1' := not_or.mp c1
        rw [if_pos (by simp [c1'.1, c1'.2])]
        refine rt ?_
        rw [← em, if_neg c1'.1, if_neg c1'.2]
        split <;> rfl
    · rintro env S3 ⟨k, o, e2, rfl, em, h0, h1, hko, hg, h2⟩
      have q1 : ∀ {S : Store} {a b : D}, vIdx (.dct [(.str "+", a), (.str "-", b)]) (.str "+") S = .ok a S false := fun {S a b} => vIdx_dctv (by decide +kernel) dv_plus
      have q2 : ∀ {S : Store} {a b : D}, vIdx (.dct [(.str "+", a), (.str "-", b)]) (.str "-") S = .ok b S false := fun {S a b} => vIdx_dctv (by decide +kernel) dv_minus
      simp -implicitDefEqProofs only [oks_seq, oks_set, oks_item, oks_if, oks_ret, oks_expr, ok_or, ok_and, ok_not, ok_ebin, ok_eun, ok_bm, ok_callF, ok_meth, ok_lst, ok_tup, ok_slice, ok_part0, ok_part1, ok_thaw, ok_c, oka_cons, oka_nil, ok_var, List.set_cons_succ, List.set_cons_zero, List.getElem?_cons_succ, List.getElem?_cons_zero, Option.some.injEq, Sl.val.injEq, exists_eq_left', D.int.injEq, ok_ok, ok_onB, oks_onS, Bool.not_true, Bool.not_false, if_true, Bool.false_eq_true, if_false, oks_pass, q1, q2]
      have ed : ws.drop (1 + 2 * (ws.length / 2)) = [] := List.drop_eq_nil_of_le (by omega)
      rw [ed] at em
      show Ok NoE (finR false S _ S3 false) _
      rw [finR_up (by simp [D.loL, D.lo])]
      show MdP S (mendOf (ws.drop 1) [] []) _ S3
      rw [← em]
      exact ⟨hg, .inl ⟨_, _, k, o, rfl, rfl, ⟨Nat.le_refl _, by omega⟩, h0, h1⟩⟩
end
end G
namespace G
open PySem L2 DL
set_option maxHeartbeats 4000000
theorem zipD_zip {α β : Type} {f : α → D} {g : β → D} (xs : List α) (ys : List β) : zipD (xs.map f) (ys.map g) = (xs.zip ys).map fun p => .tup [f p.1, g p.2] := by
  unfold zipD
  refine List.ext_getElem? fun i => ?_
  rw [List.getElem?_map, List.getElem?_map, List.length_map, List.length_map]
  by_cases h : i < min xs.length ys.length
  · have h1 : i < xs.length := by omega
    have h2 : i < ys.length := by omega
    rw [List.getElem?_range h]
    have hz : (xs.zip ys)[i]? = some (xs[i], ys[i]) := by rw [List.getElem?_eq_getElem (by rw [List.length_zip]; exact h), List.getElem_zip]
    rw [hz]
    simp [h1, h2]
  · rw [List.getElem?_eq_none (by simpa using h), List.getElem?_eq_none (by rw [List.length_zip]; omega)]
    rfl
/-! ### words of their forms -/
def ptG (p : Str × Fm) : Pt := (ptOf p.2 p.1).getD .any
theorem ptsOf_len : ∀ {fs : List Fm} {r : List Str}, r.length ≠ fs.length → ptsOf fs r = none
  | [], [], h => (h rfl).elim
  | [], _ :: _, _ => rfl
  | _ :: _, [], _ => rfl
  | f :: fs, w :: r, h => by
    unfold ptsOf
    rw [ptsOf_len (fs := fs) (r := r) (by simpa using h)]
    split <;> rename_i e <;> first | rfl | cases e
theorem ptsOf_zip : ∀ {fs : List Fm} {r : List Str}, r.length = fs.length → ptsOf fs r = if ((r.zip fs).all fun p => (ptOf p.2 p.1).isSome) = true then some ((r.zip fs).map ptG) else none
  | [], [], _ => rfl
  | f :: fs, w :: r, h => by
    unfold ptsOf
    rw [ptsOf_zip (fs := fs) (r := r) (by simpa using h), List.zip_cons_cons, List.all_cons, List.map_cons]
    cases e : ptOf f w with
    | none => simp [e]
    | some p =>
      by_cases c : ((r.zip fs).all fun p => (ptOf p.2 p.1).isSome) = true
      · rw [if_pos c, if_pos (by rw [c]; rfl)]
        unfold ptG
        simp [e]
      · rw [if_neg c, if_neg (by simp only [e, Option.isSome_some, Bool.true_and]; exact c)]
abbrev tabF : List (Str × List Str) := [("want", ["name", "name", "wish"]), ("leave", ["name", "name"]), ("done", ["name", "name"]), ("come", ["name", "name"]), ("fall", ["name"]), ("cut", ["name", "name"]), ("given", ["name", "name", "number"]), ("sends", ["name", "name", "number", "letter"]), ("lost", ["name", "name", "number", "letter"]), ("anew", ["number", "name"])]
theorem tabF_is : tabF = formsT.map fun p => (p.1, p.2.map fmS) := rfl
theorem tabF_get (w : Str) : tabGetT tabF w = (formOf w).map fun fs => fs.map fmS := by
  rw [tabF_is]
  unfold tabGetT formOf
  rw [List.find?_map]
  cases e : formsT.find? ((fun p => decide (p.1 = w)) ∘ fun p => (p.1, p.2.map fmS)) with
  | none =>
    have e : formsT.find? (fun p => decide (p.1 = w)) = none := e
    rw [e]; rfl
  | some p =>
    have e : formsT.find? (fun p => decide (p.1 = w)) = some p := e
    rw [e]; rfl
section
variable {S : Store} {x : Str}
theorem tab_ok (w : Str) : vTabT tabF (.str w) S = .ok (match formOf w with
    | some fs => .ktup (fs.map fun f => .str (fmS f))
    | none => .non) S false := by
  show (match tabGetT tabF w with
    | some ts => Res.ok (.ktup (ts.map .str)) S false
    | none => .ok .non S false) = _
  rw [tabF_get]
  cases formOf w with
  | none => rfl
  | some fs =>
    show Res.ok (.ktup ((fs.map fmS).map .str)) S false = _
    rw [List.map_map]; rfl
theorem formOf_len {w : Str} {fs : List Fm} (h : formOf w = some fs) : fs.length ≤ 4 := by
  unfold formOf at h
  cases e : formsT.find? fun p => decide (p.1 = w) with
  | none => rw [e] at h; cases h
  | some p =>
    rw [e] at h
    cases h
    have hall : ∀ p ∈ formsT, p.2.length ≤ 4 := by decide +kernel
    exact hall p (List.mem_of_find?_eq_some e)
theorem words_split (hl : x.length ≤ 1000000) (hT : TOk x) : ∃ w r, Txt.split x spS = w :: r ∧ (∀ z ∈ w :: r, TOk z ∧ z.length ≤ 1000000) ∧ (w :: r).length ≤ 1000001 ∧ ∀ S, vSplit (.str x) [.str (Str.ofString " ")] S = .ok (.lst ((w :: r).map D.str)) S true := by
  have tt := split_tot (x := x) tl_sp (by decide)
  have ta := split_all (x := x) tl_sp (by decide) hT
  have sp : ∀ S, vSplit (.str x) [.str spS] S = .ok (.lst ((Txt.split x spS).map D.str)) S true := fun S => vsplit_ok tl_sp (by decide) (by omega)
  cases e : Txt.split x spS with
  | nil => exact (split_ne tl_sp (by decide) e).elim
  | cons w r =>
    rw [e] at tt ta sp
    refine ⟨w, r, rfl, fun z hz => ⟨ta z hz, ?_⟩, ?_, sp⟩
    · have := tot_mem hz; omega
    · have := tot_len (w :: r); omega
theorem lineOfW_mend {r : List Str} : lineOfW (mendT :: r) = mendOf r [] [] := by
  simp only [lineOfW, if_true]
theorem lineOfW_none {w : Str} {r : List Str} (h : w ≠ mendT) (e : formOf w = none) : lineOfW (w :: r) = none := by
  simp only [lineOfW, if_neg h, e]
theorem lineOfW_some {w : Str} {r : List Str} {fs : List Fm} (h : w ≠ mendT) (e : formOf w = some fs) : lineOfW (w :: r) = (ptsOf fs r).map (.parts w) := by
  simp only [lineOfW, if_neg h, e]
theorem line_in_ok (hl : x.length ≤ 900000) (hT : TOk x) : Ok NoE (m_line_in [.str x] S) fun d S' _ => MdP S (lineOf x) d S' := by
  obtain ⟨w, r, ew, hw, hn, sp⟩ := words_split (by omega) hT
  have hr : ∀ z ∈ r, z.length ≤ 16777216 := fun z hz => by have := (hw z (List.mem_cons_of_mem _ hz)).2; omega
  have hn2 : (w :: r).length ≤ 1000000 := by
    have := tot_len (w :: r)
    have tt := split_tot (x := x) tl_sp (by decide)
    rw [ew] at tt
    omega
  unfold m_line_in; rw [ok_def]
  simp -implicitDefEqProofs only [List.map_cons, List.map_nil, List.replicate, List.cons_append, List.nil_append]
  have sp' : ∀ S, vSplit (.str x) [.str (Str.ofString " ")] S = .ok (.lst (.str w :: r.map D.str)) S true := sp
  have i0 : ∀ S, vIdx (.lst (.str w :: r.map D.str)) (.int 0) S = .ok (.str w) S false := fun S => vIdx_lst (i := 0) rfl
  have sl : ∀ S, vSlice (.lst (.str w :: r.map D.str)) (some 1) none S = .ok (.lst (r.map D.str)) S true := fun S => slice_from (by omega)
  have vl : ∀ S, vLen [.lst (.str w :: r.map D.str)] S = .ok (.int ((r.length : Int) + 1)) S false := fun S => by rw [vLen_lst]; simp
  have md := mend_in_ok (S := S) (ws := w :: r) (by simp) hn2 (fun z hz => (hw z hz).1) (fun z hz => by have := (hw z hz).2; omega)
  simp -implicitDefEqProofs only [oks_seq, oks_set, oks_item, oks_if, oks_ret, oks_expr, ok_or, ok_and, ok_not, ok_ebin, ok_eun, ok_bm, ok_callF, ok_meth, ok_lst, ok_tup, ok_slice, ok_part0, ok_part1, ok_thaw, ok_c, oka_cons, oka_nil, ok_var, List.set_cons_succ, List.set_cons_zero, List.getElem?_cons_succ, List.getElem?_cons_zero, Option.some.injEq, Sl.val.injEq, exists_eq_left', D.int.injEq, ok_ok, ok_onB, oks_onS, Bool.not_true, Bool.not_false, if_true, Bool.false_eq_true, if_false, oks_pass, sp', isStrD_s, i0, vEq_s, tab_ok]
  refine ⟨trivial, ?_⟩
  have eL : lineOf x = lineOfW (w :: r) := by unfold lineOf; rw [ew]
  rw [eL]
  by_cases c0 : w = mendT
  · rw [if_pos (by simp [c0, mendT])]
    refine md.call fun d S' fr h => ?_
    subst c0
    rw [lineOfW_mend]
    exact md_pass h
  · rw [if_neg (by simpa [mendT] using c0)]
    cases eF : formOf w with
    | none =>
      rw [lineOfW_none c0 eF]
      simp -implicitDefEqProofs only [oks_seq, oks_set, oks_item, oks_if, oks_ret, oks_expr, ok_or, ok_and, ok_not, ok_ebin, ok_eun, ok_bm, ok_callF, ok_meth, ok_lst, ok_tup, ok_slice, ok_part0, ok_part1, ok_thaw, ok_c, oka_cons, oka_nil, ok_var, List.set_cons_succ, List.set_cons_zero, List.getElem?_cons_succ, List.getElem?_cons_zero, Option.some.injEq, Sl.val.injEq, exists_eq_left', D.int.injEq, ok_ok, ok_onB, oks_onS, Bool.not_true, Bool.not_false, if_true, Bool.false_eq_true, if_false, oks_pass, vIs_n]
      simp [kDef, MdP]
    | some fs =>
      rw [lineOfW_some c0 eF]
      have vf : ∀ S, vLen [.ktup (fs.map fun f => .str (fmS f))] S = .ok (.int fs.length) S false := fun S => by rw [vLen_seq (xs := fs.map fun f => .str (fmS f)) rfl rfl, List.length_map]
      have vn : ∀ S, vNe (.int ((r.length : Int) + 1)) (.int (1 + (fs.length : Int))) S = .ok (.bl (!decide (r.length = fs.length))) S false := fun S => by
        rw [vNe_i]
        congr 3
        simp only [decide_eq_decide]
        omega
      simp -implicitDefEqProofs only [oks_seq, oks_set, oks_item, oks_if, oks_ret, oks_expr, ok_or, ok_and, ok_not, ok_ebin, ok_eun, ok_bm, ok_callF, ok_meth, ok_lst, ok_tup, ok_slice, ok_part0, ok_part1, ok_thaw, ok_c, oka_cons, oka_nil, ok_var, List.set_cons_succ, List.set_cons_zero, List.getElem?_cons_succ, List.getElem?_cons_zero, Option.some.injEq, Sl.val.injEq, exists_eq_left', D.int.injEq, ok_ok, ok_onB, oks_onS, Bool.not_true, Bool.not_false, if_true, Bool.false_eq_true, if_false, oks_pass, vIs_n, vl, vf, vAdd_int, vn]
      rw [if_neg (by simp)]
      by_cases c1 : r.length = fs.length
      · rw [if_neg (by simp [c1])]
        have zf : ∀ S, fZipM [.lst (r.map D.str), .ktup (fs.map fun f => .str (fmS f))] S = .ok ((r.zip fs).map fun p => .tup [.str p.1, .str (fmS p.2)]) none S := fun S => by
          show IRes.ok (zipD (r.map D.str) (fs.map fun f => .str (fmS f))) none S = _
          rw [zipD_zip]
        have pm : ∀ p ∈ r.zip fs, p.1.length ≤ 16777216 := fun p hp => hr p.1 (List.of_mem_zip hp).1
        simp -implicitDefEqProofs only [oks_seq, oks_set, oks_item, oks_if, oks_ret, oks_expr, ok_or, ok_and, ok_not, ok_ebin, ok_eun, ok_bm, ok_callF, ok_meth, ok_lst, ok_tup, ok_slice, ok_part0, ok_part1, ok_thaw, ok_c, oka_cons, oka_nil, ok_var, List.set_cons_succ, List.set_cons_zero, List.getElem?_cons_succ, List.getElem?_cons_zero, Option.some.injEq, Sl.val.injEq, exists_eq_left', D.int.injEq, ok_ok, ok_onB, oks_onS, Bool.not_true, Bool.not_false, if_true, Bool.false_eq_true, if_false, oks_pass, ok_comp, oki_arg, sl, zf, oki_ok]
        refine ok_compMM (f := fun p : Str × Fm => D.tup [.str p.1, .str (fmS p.2)]) (l := r.zip fs) (fun p => .bl (ptOf p.2 p.1).isSome) (gdOk_none.mpr trivial) (fun p hp => ⟨_, by simp [gT, seqOf, gAll, gN, wipeE]; rfl, ?_⟩) ?_
        · have := fits_ok (S := S) (f := p.2) (pm p hp)
          simp -implicitDefEqProofs only [oks_seq, oks_set, oks_item, oks_if, oks_ret, oks_expr, ok_or, ok_and, ok_not, ok_ebin, ok_eun, ok_bm, ok_callF, ok_meth, ok_lst, ok_tup, ok_slice, ok_part0, ok_part1, ok_thaw, ok_c, oka_cons, oka_nil, ok_var, List.set_cons_succ, List.set_cons_zero, List.getElem?_cons_succ, List.getElem?_cons_zero, Option.some.injEq, Sl.val.injEq, exists_eq_left', D.int.injEq, ok_ok, ok_onB, oks_onS, Bool.not_true, Bool.not_false, if_true, Bool.false_eq_true, if_false, oks_pass, this]
          exact ⟨trivial, trivial⟩
        have al := vAll_map (S := S) (f := fun p : Str × Fm => (ptOf p.2 p.1).isSome) (r.zip fs)
        rw [oka_nil, al, ok_ok, ptsOf_zip c1]
        cases c2 : (r.zip fs).all fun p => (ptOf p.2 p.1).isSome with
        | false =>
          simp -implicitDefEqProofs only [oks_seq, oks_set, oks_item, oks_if, oks_ret, oks_expr, ok_or, ok_and, ok_not, ok_ebin, ok_eun, ok_bm, ok_callF, ok_meth, ok_lst, ok_tup, ok_slice, ok_part0, ok_part1, ok_thaw, ok_c, oka_cons, oka_nil, ok_var, List.set_cons_succ, List.set_cons_zero, List.getElem?_cons_succ, List.getElem?_cons_zero, Option.some.injEq, Sl.val.injEq, exists_eq_left', D.int.injEq, ok_ok, ok_onB, oks_onS, Bool.not_true, Bool.not_false, if_true, Bool.false_eq_true, if_false, oks_pass, c2]
          simp [kDef, MdP]
        | true =>
          simp -implicitDefEqProofs only [oks_seq, oks_set, oks_item, oks_if, oks_ret, oks_expr, ok_or, ok_and, ok_not, ok_ebin, ok_eun, ok_bm, ok_callF, ok_meth, ok_lst, ok_tup, ok_slice, ok_part0, ok_part1, ok_thaw, ok_c, oka_cons, oka_nil, ok_var, List.set_cons_succ, List.set_cons_zero, List.getElem?_cons_succ, List.getElem?_cons_zero, Option.some.injEq, Sl.val.injEq, exists_eq_left', D.int.injEq, ok_ok, ok_onB, oks_onS, Bool.not_true, Bool.not_false, if_true, Bool.false_eq_true, if_false, oks_pass, c2, ok_comp, oki_arg, sl, zf, oki_ok, i0]
          refine ok_compMM (f := fun p : Str × Fm => D.tup [.str p.1, .str (fmS p.2)]) (l := r.zip fs) (fun p => valP (ptG p)) (gdOk_none.mpr trivial) (fun p hp => ⟨_, by simp [gT, seqOf, gAll, gN, wipeE]; rfl, ?_⟩) ?_
          · have hs := List.all_eq_true.mp c2 p hp
            obtain ⟨q, eq⟩ := Option.isSome_iff_exists.mp hs
            have := part_in_ok (S := S) (pm p hp) eq
            simp -implicitDefEqProofs only [oks_seq, oks_set, oks_item, oks_if, oks_ret, oks_expr, ok_or, ok_and, ok_not, ok_ebin, ok_eun, ok_bm, ok_callF, ok_meth, ok_lst, ok_tup, ok_slice, ok_part0, ok_part1, ok_thaw, ok_c, oka_cons, oka_nil, ok_var, List.set_cons_succ, List.set_cons_zero, List.getElem?_cons_succ, List.getElem?_cons_zero, Option.some.injEq, Sl.val.injEq, exists_eq_left', D.int.injEq, ok_ok, ok_onB, oks_onS, Bool.not_true, Bool.not_false, if_true, Bool.false_eq_true, if_false, oks_pass, this]
            refine ⟨?_, trivial⟩
            unfold ptG
            rw [eq]; rfl
          have ml : ((r.zip fs).map fun p => valP (ptG p)).length ≤ 900 := by
            rw [List.length_map, List.length_zip]
            have : fs.length ≤ 4 := formOf_len eF
            omega
          have va := vAdd_tt (S := S) (xs := [.str w]) (ys := (r.zip fs).map fun p => valP (ptG p)) (by simp at ml ⊢; omega)
          simp -implicitDefEqProofs only [oks_seq, oks_set, oks_item, oks_if, oks_ret, oks_expr, ok_or, ok_and, ok_not, ok_ebin, ok_eun, ok_bm, ok_callF, ok_meth, ok_lst, ok_tup, ok_slice, ok_part0, ok_part1, ok_thaw, ok_c, oka_cons, oka_nil, ok_var, List.set_cons_succ, List.set_cons_zero, List.getElem?_cons_succ, List.getElem?_cons_zero, Option.some.injEq, Sl.val.injEq, exists_eq_left', D.int.injEq, ok_ok, ok_onB, oks_onS, Bool.not_true, Bool.not_false, if_true, Bool.false_eq_true, if_false, oks_pass, vTuple_l, va]
          refine md_pass ?_
          have pd : FlD (.parts w ((r.zip fs).map ptG)) (.tup ([D.str w] ++ (r.zip fs).map fun p => valP (ptG p))) := ⟨_, _, rfl, by rw [List.map_map]; rfl⟩
          exact ⟨Grw.refl S, .inr ⟨rfl, pd⟩⟩
      · rw [if_pos (by simp [c1]), ptsOf_len c1]
        simp [kDef, MdP]
end
end G
namespace G
open PySem L2 DL
set_option maxHeartbeats 4000000
theorem drop_atL {l r : List D} {x : D} {i : Nat} (h : x :: r = l.drop i) : l[i]? = some x ∧ r = l.drop (i + 1) := by
  have h1 : (l.drop i)[0]? = some x := by rw [← h]; rfl
  rw [List.getElem?_drop, Nat.add_zero] at h1
  refine ⟨h1, ?_⟩
  have h2 : (l.drop i).drop 1 = r := by rw [← h]; rfl
  rw [← h2, List.drop_drop]
theorem enum_atL {xs : List D} {x : D} {i : Nat} (h : (enumD xs)[i]? = some x) : ∃ y, xs[i]? = some y ∧ x = .tup [.int (i : Int), y] := by
  unfold enumD at h
  rw [List.getElem?_mapIdx] at h
  cases e : xs[i]? with
  | none => rw [e] at h; cases h
  | some y => rw [e] at h; injection h with h; exact ⟨y, rfl, h.symm⟩
theorem oks_raiseFL {K : KB} {cn : Nat} {m : ME} {env : Env'} {S S1 : Store} {i : Int} {fr : Bool} (h : m env S = .ok (.int i) S1 fr) : OkS K (sRaiseF cn m env S) ↔ K.ex ⟨cn, some i⟩ env S1 := by
  unfold sRaiseF
  rw [h]
  exact Iff.rfl
theorem trunc_same {S S' : Store} (g : Grw S S') : trunc S S' = S := by
  unfold trunc
  have hd : okDrop S S' = true := by
    unfold okDrop
    rw [List.all_eq_true]
    intro n hn
    rw [List.mem_range] at hn
    rw [g.low n hn]; simp
  rw [if_pos hd]
  refine List.ext_getElem? fun j => ?_
  by_cases hj : j < S.length
  · rw [List.getElem?_take_of_lt hj]; exact g.low j hj
  · rw [List.getElem?_eq_none (by rw [List.length_take]; omega), List.getElem?_eq_none (by omega)]
/-- what is refused, by its line -/
def TxE (n : Nat) (S : Store) : KE := fun e S' => e = ⟨11, some (n : Int)⟩ ∧ S' = S
section
variable {S : Store} {x : Str} {d : D}
theorem LnD.nn {L : Ln} (h : LnD L d S) : d ≠ .non := by obtain ⟨xs, rfl⟩ := h.tup; exact fun e => by cases e
theorem MdP.elD {L : Ln} {S' : Store} (h : MdP S (some L) d S') : ElD S.length L d S' := h.2.elim .inl fun q => .inr q.2
theorem MdP.el {L : Ln} {S' : Store} (h : MdP S (some L) d S') : LnD L d S' := h.elD.ln
theorem read_line_ok (hl : x.length ≤ 900000) (hT : TOk x) : Ok (fun e S' => lineOf x = none ∧ TxE 0 S e S') (m_read_line [.str x] S) fun d S' _ => ∃ L, lineOf x = some L ∧ MdP S (some L) d S' := by
  have hi := line_in_ok (S := S) hl hT
  unfold m_read_line; rw [ok_def]
  simp -implicitDefEqProofs only [List.map_cons, List.map_nil, List.replicate, List.cons_append, List.nil_append]
  simp -implicitDefEqProofs only [oks_seq, oks_set, oks_item, oks_if, oks_ret, oks_expr, ok_or, ok_and, ok_not, ok_ebin, ok_eun, ok_bm, ok_callF, ok_meth, ok_lst, ok_tup, ok_slice, ok_part0, ok_part1, ok_thaw, ok_c, oka_cons, oka_nil, ok_var, List.set_cons_succ, List.set_cons_zero, List.getElem?_cons_succ, List.getElem?_cons_zero, Option.some.injEq, Sl.val.injEq, exists_eq_left', D.int.injEq, ok_ok, ok_onB, oks_onS, Bool.not_true, Bool.not_false, if_true, Bool.false_eq_true, if_false, oks_pass, vIsi_str]
  rw [if_pos (by simp)]
  refine hi.call fun d S1 fr h => ?_
  simp -implicitDefEqProofs only [oks_seq, oks_set, oks_item, oks_if, oks_ret, oks_expr, ok_or, ok_and, ok_not, ok_ebin, ok_eun, ok_bm, ok_callF, ok_meth, ok_lst, ok_tup, ok_slice, ok_part0, ok_part1, ok_thaw, ok_c, oka_cons, oka_nil, ok_var, List.set_cons_succ, List.set_cons_zero, List.getElem?_cons_succ, List.getElem?_cons_zero, Option.some.injEq, Sl.val.injEq, exists_eq_left', D.int.injEq, ok_ok, ok_onB, oks_onS, Bool.not_true, Bool.not_false, if_true, Bool.false_eq_true, if_false, oks_pass, vIs_n]
  cases e : lineOf x with
  | none =>
    rw [e] at h
    obtain ⟨rfl, rfl⟩ := h
    rw [if_pos (by simp), oks_raiseFL (i := 0) (S1 := S1) (fr := false) rfl]
    exact ⟨rfl, rfl, trunc_same (Grw.refl _)⟩
  | some L =>
    rw [e] at h
    have nn := h.el.nn
    rw [if_neg (by simp [nn])]
    have := md_pass (fr := false) h
    exact this.call fun d S' fr h => ⟨L, rfl, h⟩
/-! ### a book -/
/-- the lines, or the number of the first that is none -/
def bookOf : List Str → Nat ⊕ List Ln
  | [] => .inr []
  | l :: ls => match lineOf l with
    | none => .inl 0
    | some L => match bookOf ls with
      | .inl k => .inl (k + 1)
      | .inr Ls => .inr (L :: Ls)
def bookL (x : Str) : Nat ⊕ List Ln := if x = Str.ofString "" then .inr [] else bookOf (Txt.split x nlS)
/-- what is left of a book behind some lines -/
theorem bookOf_cons {l : Str} {ls : List Str} : bookOf (l :: ls) = match lineOf l with
    | none => .inl 0
    | some L => match bookOf ls with
      | .inl k => .inl (k + 1)
      | .inr Ls => .inr (L :: Ls) := by rw [bookOf]
theorem bookOf_split : ∀ (ls : List Str) (L : List Ln) (rs : List Str), ls.map lineOf = L.map some → bookOf (ls ++ rs) = match bookOf rs with
    | .inl k => .inl (k + L.length)
    | .inr Ls => .inr (L ++ Ls)
  | [], [], rs, _ => by simp; cases bookOf rs <;> rfl
  | [], _ :: _, rs, h => by cases h
  | _ :: _, [], rs, h => by cases h
  | l :: ls, M :: L, rs, h => by
    rw [List.map_cons, List.map_cons, List.cons.injEq] at h
    rw [List.cons_append, bookOf_cons, h.1]
    simp only
    rw [bookOf_split ls L rs h.2]
    cases bookOf rs with
    | inl k => simp only [List.length_cons, Sum.inl.injEq]; omega
    | inr Ls => simp
theorem snap_ds {ps : List PyData} {j : Nat} {n : Nat} {ds : List D} (h : S[n]? = some (.lst ds)) (e : allSome (ds.map (DL.snap j S)) = some ps) : DL.snap (j + 1) S (.ref n) = some (.list ps) := by
  show (match S[n]? with
    | some (.lst xs) => (allSome (xs.map (DL.snap j S))).map PyData.list
    | _ => none) = _
  rw [h]
  show (allSome (ds.map (DL.snap j S))).map PyData.list = _
  rw [e]; rfl
inductive Els (k : Nat) (S : Store) : List Ln → List D → Prop
  | nil : Els k S [] []
  | cons {L : Ln} {d : D} {Ls : List Ln} {ds : List D} : ElD k L d S → Els k S Ls ds → Els k S (L :: Ls) (d :: ds)
theorem Els.snap {k : Nat} {S : Store} : ∀ {Ls : List Ln} {ds : List D}, Els k S Ls ds → allSome (ds.map (DL.snap 50 S)) = some (Ls.map pdL)
  | _, _, .nil => rfl
  | _, _, .cons h r => by
    rw [List.map_cons, h.ln.is]
    show (allSome _).map (_ :: ·) = _
    rw [r.snap]; rfl
theorem Els.grow {k : Nat} {S S' : Store} (g : Grw S S') : ∀ {Ls : List Ln} {ds : List D}, Els k S Ls ds → Els k S' Ls ds
  | _, _, .nil => .nil
  | _, _, .cons h r => .cons (h.grow g) (r.grow g)
theorem Els.set {k n : Nat} {o : O} {S : Store} (hn : n < k) : ∀ {Ls : List Ln} {ds : List D}, Els k S Ls ds → Els k (S.set n o) Ls ds
  | _, _, .nil => .nil
  | _, _, .cons h r => .cons (h.set hn) (r.set hn)
theorem Els.snoc {k : Nat} {S : Store} {L : Ln} {d : D} (h : ElD k L d S) : ∀ {Ls : List Ln} {ds : List D}, Els k S Ls ds → Els k S (Ls ++ [L]) (ds ++ [d])
  | _, _, .nil => .cons h .nil
  | _, _, .cons h1 r => .cons h1 (r.snoc h)
theorem Els.len {k : Nat} {S : Store} : ∀ {Ls : List Ln} {ds : List D}, Els k S Ls ds → ds.length = Ls.length
  | _, _, .nil => rfl
  | _, _, .cons _ r => by simp [r.len]
/-- where all lines are free of what was made anew, they are lines in any store -/
theorem Els.flat {k j : Nat} {S : Store} (hj : j ≤ k) : ∀ {Ls : List Ln} {ds : List D}, Els k S Ls ds → D.loL j ds = true → ∀ m T, Els m T Ls ds
  | _, _, .nil, _, m, T => .nil
  | _, _, .cons h r, lo, m, T => by
    rw [D.loL, Bool.and_eq_true] at lo
    rcases h with h2 | h2
    · rw [h2.lo hj] at lo; cases lo.1
    · exact .cons (.inr h2) (r.flat hj lo.2 m T)
/-- a book as it is read: a list of its own, or a value -/
def BkD (S : Store) (Ls : List Ln) (d : D) (S' : Store) (fr : Bool) : Prop := (∃ ds, d = .lst ds ∧ fr = true ∧ S' = S ∧ ∀ m T, Els m T Ls ds) ∨ ∃ ds, d = .ref S.length ∧ S'[S.length]? = some (.lst ds) ∧ Els (S.length + 1) S' Ls ds
/-- a list of such lines, a thing of the store or a value -/
theorem book_fin {S S' : Store} {ds : List D} {Ls : List Ln} {fr : Bool} (h : S'[S.length]? = some (.lst ds)) (g : Grw S S') (e : Els (S.length + 1) S' Ls ds) :
    Ok NoE (finR false S (.ref S.length) S' fr) fun d S'' fr => DL.snap 51 S'' d = some (.list (Ls.map pdL)) ∧ Grw S S'' ∧ (D.lo S.length d = false ∨ S'' = S) ∧ BkD S Ls d S'' fr := by
  have ef : frzD false S.length S' (.ref S.length) = (.lst ds, true) := by
    have : ¬ S.length < S.length := by omega
    simp [frzD, this, h]
  have hln : S.length < S'.length := (List.getElem?_eq_some_iff.mp h).1
  unfold finR
  rw [if_neg (by omega), ef]
  split
  · rename_i c
    have lo : D.loL S.length ds = true := by simpa [D.lo] using c.1
    have ht : S'.take S.length = S := by
      refine List.ext_getElem? fun j => ?_
      by_cases hj : j < S.length
      · rw [List.getElem?_take_of_lt hj]; exact g.low j hj
      · rw [List.getElem?_eq_none (by rw [List.length_take]; omega), List.getElem?_eq_none (by omega)]
    rw [ht, ok_ok]
    refine ⟨?_, Grw.refl _, .inr rfl, .inl ⟨ds, rfl, rfl, rfl, e.flat (Nat.le_succ _) lo⟩⟩
    show (allSome (ds.map (DL.snap 50 S))).map PyData.list = _
    rw [(e.flat (Nat.le_succ _) lo 0 S).snap]; rfl
  · exact ⟨snap_ds h e.snap, g, .inl (by have : ¬ S.length < S.length := by omega
                                         simp [D.lo, this]), .inr ⟨ds, rfl, h, e⟩⟩
def BkI (S : Store) (x : Str) (rr : List D) (env : Env') (S' : Store) : Prop := ∃ (j : Nat) (Ls : List Ln) (ds : List D) (e2 e3 e4 : Sl), rr = (enumD ((Txt.split x nlS).map D.str)).drop j ∧ env = [.val (.str x), .val (.ref S.length), e2, e3, e4] ∧ j ≤ (Txt.split x nlS).length ∧
  ((Txt.split x nlS).take j).map lineOf = Ls.map some ∧ S'[S.length]? = some (.lst ds) ∧ Els (S.length + 1) S' Ls ds ∧ Grw S S'
theorem read_book_ok (hl : x.length ≤ 900000) (hT : TOk x) : Ok (fun e S' => ∃ k, bookL x = .inl k ∧ TxE k S e S') (m_read_book [.str x] S) fun d S' fr => ∃ Ls, bookL x = .inr Ls ∧ DL.snap 51 S' d = some (.list (Ls.map pdL)) ∧ Grw S S' ∧ (D.lo S.length d = false ∨ S' = S) ∧ BkD S Ls d S' fr := by
  unfold m_read_book; rw [ok_def]
  simp -implicitDefEqProofs only [List.map_cons, List.map_nil, List.replicate, List.cons_append, List.nil_append]
  have sp : ∀ S, vSplit (.str x) [.str (Str.ofString "\n")] S = .ok (.lst ((Txt.split x nlS).map D.str)) S true := fun S => vsplit_ok tl_nl (by decide) (by omega)
  simp -implicitDefEqProofs only [oks_seq, oks_set, oks_item, oks_if, oks_ret, oks_expr, ok_or, ok_and, ok_not, ok_ebin, ok_eun, ok_bm, ok_callF, ok_meth, ok_lst, ok_tup, ok_slice, ok_part0, ok_part1, ok_thaw, ok_c, oka_cons, oka_nil, ok_var, List.set_cons_succ, List.set_cons_zero, List.getElem?_cons_succ, List.getElem?_cons_zero, Option.some.injEq, Sl.val.injEq, exists_eq_left', D.int.injEq, ok_ok, ok_onB, oks_onS, Bool.not_true, Bool.not_false, if_true, Bool.false_eq_true, if_false, oks_pass, vIsi_str, vEq_s]
  rw [if_pos (by simp)]
  by_cases c0 : x = Str.ofString ""
  · rw [if_pos (decide_eq_true c0)]
    have e0 : bookL x = .inr [] := by unfold bookL; rw [if_pos c0]
    rw [e0]
    show Ok _ (finR false S (.lst []) S true) _
    rw [finR_same rfl, ok_ok]
    exact ⟨[], rfl, rfl, Grw.refl _, .inr rfl, .inl ⟨[], rfl, rfl, rfl, fun _ _ => .nil⟩⟩
  · rw [if_neg (by simpa using c0)]
    have e0 : bookL x = bookOf (Txt.split x nlS) := by unfold bookL; rw [if_neg c0]
    rw [e0]
    have tt := split_tot (x := x) tl_nl (by decide)
    have ta := split_all (x := x) tl_nl (by decide) hT
    have tl := tot_len (Txt.split x nlS)
    have tm : ∀ z ∈ Txt.split x nlS, z.length ≤ 900000 := fun z hz => by have := tot_mem hz; omega
    simp -implicitDefEqProofs only [oks_seq, oks_set, oks_item, oks_if, oks_ret, oks_expr, ok_or, ok_and, ok_not, ok_ebin, ok_eun, ok_bm, ok_callF, ok_meth, ok_lst, ok_tup, ok_slice, ok_part0, ok_part1, ok_thaw, ok_c, oka_cons, oka_nil, ok_var, List.set_cons_succ, List.set_cons_zero, List.getElem?_cons_succ, List.getElem?_cons_zero, Option.some.injEq, Sl.val.injEq, exists_eq_left', D.int.injEq, ok_ok, ok_onB, oks_onS, Bool.not_true, Bool.not_false, if_true, Bool.false_eq_true, if_false, oks_pass, thaw_lst, oks_sfor, oki_arg, sp, isStrD_s, enum_lst, oki_ok]
    refine ⟨trivial, ?_⟩
    have g0 : (S ++ [O.lst []])[S.length]? = some (.lst []) := by simp
    have gg := Grw.app S [O.lst []]
    generalize S ++ [O.lst []] = S2 at g0 gg
    refine oks_for (BkI S x) ⟨0, [], [], _, _, _, rfl, rfl, Nat.zero_le _, rfl, g0, .nil, gg⟩ ?_ ?_
    · rintro y rr env S3 ⟨j, Ls, ds, e2, e3, e4, er, rfl, hj, em, h0, he, hg⟩
      obtain ⟨h1, h2⟩ := drop_atL er
      obtain ⟨z', ez, rfl⟩ := enum_atL h1
      rw [List.getElem?_map] at ez
      have hj' : j < (Txt.split x nlS).length := by
        cases e : (Txt.split x nlS)[j]? with
        | none => rw [e] at ez; cases ez
        | some z => exact (List.getElem?_eq_some_iff.mp e).1
      rw [List.getElem?_eq_getElem hj'] at ez
      cases ez
      have zm : (Txt.split x nlS)[j] ∈ Txt.split x nlS := List.getElem_mem hj'
      have zd : Txt.split x nlS = (Txt.split x nlS).take j ++ ((Txt.split x nlS)[j] :: (Txt.split x nlS).drop (j + 1)) := by
        rw [← List.drop_eq_getElem_cons hj', List.take_append_drop]
      have zt : (Txt.split x nlS).take (j + 1) = (Txt.split x nlS).take j ++ [(Txt.split x nlS)[j]] := by
        rw [List.take_add_one, List.getElem?_eq_getElem hj']; rfl
      have lj : ((Txt.split x nlS).take j).length = Ls.length := by
        have := congrArg List.length em
        simpa using this
      have lj2 : Ls.length = j := by rw [← lj, List.length_take]; omega
      have bs := bookOf_split ((Txt.split x nlS).take j) Ls ((Txt.split x nlS)[j] :: (Txt.split x nlS).drop (j + 1)) em
      rw [← zd] at bs
      generalize (Txt.split x nlS)[j] = z at *
      have hi := line_in_ok (S := S3) (x := z) (tm z zm) (ta z zm)
      refine ⟨gdOk_none.mpr trivial, _, by simp [gT, seqOf, gAll, gN]; rfl, ?_⟩
      unfold m_read_book_b1
      simp -implicitDefEqProofs only [oks_seq, oks_set, oks_item, oks_if, oks_ret, oks_expr, ok_or, ok_and, ok_not, ok_ebin, ok_eun, ok_bm, ok_callF, ok_meth, ok_lst, ok_tup, ok_slice, ok_part0, ok_part1, ok_thaw, ok_c, oka_cons, oka_nil, ok_var, List.set_cons_succ, List.set_cons_zero, List.getElem?_cons_succ, List.getElem?_cons_zero, Option.some.injEq, Sl.val.injEq, exists_eq_left', D.int.injEq, ok_ok, ok_onB, oks_onS, Bool.not_true, Bool.not_false, if_true, Bool.false_eq_true, if_false, oks_pass]
      refine hi.call fun d S4 fr h => ?_
      simp -implicitDefEqProofs only [oks_seq, oks_set, oks_item, oks_if, oks_ret, oks_expr, ok_or, ok_and, ok_not, ok_ebin, ok_eun, ok_bm, ok_callF, ok_meth, ok_lst, ok_tup, ok_slice, ok_part0, ok_part1, ok_thaw, ok_c, oka_cons, oka_nil, ok_var, List.set_cons_succ, List.set_cons_zero, List.getElem?_cons_succ, List.getElem?_cons_zero, Option.some.injEq, Sl.val.injEq, exists_eq_left', D.int.injEq, ok_ok, ok_onB, oks_onS, Bool.not_true, Bool.not_false, if_true, Bool.false_eq_true, if_false, oks_pass, vIs_n]
      cases eL : lineOf z with
      | none =>
        rw [eL] at h
        obtain ⟨rfl, rfl⟩ := h
        rw [if_pos (by simp), oks_raiseFL (i := (j : Int)) (S1 := S4) (fr := false) rfl]
        refine ⟨j, ?_, rfl, trunc_same hg⟩
        rw [bs, bookOf_cons, eL]
        simp [lj2]
      | some L =>
        rw [eL] at h
        have h4 := h.1
        have eld := h.elD
        rw [if_neg (by simp [eld.ln.nn])]
        have h0' : S4[S.length]? = some (.lst ds) := by
          rw [h4.low _ (List.getElem?_eq_some_iff.mp h0).1]; exact h0
        have dl := he.len
        have ap := vAppend_ref (S := S4) (y := d) h0' (by omega)
        simp -implicitDefEqProofs only [oks_seq, oks_set, oks_item, oks_if, oks_ret, oks_expr, ok_or, ok_and, ok_not, ok_ebin, ok_eun, ok_bm, ok_callF, ok_meth, ok_lst, ok_tup, ok_slice, ok_part0, ok_part1, ok_thaw, ok_c, oka_cons, oka_nil, ok_var, List.set_cons_succ, List.set_cons_zero, List.getElem?_cons_succ, List.getElem?_cons_zero, Option.some.injEq, Sl.val.injEq, exists_eq_left', D.int.injEq, ok_ok, ok_onB, oks_onS, Bool.not_true, Bool.not_false, if_true, Bool.false_eq_true, if_false, oks_pass, isLst_ref h0', ap]
        have hk : S.length + 1 ≤ S3.length := by have := (List.getElem?_eq_some_iff.mp h0).1; omega
        refine ⟨trivial, j + 1, Ls ++ [L], ds ++ [d], _, _, _, h2, rfl, hj', ?_, ?_, ?_, (hg.trans h4).set (Nat.le_refl _)⟩
        · rw [zt, List.map_append, List.map_append, em]
          simp [eL]
        · rw [List.getElem?_set_self (by have := (List.getElem?_eq_some_iff.mp h0').1; omega)]
        · exact Els.snoc ((eld.le hk).set (Nat.lt_succ_self _)) ((he.grow h4).set (Nat.lt_succ_self _))
    · rintro env S3 ⟨j, Ls, ds, e2, e3, e4, er, rfl, hj, em, h0, he, hg⟩
      have hjl : j = (Txt.split x nlS).length := by
        have := congrArg List.length er
        rw [List.length_drop] at this
        unfold enumD at this
        rw [List.length_mapIdx, List.length_map] at this
        simp at this
        omega
      refine ⟨gdOk_none.mpr trivial, ?_⟩
      simp -implicitDefEqProofs only [oks_seq, oks_set, oks_item, oks_if, oks_ret, oks_expr, ok_or, ok_and, ok_not, ok_ebin, ok_eun, ok_bm, ok_callF, ok_meth, ok_lst, ok_tup, ok_slice, ok_part0, ok_part1, ok_thaw, ok_c, oka_cons, oka_nil, ok_var, List.set_cons_succ, List.set_cons_zero, List.getElem?_cons_succ, List.getElem?_cons_zero, Option.some.injEq, Sl.val.injEq, exists_eq_left', D.int.injEq, ok_ok, ok_onB, oks_onS, Bool.not_true, Bool.not_false, if_true, Bool.false_eq_true, if_false, oks_pass]
      have eb : bookOf (Txt.split x nlS) = .inr Ls := by
        have bs := bookOf_split (Txt.split x nlS) Ls [] (by rw [hjl, List.take_length] at em; exact em)
        rw [List.append_nil] at bs
        rw [bs]
        simp [bookOf]
      refine (book_fin h0 hg he).call fun d S' fr q => ⟨Ls, eb, q⟩
end
end G
namespace G
open PySem L2 DL
set_option maxHeartbeats 4000000
/-! ### a text spoilt -/
section
variable {ls ps qs : List Str} {l w x y : Str} {i k n : Nat} {S S' : Store}
theorem nl_TOk : TOk nlS := by unfold TOk; decide +kernel
theorem sp_TOk : TOk spS := by unfold TOk; decide +kernel
theorem nl_len : nlS.length = 1 := by decide +kernel
theorem sp_len : spS.length = 1 := by decide +kernel
end
end G
namespace G
open PySem L2 DL
set_option maxHeartbeats 4000000
/-! ### drawn lines -/
def PtOk : Fm → Pt → Prop
  | .name, .s z => NameOk z
  | .letter, .s z => z ∈ letT
  | .number, .n k => k < 1000000
  | .wish, .n k => k < 1000000
  | .wish, .any => True
  | _, _ => False
def PtsOk : List Fm → List Pt → Prop
  | [], [] => True
  | f :: fs, p :: ps => PtOk f p ∧ PtsOk fs ps
  | _, _ => False
def LnOk : Ln → Prop
  | .parts w ps => ∃ fs, formOf w = some fs ∧ PtsOk fs ps
  | .mend k o => ((∀ z ∈ k, NameOk z) ∧ k.length ≤ 4) ∧ (∀ z ∈ o, NameOk z) ∧ o.length ≤ 4
section
variable {S : Store} {n : Nat} {zs : List Str}
theorem pick84 {E : KE} {P : KV'} {env : Env'} (h0 : env[0]? = some (.val (.ref n))) (h1 : env[1]? = some (.val (.lst (zs.map D.str)))) (hs : Src S n) (hz : 0 < zs.length) (hb : zs.length ≤ 1000) (k : ∀ z S', z ∈ zs → Adv n S S' → P (.str z) S' false) :
    Ok E (eBin vIdx (eVar 1) (eCallF m_l_next [eVar 0, eCallF vLen [eVar 1]]) env S) P := by
  simp -implicitDefEqProofs only [oks_seq, oks_set, oks_item, oks_if, oks_ret, oks_expr, ok_or, ok_and, ok_not, ok_ebin, ok_eun, ok_bm, ok_callF, ok_meth, ok_lst, ok_tup, ok_slice, ok_part0, ok_part1, ok_thaw, ok_c, oka_cons, oka_nil, ok_var, List.set_cons_succ, List.set_cons_zero, List.getElem?_cons_succ, List.getElem?_cons_zero, Option.some.injEq, Sl.val.injEq, exists_eq_left', D.int.injEq, ok_ok, ok_onB, oks_onS, Bool.not_true, Bool.not_false, if_true, Bool.false_eq_true, if_false, oks_pass, h0, h1, vLen_lst, List.length_map]
  refine (next_ok hs (by omega) (by omega)).call fun d S1 fr q => ?_
  obtain ⟨i, rfl, i0, i1, adv⟩ := q
  obtain ⟨j, rfl⟩ := Int.eq_ofNat_of_zero_le i0
  have hi : j < zs.length := by omega
  have : vIdx (.lst (zs.map D.str)) (.int (j : Int)) S1 = .ok (.str zs[j]) S1 false := vIdx_lst (by rw [List.getElem?_map, List.getElem?_eq_getElem hi]; rfl)
  rw [this, ok_ok]
  exact k _ _ (List.getElem_mem hi) adv
theorem picks84 {E : KE} {P : KV'} {env : Env'} {m : Nat} (h0 : env[0]? = some (.val (.ref n))) (h1 : env[1]? = some (.val (.lst (zs.map D.str)))) (hs : Src S n) (hz : 0 < zs.length) (hb : zs.length ≤ 1000)
    (k : ∀ (ws : List Str) S', ws.length = m → (∀ w ∈ ws, w ∈ zs) → Adv n S S' → P (.lst (ws.map .str)) S' true) :
    Ok E (compL none (gN 9) none (eBin vIdx (eVar 1) (eCallF m_l_next [eVar 0, eCallF vLen [eVar 1]])) env (rngL 0 m) [] S) P := by
  refine ok_compL (fun rr acc S' => Adv n S S' ∧ ∃ ws : List Str, acc = ws.map D.str ∧ (∀ w ∈ ws, w ∈ zs) ∧ ws.length + rr.length = m) ⟨Adv.refl hs, [], rfl, fun _ h => by simp at h, by simp [rngL]⟩ ?_ ?_
  · rintro x rr acc S' ⟨adv, ws, rfl, hw, hl⟩
    refine ⟨gdOk_none.mpr trivial, _, rfl, true, rfl, ?_⟩
    rw [if_pos rfl]
    refine pick84 (zs := zs) (n := n) ?_ ?_ (adv.src hs) hz hb fun z S2 hm a2 => ?_
    · rw [List.getElem?_set_ne (by omega)]; exact h0
    · rw [List.getElem?_set_ne (by omega)]; exact h1
    · refine ⟨adv.trans a2, ws ++ [z], by simp, fun w hw' => ?_, by simp at hl ⊢; omega⟩
      rcases List.mem_append.mp hw' with h | h
      · exact hw w h
      · rw [List.mem_singleton] at h; subst h; exact hm
  · rintro acc S' ⟨adv, ws, rfl, hw, hl⟩
    exact ⟨gdOk_none.mpr trivial, k ws S' (by simpa using hl) hw adv⟩
theorem right_number_ok (hs : Src S n) : Ok NoE (m_l_right_number [.ref n] S) fun d S' _ => ∃ k : Nat, d = .int (k : Int) ∧ k < 1000000 ∧ Adv n S S' := by
  unfold m_l_right_number; rw [ok_def]
  simp -implicitDefEqProofs only [List.map_cons, List.map_nil, List.replicate, List.cons_append, List.nil_append]
  simp -implicitDefEqProofs only [oks_seq, oks_set, oks_item, oks_if, oks_ret, oks_expr, ok_or, ok_and, ok_not, ok_ebin, ok_eun, ok_bm, ok_callF, ok_meth, ok_lst, ok_tup, ok_slice, ok_part0, ok_part1, ok_thaw, ok_c, oka_cons, oka_nil, ok_var, List.set_cons_succ, List.set_cons_zero, List.getElem?_cons_succ, List.getElem?_cons_zero, Option.some.injEq, Sl.val.injEq, exists_eq_left', D.int.injEq, ok_ok, ok_onB, oks_onS, Bool.not_true, Bool.not_false, if_true, Bool.false_eq_true, if_false, oks_pass]
  refine (next_ok hs (by omega) (by omega)).call fun d S1 fr q => ?_
  obtain ⟨i1, rfl, a1, b1, v1⟩ := q
  have s1 := v1.src hs
  simp -implicitDefEqProofs only [oks_seq, oks_set, oks_item, oks_if, oks_ret, oks_expr, ok_or, ok_and, ok_not, ok_ebin, ok_eun, ok_bm, ok_callF, ok_meth, ok_lst, ok_tup, ok_slice, ok_part0, ok_part1, ok_thaw, ok_c, oka_cons, oka_nil, ok_var, List.set_cons_succ, List.set_cons_zero, List.getElem?_cons_succ, List.getElem?_cons_zero, Option.some.injEq, Sl.val.injEq, exists_eq_left', D.int.injEq, ok_ok, ok_onB, oks_onS, Bool.not_true, Bool.not_false, if_true, Bool.false_eq_true, if_false, oks_pass]
  refine (next_ok s1 (by omega) (by omega)).call fun d S2 fr q => ?_
  obtain ⟨i2, rfl, a2, b2, v2⟩ := q
  have s2 := v2.src s1
  have vp : ∀ S, vPow (.int 10) (.int 6) S = .ok (.int 1000000) S false := fun S => by rw [vPow_int, if_pos (by decide)]; rfl
  simp -implicitDefEqProofs only [oks_seq, oks_set, oks_item, oks_if, oks_ret, oks_expr, ok_or, ok_and, ok_not, ok_ebin, ok_eun, ok_bm, ok_callF, ok_meth, ok_lst, ok_tup, ok_slice, ok_part0, ok_part1, ok_thaw, ok_c, oka_cons, oka_nil, ok_var, List.set_cons_succ, List.set_cons_zero, List.getElem?_cons_succ, List.getElem?_cons_zero, Option.some.injEq, Sl.val.injEq, exists_eq_left', D.int.injEq, ok_ok, ok_onB, oks_onS, Bool.not_true, Bool.not_false, if_true, Bool.false_eq_true, if_false, oks_pass, vp]
  refine (next_ok s2 (by omega) (by omega)).call fun d S3 fr q => ?_
  obtain ⟨i3, rfl, a3, b3, v3⟩ := q
  have s3 := v3.src s2
  simp -implicitDefEqProofs only [oks_seq, oks_set, oks_item, oks_if, oks_ret, oks_expr, ok_or, ok_and, ok_not, ok_ebin, ok_eun, ok_bm, ok_callF, ok_meth, ok_lst, ok_tup, ok_slice, ok_part0, ok_part1, ok_thaw, ok_c, oka_cons, oka_nil, ok_var, List.set_cons_succ, List.set_cons_zero, List.getElem?_cons_succ, List.getElem?_cons_zero, Option.some.injEq, Sl.val.injEq, exists_eq_left', D.int.injEq, ok_ok, ok_onB, oks_onS, Bool.not_true, Bool.not_false, if_true, Bool.false_eq_true, if_false, oks_pass]
  refine (next_ok s3 (by omega) (by omega)).call fun d S4 fr q => ?_
  obtain ⟨i4, rfl, a4, b4, v4⟩ := q
  have adv := ((v1.trans v2).trans v3).trans v4
  have fin : ∀ i : Int, 0 ≤ i → i < 1000000 → Ok NoE (finR false S (.int i) S4 false) fun d S' _ => ∃ k : Nat, d = .int (k : Int) ∧ k < 1000000 ∧ Adv n S S' := fun i h0 h1 => by
    rw [finR_same adv.len, ok_ok]
    exact ⟨i.toNat, by congr 1; omega, by omega, adv⟩
  have : i4 = 0 ∨ i4 = 1 ∨ i4 = 2 ∨ i4 = 3 := by omega
  rcases this with rfl | rfl | rfl | rfl
  · have x : vIdx (.lst [.int i1, .int i2, .int i3, .int 999999]) (.int 0) S4 = .ok (.int i1) S4 false := vIdx_lst (i := 0) rfl
    rw [x]; exact fin _ (by omega) (by omega)
  · have x : vIdx (.lst [.int i1, .int i2, .int i3, .int 999999]) (.int 1) S4 = .ok (.int i2) S4 false := vIdx_lst (i := 1) rfl
    rw [x]; exact fin _ (by omega) (by omega)
  · have x : vIdx (.lst [.int i1, .int i2, .int i3, .int 999999]) (.int 2) S4 = .ok (.int i3) S4 false := vIdx_lst (i := 2) rfl
    rw [x]; exact fin _ (by omega) (by omega)
  · have x : vIdx (.lst [.int i1, .int i2, .int i3, .int 999999]) (.int 3) S4 = .ok (.int 999999) S4 false := vIdx_lst (i := 3) rfl
    rw [x]; exact fin _ (by omega) (by omega)
theorem let3_idx {i : Int} (h0 : 0 ≤ i) (h1 : i < 3) : ∃ z ∈ letT, vIdx (.lst [.str (Str.ofString "ask"), .str (Str.ofString "right"), .str (Str.ofString "back")]) (.int i) S = .ok (.str z) S false := by
  have : i = 0 ∨ i = 1 ∨ i = 2 := by omega
  rcases this with rfl | rfl | rfl
  · exact ⟨Str.ofString "ask", by simp [letT], vIdx_lst (i := 0) rfl⟩
  · exact ⟨Str.ofString "right", by simp [letT], by rw [show (1 : Int) = ((1 : Nat) : Int) from rfl]; exact vIdx_lst (i := 1) rfl⟩
  · exact ⟨Str.ofString "back", by simp [letT], by rw [show (2 : Int) = ((2 : Nat) : Int) from rfl]; exact vIdx_lst (i := 2) rfl⟩
/-- the lines of which one is drawn -/
def allL (a b c w : Str) (k : Nat) (ks os : List Str) : List Ln :=
  [.parts (Str.ofString "want") [.s a, .s b, .n k], .parts (Str.ofString "want") [.s a, .s b, .any], .parts (Str.ofString "leave") [.s a, .s b], .parts (Str.ofString "done") [.s a, .s b],
   .parts (Str.ofString "come") [.s a, .s b], .parts (Str.ofString "fall") [.s a], .parts (Str.ofString "cut") [.s a, .s b], .mend ks os,
   .parts (Str.ofString "given") [.s a, .s c, .n k], .parts (Str.ofString "sends") [.s a, .s b, .n k, .s w], .parts (Str.ofString "lost") [.s a, .s b, .n k, .s w], .parts (Str.ofString "anew") [.n k, .s a]]
theorem allL_ok {a b c w : Str} {k : Nat} {ks os : List Str} (ha : NameOk a) (hb : NameOk b) (hc : NameOk c) (hw : w ∈ letT) (hk : k < 1000000) (h1 : (∀ z ∈ ks, NameOk z) ∧ ks.length ≤ 4) (h2 : (∀ z ∈ os, NameOk z) ∧ os.length ≤ 4) : ∀ L ∈ allL a b c w k ks os, LnOk L := by
  intro L hL
  unfold allL at hL
  simp only [List.mem_cons, List.not_mem_nil, or_false] at hL
  rcases hL with rfl | rfl | rfl | rfl | rfl | rfl | rfl | rfl | rfl | rfl | rfl | rfl
  · exact ⟨[.name, .name, .wish], by decide +kernel, ha, hb, hk, trivial⟩
  · exact ⟨[.name, .name, .wish], by decide +kernel, ha, hb, trivial, trivial⟩
  · exact ⟨[.name, .name], by decide +kernel, ha, hb, trivial⟩
  · exact ⟨[.name, .name], by decide +kernel, ha, hb, trivial⟩
  · exact ⟨[.name, .name], by decide +kernel, ha, hb, trivial⟩
  · exact ⟨[.name], by decide +kernel, ha, trivial⟩
  · exact ⟨[.name, .name], by decide +kernel, ha, hb, trivial⟩
  · exact ⟨h1, h2⟩
  · exact ⟨[.name, .name, .number], by decide +kernel, ha, hc, hk, trivial⟩
  · exact ⟨[.name, .name, .number, .letter], by decide +kernel, ha, hb, hk, hw, trivial⟩
  · exact ⟨[.name, .name, .number, .letter], by decide +kernel, ha, hb, hk, hw, trivial⟩
  · exact ⟨[.number, .name], by decide +kernel, hk, ha, trivial⟩
theorem l_line_ok (hs : Src S n) (hz : 0 < zs.length) (hb : zs.length ≤ 12) (hn : ∀ z ∈ zs, NameOk z) : Ok NoE (m_l_line [.ref n, .lst (zs.map D.str)] S) fun d S' _ => ∃ L, d = valL L ∧ LnOk L ∧ Adv n S S' := by
  unfold m_l_line; rw [ok_def]
  simp -implicitDefEqProofs only [List.map_cons, List.map_nil, List.replicate, List.cons_append, List.nil_append]
  have r3 : ∀ S, fRng1 [.int 3] S = .ok (rngL 0 3) none S := fun S => by rw [rng1, if_pos (by decide)]; rfl
  have r2 : ∀ S, fRng1 [.int 2] S = .ok (rngL 0 2) none S := fun S => by rw [rng1, if_pos (by decide)]; rfl
  simp -implicitDefEqProofs only [oks_seq, oks_set, oks_item, oks_if, oks_ret, oks_expr, ok_or, ok_and, ok_not, ok_ebin, ok_eun, ok_bm, ok_callF, ok_meth, ok_lst, ok_tup, ok_slice, ok_part0, ok_part1, ok_thaw, ok_c, oka_cons, oka_nil, ok_var, List.set_cons_succ, List.set_cons_zero, List.getElem?_cons_succ, List.getElem?_cons_zero, Option.some.injEq, Sl.val.injEq, exists_eq_left', D.int.injEq, ok_ok, ok_onB, oks_onS, Bool.not_true, Bool.not_false, if_true, Bool.false_eq_true, if_false, oks_pass, oks_asg, ok_comp, oki_arg, r3, oki_ok]
  refine picks84 (zs := zs) (m := 3) ?_ ?_ hs hz (by omega) fun ws S1 hl hw v1 => ?_
  · rfl
  · rfl
  obtain ⟨a, b, c, rfl⟩ : ∃ a b c, ws = [a, b, c] := by
    match ws, hl with
    | [a, b, c], _ => exact ⟨a, b, c, rfl⟩
  have na := hn a (hw a (by simp))
  have nb := hn b (hw b (by simp))
  have nc := hn c (hw c (by simp))
  have s1 := v1.src hs
  refine ⟨_, by simp [gT, seqOf, lstOf, gAll, gN]; rfl, ?_⟩
  simp -implicitDefEqProofs only [oks_seq, oks_set, oks_item, oks_if, oks_ret, oks_expr, ok_or, ok_and, ok_not, ok_ebin, ok_eun, ok_bm, ok_callF, ok_meth, ok_lst, ok_tup, ok_slice, ok_part0, ok_part1, ok_thaw, ok_c, oka_cons, oka_nil, ok_var, List.set_cons_succ, List.set_cons_zero, List.getElem?_cons_succ, List.getElem?_cons_zero, Option.some.injEq, Sl.val.injEq, exists_eq_left', D.int.injEq, ok_ok, ok_onB, oks_onS, Bool.not_true, Bool.not_false, if_true, Bool.false_eq_true, if_false, oks_pass]
  refine (right_number_ok s1).call fun d S2 fr q => ?_
  obtain ⟨k, rfl, hk, v2⟩ := q
  have s2 := v2.src s1
  simp -implicitDefEqProofs only [oks_seq, oks_set, oks_item, oks_if, oks_ret, oks_expr, ok_or, ok_and, ok_not, ok_ebin, ok_eun, ok_bm, ok_callF, ok_meth, ok_lst, ok_tup, ok_slice, ok_part0, ok_part1, ok_thaw, ok_c, oka_cons, oka_nil, ok_var, List.set_cons_succ, List.set_cons_zero, List.getElem?_cons_succ, List.getElem?_cons_zero, Option.some.injEq, Sl.val.injEq, exists_eq_left', D.int.injEq, ok_ok, ok_onB, oks_onS, Bool.not_true, Bool.not_false, if_true, Bool.false_eq_true, if_false, oks_pass]
  refine (next_ok s2 (by omega) (by omega)).call fun d S3 fr q => ?_
  obtain ⟨i3, rfl, a3, b3, v3⟩ := q
  have s3 := v3.src s2
  obtain ⟨w, hwl, ew⟩ := let3_idx (S := S3) a3 b3
  simp -implicitDefEqProofs only [oks_seq, oks_set, oks_item, oks_if, oks_ret, oks_expr, ok_or, ok_and, ok_not, ok_ebin, ok_eun, ok_bm, ok_callF, ok_meth, ok_lst, ok_tup, ok_slice, ok_part0, ok_part1, ok_thaw, ok_c, oka_cons, oka_nil, ok_var, List.set_cons_succ, List.set_cons_zero, List.getElem?_cons_succ, List.getElem?_cons_zero, Option.some.injEq, Sl.val.injEq, exists_eq_left', D.int.injEq, ok_ok, ok_onB, oks_onS, Bool.not_true, Bool.not_false, if_true, Bool.false_eq_true, if_false, oks_pass, ew, ok_comp, oki_arg, r2, oki_ok]
  have adv3 := (v1.trans v2).trans v3
  refine ok_compL (fun rr acc S' => Adv n S S' ∧ ∃ ls : List (List Str), acc = ls.map (fun l => D.lst (l.map .str)) ∧ (∀ l ∈ ls, (∀ z ∈ l, NameOk z) ∧ l.length ≤ 4) ∧ ls.length + rr.length = 2) ⟨adv3, [], rfl, fun _ h => by simp at h, by simp [rngL]⟩ ?_ ?_
  · rintro x rr acc S' ⟨adv, ls, rfl, hls, hl⟩
    refine ⟨gdOk_none.mpr trivial, _, rfl, true, rfl, ?_⟩
    rw [if_pos rfl]
    simp -implicitDefEqProofs only [oks_seq, oks_set, oks_item, oks_if, oks_ret, oks_expr, ok_or, ok_and, ok_not, ok_ebin, ok_eun, ok_bm, ok_callF, ok_meth, ok_lst, ok_tup, ok_slice, ok_part0, ok_part1, ok_thaw, ok_c, oka_cons, oka_nil, ok_var, List.set_cons_succ, List.set_cons_zero, List.getElem?_cons_succ, List.getElem?_cons_zero, Option.some.injEq, Sl.val.injEq, exists_eq_left', D.int.injEq, ok_ok, ok_onB, oks_onS, Bool.not_true, Bool.not_false, if_true, Bool.false_eq_true, if_false, oks_pass, ok_comp, oki_arg, wipeE, List.foldl_cons, List.foldl_nil, gN]
    refine (next_ok (adv.src hs) (by omega) (by omega)).call fun d S4 fr q => ?_
    obtain ⟨i4, rfl, a4, b4, v4⟩ := q
    have r4 : fRng1 [.int i4] S4 = .ok (rngL 0 i4.toNat) none S4 := by rw [rng1, if_pos (by omega)]
    simp -implicitDefEqProofs only [oks_seq, oks_set, oks_item, oks_if, oks_ret, oks_expr, ok_or, ok_and, ok_not, ok_ebin, ok_eun, ok_bm, ok_callF, ok_meth, ok_lst, ok_tup, ok_slice, ok_part0, ok_part1, ok_thaw, ok_c, oka_cons, oka_nil, ok_var, List.set_cons_succ, List.set_cons_zero, List.getElem?_cons_succ, List.getElem?_cons_zero, Option.some.injEq, Sl.val.injEq, exists_eq_left', D.int.injEq, ok_ok, ok_onB, oks_onS, Bool.not_true, Bool.not_false, if_true, Bool.false_eq_true, if_false, oks_pass, r4, oki_ok]
    refine picks84 (zs := zs) (m := i4.toNat) ?_ ?_ ((adv.trans v4).src hs) hz (by omega) fun us S5 hl5 hu v5 => ?_
    · rfl
    · rfl
    refine ⟨(adv.trans v4).trans v5, ls ++ [us], by simp, fun l hl' => ?_, by simp at hl ⊢; omega⟩
    rcases List.mem_append.mp hl' with h | h
    · exact hls l h
    · rw [List.mem_singleton] at h; subst h
      exact ⟨fun z hz' => hn z (hu z hz'), by omega⟩
  · rintro acc S4 ⟨adv, ls, rfl, hls, hl⟩
    refine ⟨gdOk_none.mpr trivial, ?_⟩
    obtain ⟨ks, os, rfl⟩ : ∃ ks os, ls = [ks, os] := by
      match ls, hl with
      | [ks, os], _ => exact ⟨ks, os, rfl⟩
    have h1 := hls ks (by simp)
    have h2 := hls os (by simp)
    have all := allL_ok na nb nc hwl hk h1 h2
    have x0 : ∀ S, vIdx (.lst [.lst (ks.map D.str), .lst (os.map D.str)]) (.int 0) S = .ok (.lst (ks.map D.str)) S false := fun S => vIdx_lst (i := 0) rfl
    have x1 : ∀ S, vIdx (.lst [.lst (ks.map D.str), .lst (os.map D.str)]) (.int 1) S = .ok (.lst (os.map D.str)) S false := fun S => vIdx_lst (i := 1) rfl
    simp -implicitDefEqProofs only [List.map_cons, List.map_nil]
    have va : ∀ (xs ys : List D) S, xs.length + ys.length ≤ 100 → vAdd (.lst xs) (.lst ys) S = .ok (.lst (xs ++ ys)) S true := fun xs ys S h => by
      unfold vAdd
      have e1 : lstOf S (.lst xs) = some xs := rfl
      have e2 : lstOf S (.lst ys) = some ys := rfl
      simp only [e1, e2]
      rw [if_pos (by omega)]
    simp -implicitDefEqProofs only [oks_seq, oks_set, oks_item, oks_if, oks_ret, oks_expr, ok_or, ok_and, ok_not, ok_ebin, ok_eun, ok_bm, ok_callF, ok_meth, ok_lst, ok_tup, ok_slice, ok_part0, ok_part1, ok_thaw, ok_c, oka_cons, oka_nil, ok_var, List.set_cons_succ, List.set_cons_zero, List.getElem?_cons_succ, List.getElem?_cons_zero, Option.some.injEq, Sl.val.injEq, exists_eq_left', D.int.injEq, ok_ok, ok_onB, oks_onS, Bool.not_true, Bool.not_false, if_true, Bool.false_eq_true, if_false, oks_pass, x0, x1]
    rw [va _ _ _ (by simp), ok_ok]
    simp -implicitDefEqProofs only [oks_seq, oks_set, oks_item, oks_if, oks_ret, oks_expr, ok_or, ok_and, ok_not, ok_ebin, ok_eun, ok_bm, ok_callF, ok_meth, ok_lst, ok_tup, ok_slice, ok_part0, ok_part1, ok_thaw, ok_c, oka_cons, oka_nil, ok_var, List.set_cons_succ, List.set_cons_zero, List.getElem?_cons_succ, List.getElem?_cons_zero, Option.some.injEq, Sl.val.injEq, exists_eq_left', D.int.injEq, ok_ok, ok_onB, oks_onS, Bool.not_true, Bool.not_false, if_true, Bool.false_eq_true, if_false, oks_pass]
    rw [va _ _ _ (by simp), ok_ok]
    simp -implicitDefEqProofs only [oks_seq, oks_set, oks_item, oks_if, oks_ret, oks_expr, ok_or, ok_and, ok_not, ok_ebin, ok_eun, ok_bm, ok_callF, ok_meth, ok_lst, ok_tup, ok_slice, ok_part0, ok_part1, ok_thaw, ok_c, oka_cons, oka_nil, ok_var, List.set_cons_succ, List.set_cons_zero, List.getElem?_cons_succ, List.getElem?_cons_zero, Option.some.injEq, Sl.val.injEq, exists_eq_left', D.int.injEq, ok_ok, ok_onB, oks_onS, Bool.not_true, Bool.not_false, if_true, Bool.false_eq_true, if_false, oks_pass]
    rw [va _ _ _ (by simp), ok_ok]
    refine (next_ok (adv.src hs) (by omega) (by omega)).call fun d S5 fr q => ?_
    obtain ⟨i5, rfl, a5, b5, v5⟩ := q
    obtain ⟨j, rfl⟩ := Int.eq_ofNat_of_zero_le a5
    have hi : j < (allL a b c w k ks os).length := by show j < 12; omega
    have ex : vIdx (.lst ((allL a b c w k ks os).map valL)) (.int (j : Int)) S5 = .ok (valL (allL a b c w k ks os)[j]) S5 false := vIdx_lst (by rw [List.getElem?_map, List.getElem?_eq_getElem hi]; rfl)
    change Ok _ (vIdx (.lst ((allL a b c w k ks os).map valL)) (.int (j : Int)) S5) _
    rw [ex, ok_ok]
    show Ok NoE (finR false S _ S5 false) _
    rw [finR_same (adv.trans v5).len, ok_ok]
    exact ⟨_, rfl, all _ (List.getElem_mem hi), adv.trans v5⟩
end
end G
namespace G
open PySem L2 DL
set_option maxHeartbeats 4000000
/-! ### a line as a text -/
def wordP : Pt → Str
  | .s z => z
  | .n k => numS k
  | .any => anyT
def piecesL : Ln → List Str
  | .parts w ps => w :: ps.map wordP
  | .mend k o => mendT :: ((k.map fun z => Str.ofString "+ " ++ z) ++ o.map fun z => Str.ofString "- " ++ z)
def textL (L : Ln) : Str := Txt.join spS (piecesL L)
theorem numS_len {k : Nat} (h : k < 1000000) : 1 ≤ (numS (k : Nat)).length ∧ (numS (k : Nat)).length ≤ 6 := by
  rw [str_len, numS_cps, List.length_map]
  exact ⟨toDigits_len_ge 10 k, toDigits_len_pow (by decide) (by decide) h⟩
theorem numS_TOk (k : Nat) : TOk (numS (k : Nat)) := numS_ok (by omega)
theorem nameT {z : Str} (h : NameOk z) : TOk z ∧ z.length ≤ 8 := ⟨strOk_of fun c hc => by have := h.1 c hc; omega, h.2.2⟩
theorem letT_ok : ∀ z ∈ letT, TOk z ∧ z.length ≤ 8 := by unfold TOk; decide +kernel
theorem wordP_ok : ∀ {f : Fm} {p : Pt}, PtOk f p → TOk (wordP p) ∧ (wordP p).length ≤ 8
  | .name, .s z, h => nameT h
  | .letter, .s z, h => letT_ok z h
  | .number, .n k, h => ⟨numS_TOk k, by have := (numS_len h).2; show (numS (k : Nat)).length ≤ 8; omega⟩
  | .wish, .n k, h => ⟨numS_TOk k, by have := (numS_len h).2; show (numS (k : Nat)).length ≤ 8; omega⟩
  | .wish, .any, _ => ⟨by show PyData.strOk anyT = true; decide +kernel, by decide +kernel⟩
theorem words_ok : ∀ {fs : List Fm} {ps : List Pt}, PtsOk fs ps → (∀ p ∈ ps, TOk (wordP p) ∧ (wordP p).length ≤ 8) ∧ ps.length = fs.length
  | [], [], _ => ⟨fun p h => by simp at h, rfl⟩
  | f :: fs, p :: ps, ⟨h1, h2⟩ => by
    obtain ⟨h3, h4⟩ := words_ok h2
    refine ⟨fun q hq => ?_, by simp [h4]⟩
    rcases List.mem_cons.mp hq with rfl | hq
    · exact wordP_ok h1
    · exact h3 q hq
  | [], _ :: _, h => h.elim
  | _ :: _, [], h => h.elim
theorem form_word {w : Str} {fs : List Fm} (h : formOf w = some fs) : (TOk w ∧ w.length ≤ 5) ∧ w ≠ mendT := by
  unfold formOf at h
  cases e : formsT.find? fun p => decide (p.1 = w) with
  | none => rw [e] at h; cases h
  | some p =>
    have hall : ∀ p ∈ formsT, (PyData.strOk p.1 = true ∧ p.1.length ≤ 5) ∧ p.1 ≠ mendT := by decide +kernel
    have hm := hall p (List.mem_of_find?_eq_some e)
    have he : p.1 = w := by simpa using List.find?_some e
    rw [← he]; exact hm
theorem pieces_ok {L : Ln} (h : LnOk L) : (∀ p ∈ piecesL L, TOk p ∧ p.length ≤ 10) ∧ (piecesL L).length ≤ 9 := by
  cases L with
  | parts w ps =>
    obtain ⟨fs, hf, hp⟩ := h
    obtain ⟨h1, h2⟩ := words_ok hp
    have fw := form_word hf
    have fl := formOf_len hf
    refine ⟨fun p hq => ?_, by simp [piecesL]; omega⟩
    rcases List.mem_cons.mp hq with rfl | hq
    · exact ⟨fw.1.1, by have := fw.1.2; omega⟩
    · obtain ⟨q, hq', rfl⟩ := List.mem_map.mp hq
      exact ⟨(h1 q hq').1, by have := (h1 q hq').2; omega⟩
  | mend k o =>
    obtain ⟨⟨hk, lk⟩, ho, lo⟩ := h
    have gl : ∀ (s : Str) (z : Str), (s = Str.ofString "+ " ∨ s = Str.ofString "- ") → NameOk z → TOk (s ++ z) ∧ (s ++ z).length ≤ 10 := fun s z hs hz => by
      have sl : s.length = 2 ∧ TOk s := by rcases hs with rfl | rfl <;> exact ⟨by decide +kernel, by unfold TOk; decide +kernel⟩
      refine ⟨strOk_of fun c hc => ?_, by rw [str_len_append, sl.1]; have := hz.2.2; omega⟩
      rw [append_tl] at hc
      rcases List.mem_append.mp hc with hc | hc
      · exact strOk_mem sl.2 c hc
      · exact strOk_mem (nameT hz).1 c hc
    refine ⟨fun p hq => ?_, by simp [piecesL]; omega⟩
    rcases List.mem_cons.mp hq with rfl | hq
    · exact ⟨by show PyData.strOk mendT = true; decide +kernel, by decide +kernel⟩
    · rcases List.mem_append.mp hq with hq | hq
      · obtain ⟨z, hz, rfl⟩ := List.mem_map.mp hq
        exact gl _ _ (.inl rfl) (hk z hz)
      · obtain ⟨z, hz, rfl⟩ := List.mem_map.mp hq
        exact gl _ _ (.inr rfl) (ho z hz)
theorem tot_le84 {ps : List Str} {k : Nat} (h : ∀ p ∈ ps, p.length ≤ k) : tot ps ≤ ps.length * (k + 1) := by
  induction ps with
  | nil => simp [tot]
  | cons p ps ih =>
    have h1 := h p List.mem_cons_self
    have h2 := ih fun q hq => h q (List.mem_cons_of_mem _ hq)
    rw [tot_cons, List.length_cons, Nat.succ_mul]
    omega
theorem textL_ok {L : Ln} (h : LnOk L) : TOk (textL L) ∧ (textL L).length ≤ 99 ∧ tot (piecesL L) ≤ 99 := by
  obtain ⟨h1, h2⟩ := pieces_ok h
  have t := tot_le84 (ps := piecesL L) (k := 10) fun p hp => (h1 p hp).2
  have t2 : tot (piecesL L) ≤ 99 := Nat.le_trans t (by omega)
  exact ⟨join_TOk sp_TOk fun p hp => (h1 p hp).1, Nat.le_trans (join_tot sp_len _) t2, t2⟩
section
variable {S : Store}
theorem vAdd_ll {xs ys : List D} (h : xs.length + ys.length ≤ 100) : vAdd (.lst xs) (.lst ys) S = .ok (.lst (xs ++ ys)) S true := by
  unfold vAdd
  have e1 : lstOf S (.lst xs) = some xs := rfl
  have e2 : lstOf S (.lst ys) = some ys := rfl
  simp only [e1, e2]
  rw [if_pos (by omega)]
theorem vAdd_ss {x y : Str} (h : x.length + y.length ≤ 1000) : vAdd (.str x) (.str y) S = .ok (.str (x ++ y)) S false := by
  simp; omega
theorem strP {f : Fm} {p : Pt} (h : PtOk f p) : ∃ z, vStrC [valP p] S = .ok (.str z) S false ∧ vIdx (.lst [.str (Str.ofString "any"), .str z]) (.int (if (!decide (valP p = .non)) = true then 1 else 0)) S = .ok (.str (wordP p)) S false := by
  have i1 : ∀ z, vIdx (.lst [.str (Str.ofString "any"), .str z]) (.int 1) S = .ok (.str z) S false := fun z => vIdx_lst (i := 1) rfl
  have i0 : ∀ z, vIdx (.lst [.str (Str.ofString "any"), .str z]) (.int 0) S = .ok (.str (Str.ofString "any")) S false := fun z => vIdx_lst (i := 0) rfl
  have num : ∀ k : Nat, k < 1000000 → ∃ z, vStrC [valP (.n k)] S = .ok (.str z) S false ∧ vIdx (.lst [.str (Str.ofString "any"), .str z]) (.int (if (!decide (valP (.n k) = .non)) = true then 1 else 0)) S = .ok (.str (wordP (.n k))) S false := fun k hk => by
    refine ⟨numS k, ?_, ?_⟩
    · show (if 0 ≤ (k : Int) ∧ (k : Int) < 1000000000 then Res.ok (.str (numS k)) S false else .stuck) = _
      rw [if_pos (by omega)]
    · rw [if_pos (by simp [valP]), i1]; rfl
  cases f <;> cases p <;> first | exact h.elim | skip
  · rename_i z
    exact ⟨z, rfl, by rw [if_pos (by simp [valP]), i1]; rfl⟩
  · rename_i k
    exact num k h
  · exact ⟨Str.ofString "None", rfl, by rw [if_neg (by simp [valP]), i0]; rfl⟩
  · rename_i k
    exact num k h
  · rename_i z
    exact ⟨z, rfl, by rw [if_pos (by simp [valP]), i1]; rfl⟩
theorem PtsOk.mem : ∀ {fs : List Fm} {ps : List Pt}, PtsOk fs ps → ∀ p ∈ ps, ∃ f, PtOk f p
  | [], [], _, p, h => by simp at h
  | f :: fs, q :: ps, ⟨h1, h2⟩, p, h => by
    rcases List.mem_cons.mp h with rfl | h
    · exact ⟨f, h1⟩
    · exact h2.mem p h
  | [], _ :: _, h, _, _ => h.elim
  | _ :: _, [], h, _, _ => h.elim
theorem l_line_text_ok {L : Ln} (h : LnOk L) : m_l_line_text [valL L] S = .ok (.str (textL L)) S false := by
  refine ok_eq ?_
  have tk := (textL_ok h).2.2
  unfold m_l_line_text; rw [ok_def]
  simp -implicitDefEqProofs only [List.map_cons, List.map_nil, List.replicate, List.cons_append, List.nil_append]
  cases L with
  | parts w ps =>
    obtain ⟨fs, hf, hp⟩ := h
    have fw := form_word hf
    have fl := formOf_len hf
    obtain ⟨h1, h2⟩ := words_ok hp
    have i0 : ∀ S, vIdx (valL (.parts w ps)) (.int 0) S = .ok (.str w) S false := fun S => vIdx_t0
    have ve : ∀ S, vEq (.str w) (.str (Str.ofString "mend")) S = .ok (.bl false) S false := fun S => by rw [vEq_s]; congr 2; exact decide_eq_false fw.2
    have sl : ∀ S, vSlice (valL (.parts w ps)) (some 1) none S = .ok (.tup (ps.map valP)) S false := fun S => slice_tl (by rw [List.length_map]; omega)
    simp -implicitDefEqProofs only [oks_seq, oks_set, oks_item, oks_if, oks_ret, oks_expr, ok_or, ok_and, ok_not, ok_ebin, ok_eun, ok_bm, ok_callF, ok_meth, ok_lst, ok_tup, ok_slice, ok_part0, ok_part1, ok_thaw, ok_c, oka_cons, oka_nil, ok_var, List.set_cons_succ, List.set_cons_zero, List.getElem?_cons_succ, List.getElem?_cons_zero, Option.some.injEq, Sl.val.injEq, exists_eq_left', D.int.injEq, ok_ok, ok_onB, oks_onS, Bool.not_true, Bool.not_false, if_true, Bool.false_eq_true, if_false, oks_pass, i0, ve, ok_comp, oki_val, sl]
    refine ⟨ps.map valP, none, rfl, ?_⟩
    refine ok_compMM (f := valP) (l := ps) (fun p => .str (wordP p)) (gdOk_none.mpr trivial) (fun p hp' => ⟨_, rfl, ?_⟩) ?_
    · obtain ⟨f, hf'⟩ := hp.mem p hp'
      obtain ⟨z, e1, e2⟩ := strP (S := S) hf'
      have e3 : vInt [.bl (!decide (valP p = .non))] S = .ok (.int (if (!decide (valP p = .non)) = true then 1 else 0)) S false := rfl
      simp -implicitDefEqProofs only [oks_seq, oks_set, oks_item, oks_if, oks_ret, oks_expr, ok_or, ok_and, ok_not, ok_ebin, ok_eun, ok_bm, ok_callF, ok_meth, ok_lst, ok_tup, ok_slice, ok_part0, ok_part1, ok_thaw, ok_c, oka_cons, oka_nil, ok_var, List.set_cons_succ, List.set_cons_zero, List.getElem?_cons_succ, List.getElem?_cons_zero, Option.some.injEq, Sl.val.injEq, exists_eq_left', D.int.injEq, ok_ok, ok_onB, oks_onS, Bool.not_true, Bool.not_false, if_true, Bool.false_eq_true, if_false, oks_pass, e1, vIsNot_n, e3, e2, gN, wipeE, List.foldl_cons, List.foldl_nil]
      exact ⟨trivial, trivial⟩
    have e4 : (ps.map fun p => D.str (wordP p)) = (ps.map wordP).map D.str := by rw [List.map_map]; rfl
    have va := vAdd_ll (S := S) (xs := [.str w]) (ys := ps.map fun p => D.str (wordP p)) (by simp; omega)
    have vj := vjoin_ok (S := S) (y := spS) (ys := w :: ps.map wordP) sp_len (by have : tot (w :: ps.map wordP) ≤ 99 := tk; omega)
    have ev : (D.lst ([.str w] ++ ps.map fun p => D.str (wordP p))) = .lst ((w :: ps.map wordP).map D.str) := by rw [e4]; rfl
    simp -implicitDefEqProofs only [oks_seq, oks_set, oks_item, oks_if, oks_ret, oks_expr, ok_or, ok_and, ok_not, ok_ebin, ok_eun, ok_bm, ok_callF, ok_meth, ok_lst, ok_tup, ok_slice, ok_part0, ok_part1, ok_thaw, ok_c, oka_cons, oka_nil, ok_var, List.set_cons_succ, List.set_cons_zero, List.getElem?_cons_succ, List.getElem?_cons_zero, Option.some.injEq, Sl.val.injEq, exists_eq_left', D.int.injEq, ok_ok, ok_onB, oks_onS, Bool.not_true, Bool.not_false, if_true, Bool.false_eq_true, if_false, oks_pass, va, ev]
    refine ⟨rfl, ?_⟩
    show Ok _ (vJoin (.str spS) [.lst ((w :: ps.map wordP).map D.str)] S) _
    rw [vj, ok_ok]
    show Ok NoE (finR false S _ S false) _
    rw [finR_same rfl]
    exact ⟨rfl, rfl, rfl⟩
  | mend k o =>
    obtain ⟨⟨hk, lk⟩, ho, lo⟩ := h
    have i0 : ∀ S, vIdx (valL (.mend k o)) (.int 0) S = .ok (.str mendT) S false := fun S => vIdx_t0
    have i1 : ∀ S, vIdx (valL (.mend k o)) (.int 1) S = .ok (.lst (k.map .str)) S false := fun S => vIdx_t1
    have i2 : ∀ S, vIdx (valL (.mend k o)) (.int 2) S = .ok (.lst (o.map .str)) S false := fun S => vIdx_t2
    have ve : ∀ S, vEq (.str mendT) (.str (Str.ofString "mend")) S = .ok (.bl true) S false := fun S => by rw [vEq_s]; congr 2
    simp -implicitDefEqProofs only [oks_seq, oks_set, oks_item, oks_if, oks_ret, oks_expr, ok_or, ok_and, ok_not, ok_ebin, ok_eun, ok_bm, ok_callF, ok_meth, ok_lst, ok_tup, ok_slice, ok_part0, ok_part1, ok_thaw, ok_c, oka_cons, oka_nil, ok_var, List.set_cons_succ, List.set_cons_zero, List.getElem?_cons_succ, List.getElem?_cons_zero, Option.some.injEq, Sl.val.injEq, exists_eq_left', D.int.injEq, ok_ok, ok_onB, oks_onS, Bool.not_true, Bool.not_false, if_true, Bool.false_eq_true, if_false, oks_pass, i0, ve, ok_comp, oki_val, i1]
    refine ⟨k.map D.str, none, rfl, ?_⟩
    refine ok_compMM (f := D.str) (l := k) (fun z => .str (Str.ofString "+ " ++ z)) (gdOk_none.mpr trivial) (fun z hz => ⟨_, rfl, ?_⟩) ?_
    · have := vAdd_ss (S := S) (x := Str.ofString "+ ") (y := z) (by rw [show (Str.ofString "+ ").length = 2 by decide +kernel]; have := (hk z hz).2.2; omega)
      simp -implicitDefEqProofs only [oks_seq, oks_set, oks_item, oks_if, oks_ret, oks_expr, ok_or, ok_and, ok_not, ok_ebin, ok_eun, ok_bm, ok_callF, ok_meth, ok_lst, ok_tup, ok_slice, ok_part0, ok_part1, ok_thaw, ok_c, oka_cons, oka_nil, ok_var, List.set_cons_succ, List.set_cons_zero, List.getElem?_cons_succ, List.getElem?_cons_zero, Option.some.injEq, Sl.val.injEq, exists_eq_left', D.int.injEq, ok_ok, ok_onB, oks_onS, Bool.not_true, Bool.not_false, if_true, Bool.false_eq_true, if_false, oks_pass, gN, wipeE, List.foldl_cons, List.foldl_nil, this]
      exact ⟨trivial, trivial⟩
    have va := vAdd_ll (S := S) (xs := [.str mendT]) (ys := k.map fun z => D.str (Str.ofString "+ " ++ z)) (by simp; omega)
    simp -implicitDefEqProofs only [oks_seq, oks_set, oks_item, oks_if, oks_ret, oks_expr, ok_or, ok_and, ok_not, ok_ebin, ok_eun, ok_bm, ok_callF, ok_meth, ok_lst, ok_tup, ok_slice, ok_part0, ok_part1, ok_thaw, ok_c, oka_cons, oka_nil, ok_var, List.set_cons_succ, List.set_cons_zero, List.getElem?_cons_succ, List.getElem?_cons_zero, Option.some.injEq, Sl.val.injEq, exists_eq_left', D.int.injEq, ok_ok, ok_onB, oks_onS, Bool.not_true, Bool.not_false, if_true, Bool.false_eq_true, if_false, oks_pass, va, i2, ok_comp, oki_val]
    refine ⟨o.map D.str, none, rfl, ?_⟩
    refine ok_compMM (f := D.str) (l := o) (fun z => .str (Str.ofString "- " ++ z)) (gdOk_none.mpr trivial) (fun z hz => ⟨_, rfl, ?_⟩) ?_
    · have := vAdd_ss (S := S) (x := Str.ofString "- ") (y := z) (by rw [show (Str.ofString "- ").length = 2 by decide +kernel]; have := (ho z hz).2.2; omega)
      simp -implicitDefEqProofs only [oks_seq, oks_set, oks_item, oks_if, oks_ret, oks_expr, ok_or, ok_and, ok_not, ok_ebin, ok_eun, ok_bm, ok_callF, ok_meth, ok_lst, ok_tup, ok_slice, ok_part0, ok_part1, ok_thaw, ok_c, oka_cons, oka_nil, ok_var, List.set_cons_succ, List.set_cons_zero, List.getElem?_cons_succ, List.getElem?_cons_zero, Option.some.injEq, Sl.val.injEq, exists_eq_left', D.int.injEq, ok_ok, ok_onB, oks_onS, Bool.not_true, Bool.not_false, if_true, Bool.false_eq_true, if_false, oks_pass, gN, wipeE, List.foldl_cons, List.foldl_nil, this]
      exact ⟨trivial, trivial⟩
    have va2 := vAdd_ll (S := S) (xs := [.str mendT] ++ k.map fun z => D.str (Str.ofString "+ " ++ z)) (ys := o.map fun z => D.str (Str.ofString "- " ++ z)) (by simp; omega)
    have vj := vjoin_ok (S := S) (y := spS) (ys := piecesL (.mend k o)) sp_len (by omega)
    have ev : (D.lst ([.str mendT] ++ (k.map fun z => D.str (Str.ofString "+ " ++ z)) ++ o.map fun z => D.str (Str.ofString "- " ++ z))) = .lst ((piecesL (.mend k o)).map D.str) := by
      simp [piecesL, List.map_map, Function.comp_def]
    simp -implicitDefEqProofs only [oks_seq, oks_set, oks_item, oks_if, oks_ret, oks_expr, ok_or, ok_and, ok_not, ok_ebin, ok_eun, ok_bm, ok_callF, ok_meth, ok_lst, ok_tup, ok_slice, ok_part0, ok_part1, ok_thaw, ok_c, oka_cons, oka_nil, ok_var, List.set_cons_succ, List.set_cons_zero, List.getElem?_cons_succ, List.getElem?_cons_zero, Option.some.injEq, Sl.val.injEq, exists_eq_left', D.int.injEq, ok_ok, ok_onB, oks_onS, Bool.not_true, Bool.not_false, if_true, Bool.false_eq_true, if_false, oks_pass, va2, ev]
    refine ⟨rfl, ?_⟩
    show Ok _ (vJoin (.str spS) [.lst ((piecesL (.mend k o)).map D.str)] S) _
    rw [vj, ok_ok]
    show Ok NoE (finR false S _ S false) _
    rw [finR_same rfl]
    exact ⟨rfl, rfl, rfl⟩
end
end G
namespace G
open PySem L2 DL
set_option maxHeartbeats 4000000
/-! ### a line's text is read back as that line -/
open NumText in
theorem digits_low : ∀ (l : List Nat) (a : Nat), (∀ c ∈ l, 48 ≤ c ∧ c ≤ 57) → l.foldl (fun acc c => acc * 10 + (c - 48)) a < (a + 1) * 10 ^ l.length
  | [], a, _ => by simp
  | c :: r, a, h => by
    have h1 := h c List.mem_cons_self
    have h2 := digits_low r (a * 10 + (c - 48)) fun d hd => h d (List.mem_cons_of_mem _ hd)
    rw [List.foldl_cons, List.length_cons, Nat.pow_succ]
    refine Nat.lt_of_lt_of_le h2 ?_
    have : a * 10 + (c - 48) + 1 ≤ (a + 1) * 10 := by omega
    calc (a * 10 + (c - 48) + 1) * 10 ^ r.length ≤ ((a + 1) * 10) * 10 ^ r.length := Nat.mul_le_mul_right _ this
      _ = (a + 1) * (10 ^ r.length * 10) := by rw [Nat.mul_assoc, Nat.mul_comm 10]
open NumText in
theorem numOf_numS {k : Nat} (h : k < 1000000) : numOf (numS (k : Nat)) = some k := by
  have hl := numS_len h
  have hd := numS_dig k
  have hv : digitsVal (numS (k : Nat)).cps.toList = k := by rw [numS_cps]; exact PySem.W.KIN.val_back k
  unfold numOf
  rw [if_pos, hv]
  refine ⟨hl, hd, fun ⟨h1, h2⟩ => ?_⟩
  cases e : (numS (k : Nat)).cps.toList with
  | nil => rw [e] at h2; cases h2
  | cons c r =>
    rw [e] at h2 hv hd
    have hc : c = 48 := by simpa using h2
    subst hc
    have lr : r.length + 1 = (numS (k : Nat)).length := by rw [str_len, e]; rfl
    have hv2 : r.foldl (fun acc c => acc * 10 + (c - 48)) 0 = k := hv
    have low := digits_low r 0 fun d hd' => hd d (List.mem_cons_of_mem _ hd')
    rw [hv2, Nat.zero_add, Nat.one_mul] at low
    have up : (numS (k : Nat)).length ≤ r.length := by
      rw [str_len, numS_cps, List.length_map]
      exact toDigits_len_pow (by decide) (by omega) low
    omega
theorem numOf_any : numOf anyT = none := by decide +kernel
theorem ptOf_word : ∀ {f : Fm} {p : Pt}, PtOk f p → ptOf f (wordP p) = some p
  | .name, .s z, h => by
    have h : NameOk z := h
    show (if isName z = true then some (Pt.s z) else none) = _
    rw [if_pos h.isName]
  | .letter, .s z, h => by
    have h : z ∈ letT := h
    show (if z ∈ letT then some (Pt.s z) else none) = _
    rw [if_pos h]
  | .number, .n k, h => by
    show (numOf (numS (k : Nat))).map Pt.n = _
    rw [numOf_numS h]; rfl
  | .wish, .n k, h => by
    show (if numS (k : Nat) = anyT then some .any else (numOf (numS (k : Nat))).map Pt.n) = _
    rw [if_neg, numOf_numS h]
    · rfl
    · intro e
      have := numOf_numS h
      rw [e, numOf_any] at this
      cases this
  | .wish, .any, _ => rfl
theorem ptsOf_words : ∀ {fs : List Fm} {ps : List Pt}, PtsOk fs ps → ptsOf fs (ps.map wordP) = some ps
  | [], [], _ => rfl
  | f :: fs, p :: ps, ⟨h1, h2⟩ => by
    rw [List.map_cons]
    unfold ptsOf
    rw [ptOf_word h1, ptsOf_words h2]
  | [], _ :: _, h => h.elim
  | _ :: _, [], h => h.elim
/-- signs and names, by turns -/
def twoW (s : Str) (k : List Str) : List Str := k.flatMap fun z => [s, z]
theorem pm_ne2 : ¬ minusT = plusT := by decide +kernel
theorem mendOf_plus : ∀ (k a r : List Str), (∀ z ∈ k, NameOk z) → mendOf (twoW plusT k ++ r) a [] = mendOf r (a ++ k) []
  | [], a, r, _ => by simp [twoW]
  | z :: k, a, r, h => by
    show mendOf (plusT :: z :: (twoW plusT k ++ r)) a [] = _
    rw [mendOf_two, if_pos (h z List.mem_cons_self).isName, if_pos rfl, if_pos rfl, mendOf_plus k _ r fun y hy => h y (List.mem_cons_of_mem _ hy)]
    simp
theorem mendOf_minus : ∀ (o a b : List Str), (∀ z ∈ o, NameOk z) → mendOf (twoW minusT o) a b = some (.mend a (b ++ o))
  | [], a, b, _ => by simp [twoW, mendOf]
  | z :: o, a, b, h => by
    show mendOf (minusT :: z :: twoW minusT o) a b = _
    rw [mendOf_two, if_pos (h z List.mem_cons_self).isName, if_neg pm_ne2, if_pos rfl, mendOf_minus o _ _ fun y hy => h y (List.mem_cons_of_mem _ hy)]
    simp
/-- a line's words -/
def wordsL : Ln → List Str
  | .parts w ps => w :: ps.map wordP
  | .mend k o => mendT :: (twoW plusT k ++ twoW minusT o)
theorem lineOfW_words {L : Ln} (h : LnOk L) : lineOfW (wordsL L) = some L := by
  cases L with
  | parts w ps =>
    obtain ⟨fs, hf, hp⟩ := h
    show lineOfW (w :: ps.map wordP) = _
    rw [lineOfW_some (form_word hf).2 hf, ptsOf_words hp]; rfl
  | mend k o =>
    obtain ⟨⟨hk, _⟩, ho, _⟩ := h
    show lineOfW (mendT :: (twoW plusT k ++ twoW minusT o)) = _
    rw [lineOfW_mend, mendOf_plus k [] _ hk, mendOf_minus o _ _ ho]
    simp
/-! ### the words joined -/
/-- a text without blanks and line feeds -/
def Free (z : Str) : Prop := 32 ∉ TL.tl z ∧ 10 ∉ TL.tl z
theorem free_name {z : Str} (h : NameOk z) : Free z := ⟨fun q => by have := h.1 _ q; omega, fun q => by have := h.1 _ q; omega⟩
theorem free_num (k : Nat) : Free (numS (k : Nat)) := ⟨fun q => by have := numS_dig k _ q; omega, fun q => by have := numS_dig k _ q; omega⟩
theorem free_let : ∀ z ∈ letT, Free z := by unfold Free; decide +kernel
theorem free_form {w : Str} {fs : List Fm} (h : formOf w = some fs) : Free w := by
  unfold formOf at h
  cases e : formsT.find? fun p => decide (p.1 = w) with
  | none => rw [e] at h; cases h
  | some p =>
    have hall : ∀ p ∈ formsT, Free p.1 := by unfold Free; decide +kernel
    have hm := hall p (List.mem_of_find?_eq_some e)
    have he : p.1 = w := by simpa using List.find?_some e
    rw [← he]; exact hm
theorem free_pt : ∀ {f : Fm} {p : Pt}, PtOk f p → Free (wordP p)
  | .name, .s z, h => free_name h
  | .letter, .s z, h => free_let z h
  | .number, .n k, _ => free_num k
  | .wish, .n k, _ => free_num k
  | .wish, .any, _ => by show Free anyT; unfold Free; decide +kernel
theorem free_two {s : Str} (hs : Free s) : ∀ {k : List Str}, (∀ z ∈ k, NameOk z) → ∀ p ∈ twoW s k, Free p := fun {k} h p hp => by
  obtain ⟨z, hz, hp⟩ := List.mem_flatMap.mp hp
  simp only [List.mem_cons, List.not_mem_nil, or_false] at hp
  rcases hp with rfl | rfl
  · exact hs
  · exact free_name (h _ hz)
theorem words_free {L : Ln} (h : LnOk L) : ∀ p ∈ wordsL L, Free p := by
  cases L with
  | parts w ps =>
    obtain ⟨fs, hf, hp⟩ := h
    intro p hq
    rcases List.mem_cons.mp hq with rfl | hq
    · exact free_form hf
    · obtain ⟨q, hq', rfl⟩ := List.mem_map.mp hq
      obtain ⟨f, hf'⟩ := hp.mem q hq'
      exact free_pt hf'
  | mend k o =>
    obtain ⟨⟨hk, _⟩, ho, _⟩ := h
    intro p hq
    rcases List.mem_cons.mp hq with rfl | hq
    · show Free mendT; unfold Free; decide +kernel
    · rcases List.mem_append.mp hq with hq | hq
      · exact free_two (by unfold Free; decide +kernel) hk p hq
      · exact free_two (by unfold Free; decide +kernel) ho p hq
theorem glue_two {S p q : List Nat} {r : List (List Nat)} : TL.joinL S ((p ++ (S ++ q)) :: r) = TL.joinL S (p :: q :: r) := by
  cases r with
  | nil => rfl
  | cons x r =>
    show (p ++ (S ++ q)) ++ (S ++ TL.joinL S (x :: r)) = p ++ (S ++ (q ++ (S ++ TL.joinL S (x :: r))))
    simp
theorem glue_all {S : List Nat} : ∀ (ps : List (List Nat × List Nat)) (a : List Nat), TL.joinL S (a :: ps.map fun p => p.1 ++ (S ++ p.2)) = TL.joinL S (a :: ps.flatMap fun p => [p.1, p.2])
  | [], _ => rfl
  | p :: r, a => by
    have ih := glue_all (S := S) r (p.1 ++ (S ++ p.2))
    show a ++ (S ++ TL.joinL S ((p.1 ++ (S ++ p.2)) :: r.map fun p => p.1 ++ (S ++ p.2))) = a ++ (S ++ TL.joinL S (p.1 :: p.2 :: r.flatMap fun p => [p.1, p.2]))
    rw [ih, glue_two]
theorem text_words (L : Ln) : textL L = Txt.join spS (wordsL L) := by
  cases L with
  | parts w ps => rfl
  | mend k o =>
    refine TL.ext_tl ?_
    show TL.tl (Txt.join spS (mendT :: ((k.map fun z => Str.ofString "+ " ++ z) ++ o.map fun z => Str.ofString "- " ++ z))) = TL.tl (Txt.join spS (mendT :: (twoW plusT k ++ twoW minusT o)))
    rw [TL.join_eq, TL.tl_join, TL.join_eq, TL.tl_join, List.map_cons, List.map_cons]
    have h := glue_all (S := TL.tl spS) ((k.map fun z => (TL.tl plusT, TL.tl z)) ++ o.map fun z => (TL.tl minusT, TL.tl z)) (TL.tl mendT)
    have e1 : ((k.map fun z => Str.ofString "+ " ++ z) ++ o.map fun z => Str.ofString "- " ++ z).map TL.tl = ((k.map fun z => (TL.tl plusT, TL.tl z)) ++ o.map fun z => (TL.tl minusT, TL.tl z)).map fun p => p.1 ++ (TL.tl spS ++ p.2) := by
      have g1 : TL.tl (Str.ofString "+ ") = TL.tl plusT ++ TL.tl spS := by decide +kernel
      have g2 : TL.tl (Str.ofString "- ") = TL.tl minusT ++ TL.tl spS := by decide +kernel
      rw [List.map_append, List.map_append, List.map_map, List.map_map, List.map_map, List.map_map]
      congr 1
      · refine List.map_congr_left fun z _ => ?_
        show TL.tl (Str.ofString "+ " ++ z) = _
        rw [TL.tl_append, g1]; simp
      · refine List.map_congr_left fun z _ => ?_
        show TL.tl (Str.ofString "- " ++ z) = _
        rw [TL.tl_append, g2]; simp
    have e2 : (twoW plusT k ++ twoW minusT o).map TL.tl = ((k.map fun z => (TL.tl plusT, TL.tl z)) ++ o.map fun z => (TL.tl minusT, TL.tl z)).flatMap fun p => [p.1, p.2] := by
      unfold twoW
      rw [List.map_append, List.flatMap_append, List.map_flatMap, List.map_flatMap, List.flatMap_map, List.flatMap_map]
      rfl
    rw [e1, e2]; exact h
theorem words_ne (L : Ln) : wordsL L ≠ [] := by cases L <;> exact fun e => by cases e
theorem sp_low : spS.cps.all (· < 256) = true := by decide +kernel
theorem nl_low : nlS.cps.all (· < 256) = true := by decide +kernel
theorem lineOf_text {L : Ln} (h : LnOk L) : lineOf (textL L) = some L := by
  unfold lineOf
  rw [text_words, TL.split_join tl_sp sp_low (words_ne L) fun p hp => (words_free h p hp).1, lineOfW_words h]
theorem joinL_free {S : List Nat} {c : Nat} (hc : c ∉ S) {ps : List (List Nat)} (h : ∀ p ∈ ps, c ∉ p) : c ∉ TL.joinL S ps := fun q => (joinL_mem' q).elim hc fun ⟨p, hp, hq⟩ => h p hp hq
theorem text_nl {L : Ln} (h : LnOk L) : 10 ∉ TL.tl (textL L) := by
  rw [text_words, TL.join_eq, TL.tl_join]
  refine joinL_free (by rw [tl_sp]; decide) fun p hp => ?_
  obtain ⟨z, hz, rfl⟩ := List.mem_map.mp hp
  exact (words_free h z hz).2
theorem bookOf_texts : ∀ {Ls : List Ln}, (∀ L ∈ Ls, LnOk L) → bookOf (Ls.map textL) = .inr Ls
  | [], _ => rfl
  | L :: Ls, h => by
    rw [List.map_cons, bookOf_cons, lineOf_text (h L List.mem_cons_self), bookOf_texts fun M hM => h M (List.mem_cons_of_mem _ hM)]
def bookT (Ls : List Ln) : Str := Txt.join nlS (Ls.map textL)
theorem bookL_text {Ls : List Ln} (h : ∀ L ∈ Ls, LnOk L) : bookL (bookT Ls) = .inr Ls := by
  cases Ls with
  | nil => decide +kernel
  | cons L Ls =>
    have sp : Txt.split (bookT (L :: Ls)) nlS = (L :: Ls).map textL := TL.split_join tl_nl nl_low (by simp) fun p hp => by
      obtain ⟨M, hM, rfl⟩ := List.mem_map.mp hp
      exact text_nl (h M hM)
    unfold bookL
    rw [if_neg, sp, bookOf_texts h]
    intro e
    rw [e] at sp
    have s0 : Txt.split (Str.ofString "") nlS = [Str.ofString ""] := by decide +kernel
    rw [s0, List.map_cons] at sp
    injection sp with s1 _
    have := lineOf_text (h L List.mem_cons_self)
    rw [← s1] at this
    have n : lineOf (Str.ofString "") = none := by decide +kernel
    rw [n] at this
    cases this
end G
namespace G
open PySem L2 DL
set_option maxHeartbeats 4000000
/-! ### the mirrors -/
def m_l_spoil_b1 : MS :=
  (sIf (eUn (vIsi .lst) (eVar 2)) (sExpr (eBM isLstD vAppend (eVar 2) [(eC (.str "zz"))])) sPass)
def m_l_spoil_b2 : MS :=
  (sFor (iVal (eVar 1)) (gN 2) m_l_spoil_b1)
def m_l_spoil : MF := dDef 2
  (sSeq (sFor (iVal (eVar 0)) (gN 1) m_l_spoil_b2)
  (sExpr (eBM isLstD vAppend (eVar 0) [(eC (.str "more"))])))
def m_word_of : MF := dDef 0
  (sSeq (sIf (eBin vIs (eVar 0) (eC .non)) (sRet (eC (.str "any"))) sPass)
  (sRet (eCallF vStrC [(eVar 0)])))
def m_show_line_b1 : MS :=
  (sExpr (eBM isLstD vExtend (eVar 1) [(eLst [(eVar 2), (eVar 4)])]))
def m_show_line_b2 : MS :=
  (sFor (iVal (eVar 3)) (gN 4) m_show_line_b1)
def m_show_line : MF := dDef 5
  (sSeq (sIf (eBin vEq (eBin vIdx (eVar 0) (eC (.int 0))) (eC (.str "mend"))) (sSeq (sSet 1 (eThaw (eLst [(eC (.str "mend"))])))
  (sSeq (sFor (iVal (eLst [(eTup [(eC (.str "+")), (eBin vIdx (eVar 0) (eC (.int 1)))]), (eTup [(eC (.str "-")), (eBin vIdx (eVar 0) (eC (.int 2)))])])) (gT [(gN 2), (gN 3)]) m_show_line_b2)
  (sRet (eBM isStrD vJoin (eC (.str " ")) [(eVar 1)])))) sPass)
  (sRet (eBM isStrD vJoin (eC (.str " ")) [(eComp [5] (iVal (eVar 0)) (gN 5) none (eCallF m_word_of [(eVar 5)]))])))
def m_show_book : MF := dDef 1
  (sRet (eBM isStrD vJoin (eC (.str "\n")) [(eComp [1] (iVal (eVar 0)) (gN 1) none (eCallF m_show_line [(eVar 1)]))]))
def m_law_b1 : MS :=
  (sSeq (sSet 6 (eThaw (eCallF m_l_digits [(eVar 2)])))
  (sSeq (sSet 7 (eCallF m_l_namesx [(eVar 6), (eC (.int 6))]))
  (sSeq (sSet 8 (eCallF m_l_line [(eVar 6), (eVar 7)]))
  (sSeq (sSet 3 (eCallF m_l_line_text [(eVar 8)]))
  (sSeq (sSet 9 (eCallF m_show_line [(eVar 8)]))
  (sSeq (sIf (eOr (eNot (eUn (vIsi .str) (eVar 9))) (eOr (eBin vNe (eVar 9) (eVar 3)) (eNot (eCallF (m_l_same 8) [(eCallF m_read_line [(eVar 3)]), (eVar 8)])))) (sRet (eC (.bl false))) sPass)
  (sSeq (sSet 10 (eThaw (eLst [(eCallF m_read_line [(eVar 3)])])))
  (sSeq (sExpr (eCallF m_l_spoil [(eVar 10)]))
  (sSeq (sIf (eOr (eBin vNe (eCallF m_show_line [(eCallF m_read_line [(eVar 3)])]) (eVar 3)) (eNot (eCallF (m_l_same 8) [(eCallF m_read_line [(eVar 3)]), (eVar 8)]))) (sRet (eC (.bl false))) sPass)
  (sExpr (eBM isLstD vAppend (eVar 1) [(eVar 8)])))))))))))
def m_law_b2 : MS :=
  (sSeq (sSet 10 (eThaw (eCallF m_read_book [(eVar 3)])))
  (sSeq (sIf (eOr (eBin vNe (eCallF m_show_book [(eVar 1)]) (eVar 3)) (eOr (eBin vNe (eCallF vStrG [(eVar 1)]) (eVar 4)) (eOr (eNot (eUn (vIsi .lst) (eVar 10))) (eNot (eCallF (m_l_same 8) [(eVar 10), (eVar 1)]))))) (sRet (eC (.bl false))) sPass)
  (sExpr (eCallF m_l_spoil [(eVar 10)]))))
def m_law : MF := dDef 10
  (sSeq (sSet 1 (eThaw (eLst [])))
  (sSeq (sFor (iVal (eSlice (eVar 0) none (some (eC (.int 30))))) (gN 2) m_law_b1)
  (sSeq (sSet 3 (eBM isStrD vJoin (eC (.str "\n")) [(eComp [8] (iVal (eVar 1)) (gN 8) none (eCallF m_l_line_text [(eVar 8)]))]))
  (sSeq (sSet 4 (eCallF vStrG [(eVar 1)]))
  (sSeq (sFor (iArg fRng1 [(eC (.int 2))]) (gN 5) m_law_b2)
  (sRet (eAnd (eBin vEq (eCallF m_read_book [(eC (.str ""))]) (eLst [])) (eAnd (eBin vEq (eCallF m_show_book [(eLst [])]) (eC (.str ""))) (eBin vEq (eCallF m_read_line [(eC (.str "mend"))]) (eTup [(eC (.str "mend")), (eLst []), (eLst [])]))))))))))
end G
namespace G
open PySem L2 DL
set_option maxHeartbeats 4000000
/-! ### a line is shown -/
section
variable {S : Store}
theorem word_of_ok {p : Pt} (h : ∀ k, p = .n k → k < 1000000) : m_word_of [valP p] S = .ok (.str (wordP p)) S false := by
  refine ok_eq ?_
  unfold m_word_of; rw [ok_def]
  simp -implicitDefEqProofs only [List.map_cons, List.map_nil, List.replicate, List.cons_append, List.nil_append]
  have vn : vIs (valP p) .non S = .ok (.bl (decide (valP p = .non))) S false := by cases p <;> rfl
  simp -implicitDefEqProofs only [oks_seq, oks_set, oks_item, oks_if, oks_ret, oks_expr, ok_or, ok_and, ok_not, ok_ebin, ok_eun, ok_bm, ok_callF, ok_meth, ok_lst, ok_tup, ok_slice, ok_part0, ok_part1, ok_thaw, ok_c, oka_cons, oka_nil, ok_var, List.set_cons_succ, List.set_cons_zero, List.getElem?_cons_succ, List.getElem?_cons_zero, Option.some.injEq, Sl.val.injEq, exists_eq_left', D.int.injEq, ok_ok, ok_onB, oks_onS, Bool.not_true, Bool.not_false, if_true, Bool.false_eq_true, if_false, oks_pass, vn]
  cases p with
  | any =>
    rw [if_pos (by simp [valP])]
    show Ok NoE (finR false S _ S false) _
    rw [finR_same rfl]
    exact ⟨rfl, rfl, rfl⟩
  | s z =>
    rw [if_neg (by simp [valP])]
    show Ok NoE (finR false S _ S false) _
    rw [finR_same rfl]
    exact ⟨rfl, rfl, rfl⟩
  | n k =>
    have hk := h k rfl
    have e : ∀ S, vStrC [valP (.n k)] S = .ok (.str (numS k)) S false := fun S => by
      show (if 0 ≤ (k : Int) ∧ (k : Int) < 1000000000 then Res.ok (.str (numS k)) S false else .stuck) = _
      rw [if_pos (by omega)]
    rw [if_neg (by simp [valP])]
    simp -implicitDefEqProofs only [oks_seq, oks_set, oks_item, oks_if, oks_ret, oks_expr, ok_or, ok_and, ok_not, ok_ebin, ok_eun, ok_bm, ok_callF, ok_meth, ok_lst, ok_tup, ok_slice, ok_part0, ok_part1, ok_thaw, ok_c, oka_cons, oka_nil, ok_var, List.set_cons_succ, List.set_cons_zero, List.getElem?_cons_succ, List.getElem?_cons_zero, Option.some.injEq, Sl.val.injEq, exists_eq_left', D.int.injEq, ok_ok, ok_onB, oks_onS, Bool.not_true, Bool.not_false, if_true, Bool.false_eq_true, if_false, oks_pass, e]
    show Ok NoE (finR false S _ S false) _
    rw [finR_same rfl]
    exact ⟨rfl, rfl, rfl⟩
/-- a list of texts, as a value or in the store -/
def LsD (z : List Str) (x : D) (S : Store) : Prop := x = .lst (z.map .str) ∨ ∃ a, x = .ref a ∧ S[a]? = some (.lst (z.map .str))
/-- a line, as a value or with lists in the store -/
def ShD (L : Ln) (d : D) (S : Store) : Prop := FlD L d ∨ ∃ k o x y, L = .mend k o ∧ d = .tup [.str mendT, x, y] ∧ LsD k x S ∧ LsD o y S
theorem LsD.grow {z : List Str} {x : D} {S' : Store} (h : LsD z x S) (g : Grw S S') : LsD z x S' := h.imp id fun ⟨a, e, h⟩ => ⟨a, e, (g.low _ (List.getElem?_eq_some_iff.mp h).1).trans h⟩
theorem LsD.items {z : List Str} {x : D} (h : LsD z x S) : ∃ g, itemsOf S x = some (z.map .str, g) ∧ ∀ S', Grw S S' → gdOk g S' := by
  rcases h with rfl | ⟨a, rfl, h⟩
  · exact ⟨none, rfl, fun _ _ => trivial⟩
  · exact ⟨_, items_ref h, fun S' g => (g.low _ (List.getElem?_eq_some_iff.mp h).1).trans h⟩
theorem ElD.sh {k : Nat} {L : Ln} {d : D} (h : ElD k L d S) : ShD L d S := by
  rcases h with ⟨a, b, ks, os, rfl, rfl, _, h3, h4⟩ | h
  · exact .inr ⟨ks, os, _, _, rfl, rfl, .inr ⟨a, rfl, h3⟩, .inr ⟨b, rfl, h4⟩⟩
  · exact .inl h
theorem valL_sh (L : Ln) (S : Store) : ShD L (valL L) S := by
  cases L with
  | parts w ps => exact .inl ⟨w, ps, rfl, rfl⟩
  | mend k o => exact .inr ⟨k, o, _, _, rfl, rfl, .inl rfl, .inl rfl⟩
theorem twoW_len (s : Str) : ∀ k : List Str, (twoW s k).length = 2 * k.length
  | [] => rfl
  | z :: k => by
    show (twoW s k).length + 1 + 1 = _
    rw [twoW_len s k, List.length_cons]; omega
/-- the words of the lists are put behind those that are there -/
theorem show_names {K : KB} {S1 : Store} {env : Env'} {n : Nat} {s : Str} {z ws : List Str} {x : D} (hx : LsD z x S) (hn : S.length ≤ n) (g0 : Grw S S1) (h0 : S1[n]? = some (.lst (ws.map D.str))) (hw : ws.length + 2 * z.length ≤ 1000)
    (e1 : env[1]? = some (.val (.ref n))) (e2 : env[2]? = some (.val (.str s))) (e3 : env[3]? = some (.val x)) (len : env.length = 6)
    (k : ∀ e S', S'[n]? = some (.lst ((ws ++ twoW s z).map D.str)) → Grw S S' → K.nx (env.set 4 e) S') : OkS K (m_show_line_b2 env S1) := by
  obtain ⟨a0, a1, a2, a3, a4, a5, rfl⟩ : ∃ a0 a1 a2 a3 a4 a5, env = [a0, a1, a2, a3, a4, a5] := by
    match env, len with
    | [a0, a1, a2, a3, a4, a5], _ => exact ⟨_, _, _, _, _, _, rfl⟩
  simp only [List.getElem?_cons_succ, List.getElem?_cons_zero, Option.some.injEq] at e1 e2 e3
  subst e1 e2 e3
  obtain ⟨g, hi, hg⟩ := (hx.grow g0).items
  unfold m_show_line_b2
  simp -implicitDefEqProofs only [oks_seq, oks_set, oks_item, oks_if, oks_ret, oks_expr, ok_or, ok_and, ok_not, ok_ebin, ok_eun, ok_bm, ok_callF, ok_meth, ok_lst, ok_tup, ok_slice, ok_part0, ok_part1, ok_thaw, ok_c, oka_cons, oka_nil, ok_var, List.set_cons_succ, List.set_cons_zero, List.getElem?_cons_succ, List.getElem?_cons_zero, Option.some.injEq, Sl.val.injEq, exists_eq_left', D.int.injEq, ok_ok, ok_onB, oks_onS, Bool.not_true, Bool.not_false, if_true, Bool.false_eq_true, if_false, oks_pass, oks_sfor, oki_val]
  refine ⟨_, _, hi, ?_⟩
  have gk : ∀ S', Grw S1 S' ∨ Grw S S' → True := fun _ _ => trivial
  have hg2 : ∀ S', Grw S S' → gdOk g S' := by
    obtain ⟨g2, hi2, hg2⟩ := hx.items
    have : g2 = g := by
      rcases hx with rfl | ⟨a, rfl, h⟩
      · cases hi; cases hi2; rfl
      · rw [items_ref h] at hi2
        rw [items_ref ((g0.low _ (List.getElem?_eq_some_iff.mp h).1).trans h)] at hi
        cases hi; cases hi2; rfl
    rw [← this]; exact hg2
  refine oks_for (fun rr env S' => ∃ done rest e, z = done ++ rest ∧ rr = rest.map D.str ∧ env = [a0, .val (.ref n), .val (.str s), .val x, e, a5] ∧ S'[n]? = some (.lst ((ws ++ twoW s done).map D.str)) ∧ Grw S S') ⟨[], z, _, rfl, rfl, rfl, by simpa [twoW] using h0, g0⟩ ?_ ?_
  · rintro y rr env S2 ⟨done, rest, e, rfl, er, rfl, h2, g2⟩
    cases rest with
    | nil => cases er
    | cons w rest =>
      injection er with er1 er2
      subst er1 er2
      refine ⟨hg2 _ g2, _, rfl, ?_⟩
      have ext : vExtend (.ref n) [.lst [.str s, .str w]] S2 = .ok .non (S2.set n (.lst ((ws ++ twoW s done).map D.str ++ [.str s, .str w]))) false := by
        unfold vExtend
        have e2 : lstOf S2 (.lst [.str s, .str w]) = some [.str s, .str w] := rfl
        simp only [h2, e2]
        rw [if_pos]
        have := twoW_len s done
        rw [List.length_append, List.length_cons] at hw
        rw [List.length_map, List.length_append, this]
        show ws.length + 2 * done.length + 2 ≤ _
        omega
      unfold m_show_line_b1
      simp -implicitDefEqProofs only [oks_seq, oks_set, oks_item, oks_if, oks_ret, oks_expr, ok_or, ok_and, ok_not, ok_ebin, ok_eun, ok_bm, ok_callF, ok_meth, ok_lst, ok_tup, ok_slice, ok_part0, ok_part1, ok_thaw, ok_c, oka_cons, oka_nil, ok_var, List.set_cons_succ, List.set_cons_zero, List.getElem?_cons_succ, List.getElem?_cons_zero, Option.some.injEq, Sl.val.injEq, exists_eq_left', D.int.injEq, ok_ok, ok_onB, oks_onS, Bool.not_true, Bool.not_false, if_true, Bool.false_eq_true, if_false, oks_pass, gN, ext]
      refine ⟨isLst_ref h2, done ++ [w], rest, _, by simp, rfl, rfl, ?_, g2.set hn⟩
      rw [List.getElem?_set_self (List.getElem?_eq_some_iff.mp h2).1]
      simp [twoW]
  · rintro env S2 ⟨done, rest, e, rfl, er, rfl, h2, g2⟩
    cases rest with
    | cons w rest => cases er
    | nil =>
      refine ⟨hg2 _ g2, ?_⟩
      rw [List.append_nil] at k
      exact k e S2 h2 g2
theorem show_line_ok {L : Ln} {d : D} (h : LnOk L) (hd : ShD L d S) : m_show_line [d] S = .ok (.str (textL L)) S false := by
  refine ok_eq ?_
  have tk := (textL_ok h).2.2
  unfold m_show_line; rw [ok_def]
  simp -implicitDefEqProofs only [List.map_cons, List.map_nil, List.replicate, List.cons_append, List.nil_append]
  rcases hd with ⟨w, ps, rfl, rfl⟩ | ⟨k, o, x, y, rfl, rfl, hx, hy⟩
  · obtain ⟨fs, hf, hp⟩ := h
    have fw := form_word hf
    have fl := formOf_len hf
    obtain ⟨h1, h2⟩ := words_ok hp
    have i0 : ∀ S, vIdx (.tup (.str w :: ps.map valP)) (.int 0) S = .ok (.str w) S false := fun S => vIdx_t0
    have ve : ∀ S, vEq (.str w) (.str (Str.ofString "mend")) S = .ok (.bl false) S false := fun S => by rw [vEq_s]; congr 2; exact decide_eq_false fw.2
    simp -implicitDefEqProofs only [oks_seq, oks_set, oks_item, oks_if, oks_ret, oks_expr, ok_or, ok_and, ok_not, ok_ebin, ok_eun, ok_bm, ok_callF, ok_meth, ok_lst, ok_tup, ok_slice, ok_part0, ok_part1, ok_thaw, ok_c, oka_cons, oka_nil, ok_var, List.set_cons_succ, List.set_cons_zero, List.getElem?_cons_succ, List.getElem?_cons_zero, Option.some.injEq, Sl.val.injEq, exists_eq_left', D.int.injEq, ok_ok, ok_onB, oks_onS, Bool.not_true, Bool.not_false, if_true, Bool.false_eq_true, if_false, oks_pass, i0, ve, ok_comp, oki_val]
    refine ⟨rfl, _, none, rfl, ?_⟩
    refine ok_compMM (f := valP) (l := .s w :: ps) (fun p => .str (wordP p)) (gdOk_none.mpr trivial) (fun p hp' => ⟨_, rfl, ?_⟩) ?_
    · have := word_of_ok (S := S) (p := p) fun j e => by
        subst e
        rcases List.mem_cons.mp hp' with e | hq
        · cases e
        · obtain ⟨f, hf'⟩ := hp.mem _ hq
          cases f <;> first | exact hf' | exact hf'.elim
      simp -implicitDefEqProofs only [oks_seq, oks_set, oks_item, oks_if, oks_ret, oks_expr, ok_or, ok_and, ok_not, ok_ebin, ok_eun, ok_bm, ok_callF, ok_meth, ok_lst, ok_tup, ok_slice, ok_part0, ok_part1, ok_thaw, ok_c, oka_cons, oka_nil, ok_var, List.set_cons_succ, List.set_cons_zero, List.getElem?_cons_succ, List.getElem?_cons_zero, Option.some.injEq, Sl.val.injEq, exists_eq_left', D.int.injEq, ok_ok, ok_onB, oks_onS, Bool.not_true, Bool.not_false, if_true, Bool.false_eq_true, if_false, oks_pass, gN, wipeE, List.foldl_cons, List.foldl_nil, this]
      exact ⟨trivial, trivial⟩
    have vj := vjoin_ok (S := S) (y := spS) (ys := w :: ps.map wordP) sp_len (by have : tot (w :: ps.map wordP) ≤ 99 := tk; omega)
    have ev : (D.lst ((Pt.s w :: ps).map fun p => D.str (wordP p))) = .lst ((w :: ps.map wordP).map D.str) := by rw [List.map_cons, List.map_cons, List.map_map]; rfl
    rw [ev]
    simp -implicitDefEqProofs only [oks_seq, oks_set, oks_item, oks_if, oks_ret, oks_expr, ok_or, ok_and, ok_not, ok_ebin, ok_eun, ok_bm, ok_callF, ok_meth, ok_lst, ok_tup, ok_slice, ok_part0, ok_part1, ok_thaw, ok_c, oka_cons, oka_nil, ok_var, List.set_cons_succ, List.set_cons_zero, List.getElem?_cons_succ, List.getElem?_cons_zero, Option.some.injEq, Sl.val.injEq, exists_eq_left', D.int.injEq, ok_ok, ok_onB, oks_onS, Bool.not_true, Bool.not_false, if_true, Bool.false_eq_true, if_false, oks_pass]
    show Ok _ (vJoin (.str spS) [.lst ((w :: ps.map wordP).map D.str)] S) _
    rw [vj, ok_ok]
    show Ok NoE (finR false S _ S false) _
    rw [finR_same rfl]
    exact ⟨rfl, rfl, rfl⟩
  · obtain ⟨⟨hk, lk⟩, ho, lo⟩ := h
    have i0 : ∀ S, vIdx (.tup [.str mendT, x, y]) (.int 0) S = .ok (.str mendT) S false := fun S => vIdx_t0
    have i1 : ∀ S, vIdx (.tup [.str mendT, x, y]) (.int 1) S = .ok x S false := fun S => vIdx_t1
    have i2 : ∀ S, vIdx (.tup [.str mendT, x, y]) (.int 2) S = .ok y S false := fun S => vIdx_t2
    have ve : ∀ S, vEq (.str mendT) (.str (Str.ofString "mend")) S = .ok (.bl true) S false := fun S => by rw [vEq_s]; congr 2
    simp -implicitDefEqProofs only [oks_seq, oks_set, oks_item, oks_if, oks_ret, oks_expr, ok_or, ok_and, ok_not, ok_ebin, ok_eun, ok_bm, ok_callF, ok_meth, ok_lst, ok_tup, ok_slice, ok_part0, ok_part1, ok_thaw, ok_c, oka_cons, oka_nil, ok_var, List.set_cons_succ, List.set_cons_zero, List.getElem?_cons_succ, List.getElem?_cons_zero, Option.some.injEq, Sl.val.injEq, exists_eq_left', D.int.injEq, ok_ok, ok_onB, oks_onS, Bool.not_true, Bool.not_false, if_true, Bool.false_eq_true, if_false, oks_pass, i0, ve, thaw_lst, oks_sfor, oki_val, i1, i2]
    refine ⟨_, none, rfl, ?_⟩
    have g0 : Grw S (S ++ [O.lst [.str (Str.ofString "mend")]]) := Grw.app _ _
    have h0 : (S ++ [O.lst [.str (Str.ofString "mend")]])[S.length]? = some (.lst ([mendT].map D.str)) := by simp; rfl
    generalize S ++ [O.lst [.str (Str.ofString "mend")]] = S1 at g0 h0
    refine oks_for (fun rr env S' => ∃ (ws : List Str) (e2 e3 e4 e5 : Sl), env = [.val (.tup [.str mendT, x, y]), .val (.ref S.length), e2, e3, e4, e5] ∧ S'[S.length]? = some (.lst (ws.map D.str)) ∧ Grw S S' ∧
      ((rr = [.tup [.str (Str.ofString "+"), x], .tup [.str (Str.ofString "-"), y]] ∧ ws = [mendT]) ∨ (rr = [.tup [.str (Str.ofString "-"), y]] ∧ ws = mendT :: twoW plusT k) ∨ (rr = [] ∧ ws = wordsL (.mend k o)))) ⟨[mendT], _, _, _, _, rfl, h0, g0, .inl ⟨rfl, rfl⟩⟩ ?_ ?_
    · rintro t rr env S2 ⟨ws, e2, e3, e4, e5, rfl, h2, g2, hc⟩
      refine ⟨gdOk_none.mpr trivial, ?_⟩
      rcases hc with ⟨er, rfl⟩ | ⟨er, rfl⟩ | ⟨er, _⟩
      · injection er with er1 er2
        subst er1 er2
        refine ⟨_, rfl, ?_⟩
        refine show_names hx (Nat.le_refl _) g2 h2 (by simp; omega) rfl rfl rfl rfl fun e S3 h3 g3 => ?_
        exact ⟨_, _, _, _, _, rfl, h3, g3, .inr (.inl ⟨rfl, rfl⟩)⟩
      · injection er with er1 er2
        subst er1 er2
        refine ⟨_, rfl, ?_⟩
        refine show_names hy (Nat.le_refl _) g2 h2 (by have := twoW_len plusT k; rw [List.length_cons, this]; omega) rfl rfl rfl rfl fun e S3 h3 g3 => ?_
        exact ⟨_, _, _, _, _, rfl, h3, g3, .inr (.inr ⟨rfl, rfl⟩)⟩
      · cases er
    · rintro env S2 ⟨ws, e2, e3, e4, e5, rfl, h2, g2, hc⟩
      refine ⟨gdOk_none.mpr trivial, ?_⟩
      rcases hc with ⟨er, _⟩ | ⟨er, _⟩ | ⟨_, rfl⟩
      · cases er
      · cases er
      · have wt : tot (wordsL (.mend k o)) ≤ 999 := by
          have h1 : ∀ p ∈ wordsL (.mend k o), p.length ≤ 10 := by
            intro p hp
            rcases List.mem_cons.mp hp with rfl | hp
            · decide +kernel
            · rcases List.mem_append.mp hp with hp | hp <;> obtain ⟨z, hz, hp⟩ := List.mem_flatMap.mp hp <;> simp only [List.mem_cons, List.not_mem_nil, or_false] at hp <;> rcases hp with rfl | rfl
              · decide +kernel
              · have := (hk _ hz).2.2; omega
              · decide +kernel
              · have := (ho _ hz).2.2; omega
          have h2 := tot_le84 h1
          have h3 : (wordsL (.mend k o)).length ≤ 17 := by
            show (mendT :: (twoW plusT k ++ twoW minusT o)).length ≤ 17
            rw [List.length_cons, List.length_append, twoW_len, twoW_len]; omega
          omega
        have vj := vjoin_okr (S := S2) (y := spS) h2 sp_len (by omega)
        simp -implicitDefEqProofs only [oks_seq, oks_set, oks_item, oks_if, oks_ret, oks_expr, ok_or, ok_and, ok_not, ok_ebin, ok_eun, ok_bm, ok_callF, ok_meth, ok_lst, ok_tup, ok_slice, ok_part0, ok_part1, ok_thaw, ok_c, oka_cons, oka_nil, ok_var, List.set_cons_succ, List.set_cons_zero, List.getElem?_cons_succ, List.getElem?_cons_zero, Option.some.injEq, Sl.val.injEq, exists_eq_left', D.int.injEq, ok_ok, ok_onB, oks_onS, Bool.not_true, Bool.not_false, if_true, Bool.false_eq_true, if_false, oks_pass]
        refine ⟨rfl, ?_⟩
        show Ok _ (vJoin (.str spS) [.ref S.length] S2) _
        rw [vj, ok_ok, text_words]
        show Ok NoE (finR false S _ S2 false) _
        rw [finR_drop' (fun n e => by cases e) rfl g2.len g2.low]
        exact ⟨rfl, rfl, rfl⟩
theorem show_book_ok {x : D} {Ls : List Ln} {g : Option (Nat × List D)} (hx : itemsOf S x = some (Ls.map valL, g)) (hg : gdOk g S) (hL : ∀ L ∈ Ls, LnOk L) (few : Ls.length ≤ 1000) : m_show_book [x] S = .ok (.str (bookT Ls)) S false := by
  refine ok_eq ?_
  unfold m_show_book; rw [ok_def]
  simp -implicitDefEqProofs only [List.map_cons, List.map_nil, List.replicate, List.cons_append, List.nil_append]
  simp -implicitDefEqProofs only [oks_seq, oks_set, oks_item, oks_if, oks_ret, oks_expr, ok_or, ok_and, ok_not, ok_ebin, ok_eun, ok_bm, ok_callF, ok_meth, ok_lst, ok_tup, ok_slice, ok_part0, ok_part1, ok_thaw, ok_c, oka_cons, oka_nil, ok_var, List.set_cons_succ, List.set_cons_zero, List.getElem?_cons_succ, List.getElem?_cons_zero, Option.some.injEq, Sl.val.injEq, exists_eq_left', D.int.injEq, ok_ok, ok_onB, oks_onS, Bool.not_true, Bool.not_false, if_true, Bool.false_eq_true, if_false, oks_pass, ok_comp, oki_val]
  refine ⟨rfl, _, _, hx, ?_⟩
  refine ok_compMM (f := valL) (l := Ls) (fun L => .str (textL L)) hg (fun L hM => ⟨_, rfl, ?_⟩) ?_
  · have := show_line_ok (hL L hM) (valL_sh L S)
    simp -implicitDefEqProofs only [oks_seq, oks_set, oks_item, oks_if, oks_ret, oks_expr, ok_or, ok_and, ok_not, ok_ebin, ok_eun, ok_bm, ok_callF, ok_meth, ok_lst, ok_tup, ok_slice, ok_part0, ok_part1, ok_thaw, ok_c, oka_cons, oka_nil, ok_var, List.set_cons_succ, List.set_cons_zero, List.getElem?_cons_succ, List.getElem?_cons_zero, Option.some.injEq, Sl.val.injEq, exists_eq_left', D.int.injEq, ok_ok, ok_onB, oks_onS, Bool.not_true, Bool.not_false, if_true, Bool.false_eq_true, if_false, oks_pass, gN, wipeE, List.foldl_cons, List.foldl_nil, this]
    exact ⟨trivial, trivial⟩
  have e4 : (Ls.map fun L => D.str (textL L)) = (Ls.map textL).map D.str := by rw [List.map_map]; rfl
  have tl := tot_le84 (ps := Ls.map textL) (k := 99) fun p hp => by
    obtain ⟨L, hM, rfl⟩ := List.mem_map.mp hp
    exact (textL_ok (hL L hM)).2.1
  rw [List.length_map] at tl
  have vj := vjoin_ok (S := S) (y := nlS) (ys := Ls.map textL) nl_len (by omega)
  rw [e4]
  simp -implicitDefEqProofs only [oks_seq, oks_set, oks_item, oks_if, oks_ret, oks_expr, ok_or, ok_and, ok_not, ok_ebin, ok_eun, ok_bm, ok_callF, ok_meth, ok_lst, ok_tup, ok_slice, ok_part0, ok_part1, ok_thaw, ok_c, oka_cons, oka_nil, ok_var, List.set_cons_succ, List.set_cons_zero, List.getElem?_cons_succ, List.getElem?_cons_zero, Option.some.injEq, Sl.val.injEq, exists_eq_left', D.int.injEq, ok_ok, ok_onB, oks_onS, Bool.not_true, Bool.not_false, if_true, Bool.false_eq_true, if_false, oks_pass]
  show Ok _ (vJoin (.str nlS) [.lst ((Ls.map textL).map D.str)] S) _
  rw [vj, ok_ok]
  show Ok NoE (finR false S _ S false) _
  rw [finR_same rfl]
  exact ⟨rfl, rfl, rfl⟩
/-! ### what is read is spoilt -/
/-- lists at k or behind have got longer by n at most -/
structure Push (k f n : Nat) (S S' : Store) : Prop where
  len : S'.length = S.length
  low : ∀ j, j < k → S'[j]? = S[j]?
  own : S'[f]? = S[f]?
  lst : ∀ (j : Nat) (xs : List D), S[j]? = some (.lst xs) → ∃ ys, S'[j]? = some (.lst ys) ∧ ys.length ≤ xs.length + n
theorem Push.refl {k f : Nat} (S : Store) : Push k f 0 S S := ⟨rfl, fun _ _ => rfl, rfl, fun _ xs h => ⟨xs, h, Nat.le_refl _⟩⟩
theorem Push.trans {k f n m : Nat} {S1 S2 : Store} (a : Push k f n S S1) (b : Push k f m S1 S2) : Push k f (n + m) S S2 := ⟨b.len.trans a.len, fun j hj => (b.low j hj).trans (a.low j hj), b.own.trans a.own, fun j xs h => by
  obtain ⟨ys, h1, l1⟩ := a.lst j xs h
  obtain ⟨zs, h2, l2⟩ := b.lst j ys h1
  exact ⟨zs, h2, by omega⟩⟩
theorem Push.le {k f n m : Nat} {S' : Store} (a : Push k f n S S') (h : n ≤ m) : Push k f m S S' := ⟨a.len, a.low, a.own, fun j xs h1 => by
  obtain ⟨ys, h2, l2⟩ := a.lst j xs h1
  exact ⟨ys, h2, by omega⟩⟩
theorem Push.one {k f a : Nat} {xs : List D} {y : D} (h : S[a]? = some (.lst xs)) (hk : k ≤ a) (hf : a ≠ f) : Push k f 1 S (S.set a (.lst (xs ++ [y]))) := ⟨by simp, fun j hj => by rw [List.getElem?_set_ne (by omega)], by rw [List.getElem?_set_ne hf], fun j zs hz => by
  by_cases hj : a = j
  · subst hj
    rw [h] at hz
    cases hz
    exact ⟨_, List.getElem?_set_self (List.getElem?_eq_some_iff.mp h).1, by simp⟩
  · exact ⟨zs, by rw [List.getElem?_set_ne hj]; exact hz, by omega⟩⟩
def SpD (k f m : Nat) (d : D) (S : Store) : Prop := (∃ (a b : Nat) (xa xb : List D), d = .tup [.str mendT, .ref a, .ref b] ∧ (k ≤ a ∧ k ≤ b) ∧ (a ≠ f ∧ b ≠ f) ∧ (S[a]? = some (.lst xa) ∧ S[b]? = some (.lst xb)) ∧ xa.length ≤ m ∧ xb.length ≤ m) ∨ ∃ L, FlD L d
theorem SpD.push {k f m n : Nat} {d : D} {S' : Store} (h : SpD k f m d S) (p : Push k f n S S') : SpD k f (m + n) d S' := by
  rcases h with ⟨a, b, xa, xb, e, h1, h2, ⟨h3, h4⟩, h5, h6⟩ | h
  · obtain ⟨ya, g1, l1⟩ := p.lst a xa h3
    obtain ⟨yb, g2, l2⟩ := p.lst b xb h4
    exact .inl ⟨a, b, ya, yb, e, h1, h2, ⟨g1, g2⟩, by omega, by omega⟩
  · exact .inr h
theorem isl_ref {n : Nat} {xs : List D} (h : S[n]? = some (.lst xs)) : vIsi .lst (.ref n) S = .ok (.bl true) S false := by
  unfold vIsi tagOf
  simp only [h]
  rfl
theorem spoil_one {K : KB} {k f m : Nat} {d : D} {x0 e2 : Sl} (h : SpD k f m d S) (hm : m ≤ 10000) (kk : ∀ e S', Push k f 2 S S' → K.nx [x0, .val d, e] S') : OkS K (m_l_spoil_b2 [x0, .val d, e2] S) := by
  unfold m_l_spoil_b2
  rcases h with ⟨a, b, xa, xb, rfl, ⟨h1, h2⟩, ⟨h3, h4⟩, ⟨h5, h6⟩, h7, h8⟩ | ⟨L, w, ps, rfl, rfl⟩
  · simp -implicitDefEqProofs only [oks_seq, oks_set, oks_item, oks_if, oks_ret, oks_expr, ok_or, ok_and, ok_not, ok_ebin, ok_eun, ok_bm, ok_callF, ok_meth, ok_lst, ok_tup, ok_slice, ok_part0, ok_part1, ok_thaw, ok_c, oka_cons, oka_nil, ok_var, List.set_cons_succ, List.set_cons_zero, List.getElem?_cons_succ, List.getElem?_cons_zero, Option.some.injEq, Sl.val.injEq, exists_eq_left', D.int.injEq, ok_ok, ok_onB, oks_onS, Bool.not_true, Bool.not_false, if_true, Bool.false_eq_true, if_false, oks_pass, oks_sfor, oki_val]
    refine ⟨_, none, rfl, ?_⟩
    have p1 := Push.one (y := D.str (Str.ofString "zz")) h5 h1 h3
    obtain ⟨yb, h9, l9⟩ := p1.lst b xb h6
    have p2 := Push.one (y := D.str (Str.ofString "zz")) h9 h2 h4
    have a1 := vAppend_ref (y := D.str (Str.ofString "zz")) h5 (by omega)
    have a2 := vAppend_ref (y := D.str (Str.ofString "zz")) h9 (by omega)
    have i1 := isl_ref h5
    have i2 := isl_ref h9
    have l1 := isLst_ref h5
    have l2 := isLst_ref h9
    have pp := p1.trans p2
    generalize S.set a (.lst (xa ++ [D.str (Str.ofString "zz")])) = S1 at *
    generalize S1.set b (.lst (yb ++ [D.str (Str.ofString "zz")])) = S2 at *
    have i0 : ∀ S, vIsi .lst (.str mendT) S = .ok (.bl false) S false := fun S => rfl
    refine oks_for (fun rr env S' => ∃ e, env = [x0, .val (.tup [.str mendT, .ref a, .ref b]), e] ∧ ((rr = [.str mendT, .ref a, .ref b] ∧ S' = S) ∨ (rr = [.ref a, .ref b] ∧ S' = S) ∨ (rr = [.ref b] ∧ S' = S1) ∨ (rr = [] ∧ S' = S2))) ⟨_, rfl, .inl ⟨rfl, rfl⟩⟩ ?_ ?_
    · rintro y rr env S' ⟨e, rfl, hc⟩
      refine ⟨gdOk_none.mpr trivial, _, rfl, ?_⟩
      unfold m_l_spoil_b1
      rcases hc with ⟨er, rfl⟩ | ⟨er, rfl⟩ | ⟨er, rfl⟩ | ⟨er, _⟩
      · injection er with er1 er2
        subst er1 er2
        simp -implicitDefEqProofs only [oks_seq, oks_set, oks_item, oks_if, oks_ret, oks_expr, ok_or, ok_and, ok_not, ok_ebin, ok_eun, ok_bm, ok_callF, ok_meth, ok_lst, ok_tup, ok_slice, ok_part0, ok_part1, ok_thaw, ok_c, oka_cons, oka_nil, ok_var, List.set_cons_succ, List.set_cons_zero, List.getElem?_cons_succ, List.getElem?_cons_zero, Option.some.injEq, Sl.val.injEq, exists_eq_left', D.int.injEq, ok_ok, ok_onB, oks_onS, Bool.not_true, Bool.not_false, if_true, Bool.false_eq_true, if_false, oks_pass, gN, i0]
        exact ⟨_, rfl, .inr (.inl (by simp))⟩
      · injection er with er1 er2
        subst er1 er2
        simp -implicitDefEqProofs only [oks_seq, oks_set, oks_item, oks_if, oks_ret, oks_expr, ok_or, ok_and, ok_not, ok_ebin, ok_eun, ok_bm, ok_callF, ok_meth, ok_lst, ok_tup, ok_slice, ok_part0, ok_part1, ok_thaw, ok_c, oka_cons, oka_nil, ok_var, List.set_cons_succ, List.set_cons_zero, List.getElem?_cons_succ, List.getElem?_cons_zero, Option.some.injEq, Sl.val.injEq, exists_eq_left', D.int.injEq, ok_ok, ok_onB, oks_onS, Bool.not_true, Bool.not_false, if_true, Bool.false_eq_true, if_false, oks_pass, gN, i1, a1]
        exact ⟨l1, _, rfl, .inr (.inr (.inl (by simp)))⟩
      · injection er with er1 er2
        subst er1 er2
        simp -implicitDefEqProofs only [oks_seq, oks_set, oks_item, oks_if, oks_ret, oks_expr, ok_or, ok_and, ok_not, ok_ebin, ok_eun, ok_bm, ok_callF, ok_meth, ok_lst, ok_tup, ok_slice, ok_part0, ok_part1, ok_thaw, ok_c, oka_cons, oka_nil, ok_var, List.set_cons_succ, List.set_cons_zero, List.getElem?_cons_succ, List.getElem?_cons_zero, Option.some.injEq, Sl.val.injEq, exists_eq_left', D.int.injEq, ok_ok, ok_onB, oks_onS, Bool.not_true, Bool.not_false, if_true, Bool.false_eq_true, if_false, oks_pass, gN, i2, a2]
        exact ⟨l2, _, rfl, .inr (.inr (.inr (by simp)))⟩
      · cases er
    · rintro env S' ⟨e, rfl, hc⟩
      refine ⟨gdOk_none.mpr trivial, ?_⟩
      rcases hc with ⟨er, _⟩ | ⟨er, _⟩ | ⟨er, _⟩ | ⟨_, rfl⟩
      · cases er
      · cases er
      · cases er
      · exact kk e _ pp
  · simp -implicitDefEqProofs only [oks_seq, oks_set, oks_item, oks_if, oks_ret, oks_expr, ok_or, ok_and, ok_not, ok_ebin, ok_eun, ok_bm, ok_callF, ok_meth, ok_lst, ok_tup, ok_slice, ok_part0, ok_part1, ok_thaw, ok_c, oka_cons, oka_nil, ok_var, List.set_cons_succ, List.set_cons_zero, List.getElem?_cons_succ, List.getElem?_cons_zero, Option.some.injEq, Sl.val.injEq, exists_eq_left', D.int.injEq, ok_ok, ok_onB, oks_onS, Bool.not_true, Bool.not_false, if_true, Bool.false_eq_true, if_false, oks_pass, oks_sfor, oki_val]
    refine ⟨(.str w :: ps.map valP), none, rfl, ?_⟩
    refine oks_for (fun rr env S' => S' = S ∧ ∃ (e : Sl) (qs : List Pt), rr = qs.map valP ∧ env = [x0, .val (.tup (.str w :: ps.map valP)), e]) ⟨rfl, _, .s w :: ps, rfl, rfl⟩ ?_ ?_
    · rintro y rr env S' ⟨rfl, e, qs, er, rfl⟩
      refine ⟨gdOk_none.mpr trivial, _, rfl, ?_⟩
      cases qs with
      | nil => cases er
      | cons q qs =>
        injection er with er1 er2
        subst er1 er2
        have i0 : vIsi .lst (valP q) S' = .ok (.bl false) S' false := by cases q <;> rfl
        unfold m_l_spoil_b1
        simp -implicitDefEqProofs only [oks_seq, oks_set, oks_item, oks_if, oks_ret, oks_expr, ok_or, ok_and, ok_not, ok_ebin, ok_eun, ok_bm, ok_callF, ok_meth, ok_lst, ok_tup, ok_slice, ok_part0, ok_part1, ok_thaw, ok_c, oka_cons, oka_nil, ok_var, List.set_cons_succ, List.set_cons_zero, List.getElem?_cons_succ, List.getElem?_cons_zero, Option.some.injEq, Sl.val.injEq, exists_eq_left', D.int.injEq, ok_ok, ok_onB, oks_onS, Bool.not_true, Bool.not_false, if_true, Bool.false_eq_true, if_false, oks_pass, gN, i0]
        exact ⟨trivial, _, qs, rfl, rfl⟩
    · rintro env S' ⟨rfl, e, qs, er, rfl⟩
      exact ⟨gdOk_none.mpr trivial, kk e _ ((Push.refl _).le (by omega))⟩
theorem spoil_ok {k f m : Nat} {ds : List D} (h0 : S[f]? = some (.lst ds)) (hk : k ≤ f) (hd : ∀ d ∈ ds, SpD k f m d S) (hm : m + 2 * ds.length ≤ 10000) : Ok NoE (m_l_spoil [.ref f] S) fun d S' _ => d = .non ∧ S'.length = S.length ∧ ∀ j, j < k → S'[j]? = S[j]? := by
  unfold m_l_spoil; rw [ok_def]
  simp -implicitDefEqProofs only [List.map_cons, List.map_nil, List.replicate, List.cons_append, List.nil_append]
  simp -implicitDefEqProofs only [oks_seq, oks_set, oks_item, oks_if, oks_ret, oks_expr, ok_or, ok_and, ok_not, ok_ebin, ok_eun, ok_bm, ok_callF, ok_meth, ok_lst, ok_tup, ok_slice, ok_part0, ok_part1, ok_thaw, ok_c, oka_cons, oka_nil, ok_var, List.set_cons_succ, List.set_cons_zero, List.getElem?_cons_succ, List.getElem?_cons_zero, Option.some.injEq, Sl.val.injEq, exists_eq_left', D.int.injEq, ok_ok, ok_onB, oks_onS, Bool.not_true, Bool.not_false, if_true, Bool.false_eq_true, if_false, oks_pass, oks_sfor, oki_val]
  refine ⟨_, _, items_ref h0, ?_⟩
  refine oks_for (fun rr env S' => ∃ e1 e2, env = [.val (.ref f), e1, e2] ∧ rr.length ≤ ds.length ∧ (∀ d ∈ rr, d ∈ ds) ∧ Push k f (2 * (ds.length - rr.length)) S S') ⟨_, _, rfl, Nat.le_refl _, fun _ h => h, by rw [Nat.sub_self]; exact Push.refl S⟩ ?_ ?_
  · rintro y rr env S' ⟨e1, e2, rfl, hl, hm', p⟩
    refine ⟨p.own.trans h0, _, rfl, ?_⟩
    have sp := (hd y (hm' y List.mem_cons_self)).push p
    rw [List.length_cons] at hl
    refine spoil_one sp (by omega) fun e S2 p2 => ?_
    exact ⟨_, _, rfl, by omega, fun d h => hm' d (List.mem_cons_of_mem _ h), (p.trans p2).le (by rw [List.length_cons]; omega)⟩
  · rintro env S' ⟨e1, e2, rfl, -, -, p⟩
    have h1 := p.own.trans h0
    have ap := vAppend_ref (S := S') (y := D.str (Str.ofString "more")) h1 (by omega)
    have il := isLst_ref h1
    refine ⟨h1, ?_⟩
    simp -implicitDefEqProofs only [oks_seq, oks_set, oks_item, oks_if, oks_ret, oks_expr, ok_or, ok_and, ok_not, ok_ebin, ok_eun, ok_bm, ok_callF, ok_meth, ok_lst, ok_tup, ok_slice, ok_part0, ok_part1, ok_thaw, ok_c, oka_cons, oka_nil, ok_var, List.set_cons_succ, List.set_cons_zero, List.getElem?_cons_succ, List.getElem?_cons_zero, Option.some.injEq, Sl.val.injEq, exists_eq_left', D.int.injEq, ok_ok, ok_onB, oks_onS, Bool.not_true, Bool.not_false, if_true, Bool.false_eq_true, if_false, oks_pass, ap]
    refine ⟨il, ?_⟩
    show Ok NoE (finR false S .non (S'.set f _) false) _
    rw [finR_same (by rw [List.length_set]; exact p.len), ok_ok]
    refine ⟨rfl, by rw [List.length_set]; exact p.len, fun j hj => ?_⟩
    rw [List.getElem?_set_ne (by omega)]
    exact p.low j hj
end
end G
namespace G
open PySem L2 DL
set_option maxHeartbeats 4000000
/-! ### things that are the same, kind by kind -/
/-- data of None, whole numbers, texts, tuples and lists, not too deep -/
def gdP : Nat → PyData → Bool
  | 0, _ => false
  | _ + 1, .none => true
  | _ + 1, .int _ => true
  | _ + 1, .str _ => true
  | k + 1, .tuple xs => xs.all (gdP k)
  | k + 1, .list xs => xs.all (gdP k)
  | _ + 1, _ => false
def tagP : PyData → Tag
  | .none => .non
  | .int _ => .int
  | .str _ => .str
  | .tuple _ => .tup
  | .list _ => .lst
  | _ => .bl
section
variable {S : Store}
theorem allSome_len : ∀ {l : List (Option PyData)} {ps : List PyData}, allSome l = some ps → ps.length = l.length
  | [], ps, h => by cases h; rfl
  | none :: _, ps, h => by cases h
  | some x :: r, ps, h => by
    have h : (allSome r).map (x :: ·) = some ps := h
    cases e : allSome r with
    | none => rw [e] at h; cases h
    | some qs =>
      rw [e] at h
      cases h
      simp [allSome_len e]
theorem allSome_at : ∀ {l : List (Option PyData)} {ps : List PyData} {i : Nat} {p : PyData}, allSome l = some ps → ps[i]? = some p → l[i]? = some (some p)
  | [], ps, i, p, h, e => by cases h; simp at e
  | none :: _, ps, i, p, h, e => by cases h
  | some x :: r, ps, i, p, h, e => by
    have h : (allSome r).map (x :: ·) = some ps := h
    cases er : allSome r with
    | none => rw [er] at h; cases h
    | some qs =>
      rw [er] at h
      cases h
      cases i with
      | zero => simpa using e
      | succ i => simp at e ⊢; exact allSome_at er e
theorem snap_tag {j : Nat} {d : D} {p : PyData} (h : DL.snap (j + 1) S d = some p) (g : gdP 20 p = true) : tagOf S d = some (tagP p) := by
  cases d with
  | non => cases h; rfl
  | int i => cases h; rfl
  | str s => cases h; rfl
  | bl b => cases h; cases g
  | tup xs =>
    have h : (allSome (xs.map (DL.snap j S))).map PyData.tuple = some p := h
    cases e : allSome (xs.map (DL.snap j S)) with
    | none => rw [e] at h; cases h
    | some qs => rw [e] at h; cases h; rfl
  | ktup xs =>
    have h : (allSome (xs.map (DL.snap j S))).map PyData.tuple = some p := h
    cases e : allSome (xs.map (DL.snap j S)) with
    | none => rw [e] at h; cases h
    | some qs => rw [e] at h; cases h; rfl
  | lst xs =>
    have h : (allSome (xs.map (DL.snap j S))).map PyData.list = some p := h
    cases e : allSome (xs.map (DL.snap j S)) with
    | none => rw [e] at h; cases h
    | some qs => rw [e] at h; cases h; rfl
  | scr ns => cases h; rfl
  | ref n =>
    have h : (match S[n]? with
      | some (.lst xs) => (allSome (xs.map (DL.snap j S))).map PyData.list
      | _ => none) = some p := h
    show (match S[n]? with
    | some (.lst _) => some Tag.lst
    | some (.dct _ _) => some .dct
    | _ => none) = _
    split at h
    · rename_i xs en
      rw [en]
      cases e : allSome (xs.map (DL.snap j S)) with
      | none => rw [e] at h; cases h
      | some qs => rw [e] at h; cases h; rfl
    · cases h
  | _ => cases h
/-- the items of a list or a tuple that is seen so -/
structure Itm (S : Store) (j : Nat) (d : D) (ps : List PyData) (w : Wk) : Prop where
  ex : ∃ xs g, itemsOf S d = some (xs, g) ∧ allSome (xs.map (DL.snap j S)) = some ps ∧ gdOk g S ∧ (D.lo 0 d = true → g = none ∧ ∀ x ∈ xs, D.lo 0 x = true) ∧ (w = .t → g = none) ∧ vLen [d] S = .ok (.int ps.length) S false
  wk : wkOf d = w
theorem loL_mem {k : Nat} : ∀ {xs : List D}, D.loL k xs = true → ∀ x ∈ xs, D.lo k x = true
  | [], _, x, h => by cases h
  | y :: r, e, x, h => by
    rw [D.loL, Bool.and_eq_true] at e
    rcases List.mem_cons.mp h with rfl | h
    · exact e.1
    · exact loL_mem e.2 x h
theorem snap_items {j : Nat} {d : D} {ps : List PyData} (h : DL.snap (j + 2) S d = some (.list ps)) : Itm S (j + 1) d ps .l := by
  cases d with
  | lst xs =>
    have h : (allSome (xs.map (DL.snap (j + 1) S))).map PyData.list = some (.list ps) := h
    cases e : allSome (xs.map (DL.snap (j + 1) S)) with
    | none => rw [e] at h; cases h
    | some qs =>
      rw [e] at h; cases h
      have := allSome_len e
      refine ⟨⟨xs, none, rfl, e, trivial, fun lo => ⟨rfl, loL_mem (by simpa [D.lo] using lo)⟩, fun _ => rfl, ?_⟩, rfl⟩
      rw [vLen_lst, this, List.length_map]
  | scr ns =>
    cases h
    refine ⟨⟨ns.map .int, none, rfl, ?_, trivial, fun _ => ⟨rfl, fun x hx => ?_⟩, fun _ => rfl, ?_⟩, rfl⟩
    · induction ns with
      | nil => rfl
      | cons n r ih =>
        show (allSome ((r.map D.int).map (DL.snap (j + 1) S))).map (PyData.int n :: ·) = _
        rw [ih]; rfl
    · obtain ⟨n, _, rfl⟩ := List.mem_map.mp hx; rfl
    · rw [vLen_seq (xs := ns.map .int) rfl rfl, List.length_map, List.length_map]
  | ref n =>
    have h : (match S[n]? with
      | some (.lst xs) => (allSome (xs.map (DL.snap (j + 1) S))).map PyData.list
      | _ => none) = some (.list ps) := h
    split at h
    · rename_i xs en
      cases e : allSome (xs.map (DL.snap (j + 1) S)) with
      | none => rw [e] at h; cases h
      | some qs =>
        rw [e] at h; cases h
        have := allSome_len e
        refine ⟨⟨xs, some (n, xs), items_ref en, e, en, fun lo => (by simp [D.lo] at lo), (fun w => nomatch w), (by rw [vLen_ref en, this, List.length_map])⟩, rfl⟩
    · cases h
  | tup xs =>
    have h : (allSome (xs.map (DL.snap (j + 1) S))).map PyData.tuple = some (.list ps) := h
    cases e : allSome (xs.map (DL.snap (j + 1) S)) <;> rw [e] at h <;> cases h
  | ktup xs =>
    have h : (allSome (xs.map (DL.snap (j + 1) S))).map PyData.tuple = some (.list ps) := h
    cases e : allSome (xs.map (DL.snap (j + 1) S)) <;> rw [e] at h <;> cases h
  | _ => cases h
theorem snap_itemsT {j : Nat} {d : D} {ps : List PyData} (h : DL.snap (j + 1) S d = some (.tuple ps)) : Itm S j d ps .t := by
  have two : ∀ {xs : List D}, (allSome (xs.map (DL.snap j S))).map PyData.tuple = some (.tuple ps) → allSome (xs.map (DL.snap j S)) = some ps := by
    intro xs h
    cases e : allSome (xs.map (DL.snap j S)) with
    | none => rw [e] at h; cases h
    | some qs => rw [e] at h; cases h; rfl
  cases d with
  | tup xs =>
    have e := two h
    have := allSome_len e
    refine ⟨⟨xs, none, rfl, e, trivial, fun lo => ⟨rfl, loL_mem (by simpa [D.lo] using lo)⟩, fun _ => rfl, ?_⟩, rfl⟩
    rw [vLen_seq (xs := xs) rfl rfl, this, List.length_map]
  | ktup xs =>
    have e := two h
    have := allSome_len e
    refine ⟨⟨xs, none, rfl, e, trivial, fun lo => ⟨rfl, loL_mem (by simpa [D.lo] using lo)⟩, fun _ => rfl, ?_⟩, rfl⟩
    rw [vLen_seq (xs := xs) rfl rfl, this, List.length_map]
  | lst xs =>
    have h : (allSome (xs.map (DL.snap j S))).map PyData.list = some (.tuple ps) := h
    cases e : allSome (xs.map (DL.snap j S)) <;> rw [e] at h <;> cases h
  | ref n =>
    have h : (match S[n]? with
      | some (.lst xs) => (allSome (xs.map (DL.snap j S))).map PyData.list
      | _ => none) = some (.tuple ps) := h
    split at h
    · rename_i xs en
      cases e : allSome (xs.map (DL.snap j S)) <;> rw [e] at h <;> cases h
    · cases h
  | _ => cases h
theorem gdP_more : ∀ {k : Nat} {p : PyData}, gdP k p = true → gdP (k + 1) p = true
  | 0, _, h => by cases h
  | k + 1, .none, _ => rfl
  | k + 1, .int _, _ => rfl
  | k + 1, .str _, _ => rfl
  | k + 1, .tuple xs, h => by
    have h : xs.all (gdP k) = true := h
    show xs.all (gdP (k + 1)) = true
    rw [List.all_eq_true] at h ⊢
    exact fun x hx => gdP_more (h x hx)
  | k + 1, .list xs, h => by
    have h : xs.all (gdP k) = true := h
    show xs.all (gdP (k + 1)) = true
    rw [List.all_eq_true] at h ⊢
    exact fun x hx => gdP_more (h x hx)
  | k + 1, .bool _, h => by cases h
  | k + 1, .dict _, h => by cases h
theorem gdP_le {k j : Nat} (h : k ≤ j) {p : PyData} (e : gdP k p = true) : gdP j p = true := by
  induction h with
  | refl => exact e
  | step _ ih => exact gdP_more ih
theorem snap_eq {p : PyData} {d1 d2 : D} (h1 : DL.snap 60 S d1 = some p) (h2 : DL.snap 60 S d2 = some p) : vEq d1 d2 S = .ok (.bl (PyData.eqv p p)) S false := by
  unfold vEq
  simp only [h1, h2]
theorem same_list {k j : Nat} {ps : List PyData} {d1 d2 : D} {w : Wk} (i1 : Itm S j d1 ps w) (i2 : Itm S j d2 ps w)
    (ih : ∀ (p : PyData) (x y : D), p ∈ ps → DL.snap j S x = some p → DL.snap j S y = some p → m_l_same k [x, y] S = .ok (.bl true) S false) {E : KE} {P : KV'} (hP : P (.bl true) S false) :
    Ok E (eAnd (eBin vEq (eCallF vLen [eVar 0]) (eCallF vLen [eVar 1])) (eCallF vAll [eCompP [2, 3] (iArgP fZipP [eVar 0, eVar 1]) (gT [gN 2, gN 3]) none (eCallF (m_l_same k) [eVar 2, eVar 3])]) [.val d1, .val d2, .no, .no] S) P := by
  obtain ⟨xs, g, e1, a1, gg, _, gt, v1⟩ := i1.ex
  obtain ⟨ys, g', e2, a2, gg', gl, _, v2⟩ := i2.ex
  have l1 := allSome_len a1
  have l2 := allSome_len a2
  rw [List.length_map] at l1 l2
  simp -implicitDefEqProofs only [oks_seq, oks_set, oks_item, oks_if, oks_ret, oks_expr, ok_or, ok_and, ok_not, ok_ebin, ok_eun, ok_bm, ok_callF, ok_meth, ok_lst, ok_tup, ok_slice, ok_part0, ok_part1, ok_thaw, ok_c, oka_cons, oka_nil, ok_var, List.set_cons_succ, List.set_cons_zero, List.getElem?_cons_succ, List.getElem?_cons_zero, Option.some.injEq, Sl.val.injEq, exists_eq_left', D.int.injEq, ok_ok, ok_onB, oks_onS, Bool.not_true, Bool.not_false, if_true, Bool.false_eq_true, if_false, oks_pass, v1, v2, vEq_i]
  rw [if_pos (by simp)]
  have zf := eCompP_zip (own := [2, 3]) (g := gT [gN 2, gN 3]) (t := none) (m := eCallF (m_l_same k) [eVar 2, eVar 3]) (ma := eVar 0) (mb := eVar 1) (env := [.val d1, .val d2, .no, .no]) (S := S) (f1 := false) (f2 := false) rfl rfl e1 e2
  simp -implicitDefEqProofs only [oks_seq, oks_set, oks_item, oks_if, oks_ret, oks_expr, ok_or, ok_and, ok_not, ok_ebin, ok_eun, ok_bm, ok_callF, ok_meth, ok_lst, ok_tup, ok_slice, ok_part0, ok_part1, ok_thaw, ok_c, oka_cons, oka_nil, ok_var, List.set_cons_succ, List.set_cons_zero, List.getElem?_cons_succ, List.getElem?_cons_zero, Option.some.injEq, Sl.val.injEq, exists_eq_left', D.int.injEq, ok_ok, ok_onB, oks_onS, Bool.not_true, Bool.not_false, if_true, Bool.false_eq_true, if_false, oks_pass, zf]
  refine ok_compMapP (fun _ => .bl true) (decide_eq_true ⟨gg, gg'⟩) (fun x hx => ?_) ?_
  · unfold zipD at hx
    obtain ⟨i, hi, rfl⟩ := List.mem_map.mp hx
    rw [List.mem_range] at hi
    have hx1 : i < xs.length := by omega
    have hy1 : i < ys.length := by omega
    have hp : i < ps.length := by omega
    have ex : xs[i]? = some xs[i] := List.getElem?_eq_getElem hx1
    have ey : ys[i]? = some ys[i] := List.getElem?_eq_getElem hy1
    have ep : ps[i]? = some ps[i] := List.getElem?_eq_getElem hp
    have s1 := allSome_at a1 ep
    have s2 := allSome_at a2 ep
    rw [List.getElem?_map, ex] at s1
    rw [List.getElem?_map, ey] at s2
    have := ih ps[i] xs[i] ys[i] (List.getElem_mem hp) (by simpa using s1) (by simpa using s2)
    rw [ex, ey]
    refine ⟨_, by simp [gT, seqOf, gAll, gN, wipeE]; rfl, ?_⟩
    simp -implicitDefEqProofs only [oks_seq, oks_set, oks_item, oks_if, oks_ret, oks_expr, ok_or, ok_and, ok_not, ok_ebin, ok_eun, ok_bm, ok_callF, ok_meth, ok_lst, ok_tup, ok_slice, ok_part0, ok_part1, ok_thaw, ok_c, oka_cons, oka_nil, ok_var, List.set_cons_succ, List.set_cons_zero, List.getElem?_cons_succ, List.getElem?_cons_zero, Option.some.injEq, Sl.val.injEq, exists_eq_left', D.int.injEq, ok_ok, ok_onB, oks_onS, Bool.not_true, Bool.not_false, if_true, Bool.false_eq_true, if_false, oks_pass, Option.getD_some, this]
    exact ⟨trivial, trivial⟩
  · have al := vAll_map (S := S) (f := fun _ : D => true) (zipD xs ys)
    rw [oka_nil, al, ok_ok]
    have : ((zipD xs ys).all fun _ => true) = true := by simp
    rw [this]; exact hP
theorem l_sameR_ok : ∀ (k : Nat) (p : PyData) (d1 d2 : D) (j : Nat), k ≤ 20 → k ≤ j → j ≤ 59 → gdP k p = true → DL.snap (j + 1) S d1 = some p → DL.snap (j + 1) S d2 = some p → m_l_same k [d1, d2] S = .ok (.bl true) S false
  | 0, p, d1, d2, j, _, _, _, h, _, _ => by cases h
  | k + 1, p, d1, d2, j, hk, hj, hj2, g, s1, s2 => by
    have t1 := snap_tag s1 (gdP_le hk g)
    have t2 := snap_tag s2 (gdP_le hk g)
    have f1 := snap_le (show j + 1 ≤ 60 by omega) s1
    have f2 := snap_le (show j + 1 ≤ 60 by omega) s2
    have ve := snap_eq f1 f2
    refine ok_eq ?_
    show Ok NoE (m_l_same (k + 1) [d1, d2] S) _
    unfold m_l_same; rw [ok_def]
    simp -implicitDefEqProofs only [List.map_cons, List.map_nil, List.replicate, List.cons_append, List.nil_append]
    have q2 : ∀ c, vIsi c d2 S = .ok (.bl (isTag (tagP p) c)) S false := fun c => by unfold vIsi; rw [t2]
    have q1 : ∀ c, vIsi c d1 S = .ok (.bl (isTag (tagP p) c)) S false := fun c => by unfold vIsi; rw [t1]
    have r1 : ∀ c, vIsiT c d1 S = .ok (.bl (c.any fun c => isTag (tagP p) c)) S false := fun c => vIsiT_eq t1
    have r2 : ∀ c, vIsiT c d2 S = .ok (.bl (c.any fun c => isTag (tagP p) c)) S false := fun c => vIsiT_eq t2
    obtain ⟨j', rfl⟩ : ∃ j', j = j' + 1 := ⟨j - 1, by omega⟩
    cases p with
    | none =>
      have hd1 : d1 = .non := by
        cases d1 <;> simp [tagOf, tagP] at t1 <;> try rfl
        rename_i n
        split at t1 <;> simp at t1
      have hd2 : d2 = .non := by
        cases d2 <;> simp [tagOf, tagP] at t2 <;> try rfl
        rename_i n
        split at t2 <;> simp at t2
      subst hd1 hd2
      simp [r1, r2, q1, q2, tagP, kDef]
    | int i =>
      have n2 : d2 ≠ .non := fun e => by rw [e] at t2; cases t2
      have : PyData.eqv (.int i) (.int i) = true := by simp [PyData.eqv]
      simp [r1, r2, q1, q2, tagP, n2, ve, this, kDef]
    | str z =>
      have n2 : d2 ≠ .non := fun e => by rw [e] at t2; cases t2
      have : PyData.eqv (.str z) (.str z) = true := by simp [PyData.eqv]
      simp [r1, r2, q1, q2, tagP, n2, ve, this, kDef]
    | tuple ps =>
      have gg : ps.all (gdP k) = true := g
      rw [List.all_eq_true] at gg
      have sl := same_list (k := k) (snap_itemsT s1) (snap_itemsT s2) (fun p x y hp a b => l_sameR_ok k p x y j' (by omega) (by omega) (by omega) (gg p hp) a b) (E := fun x S_1 => NoE x (trunc S S_1)) (P := (kDef S NoE fun d S' fr => d = .bl true ∧ S' = S ∧ fr = false).rt) (by simp [kDef])
      generalize eAnd (eBin vEq (eCallF vLen [eVar 0]) (eCallF vLen [eVar 1])) (eCallF vAll [eCompP [2, 3] (iArgP fZipP [eVar 0, eVar 1]) (gT [gN 2, gN 3]) none (eCallF (m_l_same k) [eVar 2, eVar 3])]) = M at sl ⊢
      have bn : ∀ b : Bool, vNe (.bl b) (.bl b) S = .ok (.bl false) S false := fun b => by rw [vNe_b]; simp
      simp -implicitDefEqProofs only [oks_seq, oks_set, oks_item, oks_if, oks_ret, oks_expr, ok_or, ok_and, ok_not, ok_ebin, ok_eun, ok_bm, ok_callF, ok_meth, ok_lst, ok_tup, ok_slice, ok_part0, ok_part1, ok_thaw, ok_c, oka_cons, oka_nil, ok_var, List.set_cons_succ, List.set_cons_zero, List.getElem?_cons_succ, List.getElem?_cons_zero, Option.some.injEq, Sl.val.injEq, exists_eq_left', D.int.injEq, ok_ok, ok_onB, oks_onS, Bool.not_true, Bool.not_false, if_true, Bool.false_eq_true, if_false, oks_pass, r2, r1, q1, q2, bn]
      rw [if_pos (by simp [tagP]), if_pos (by simp [tagP])]
      exact sl
    | list ps =>
      have gg : ps.all (gdP k) = true := g
      rw [List.all_eq_true] at gg
      have sl := same_list (k := k) (snap_items s1) (snap_items s2) (fun p x y hp a b => l_sameR_ok k p x y j' (by omega) (by omega) (by omega) (gg p hp) a b) (E := fun x S_1 => NoE x (trunc S S_1)) (P := (kDef S NoE fun d S' fr => d = .bl true ∧ S' = S ∧ fr = false).rt) (by simp [kDef])
      generalize eAnd (eBin vEq (eCallF vLen [eVar 0]) (eCallF vLen [eVar 1])) (eCallF vAll [eCompP [2, 3] (iArgP fZipP [eVar 0, eVar 1]) (gT [gN 2, gN 3]) none (eCallF (m_l_same k) [eVar 2, eVar 3])]) = M at sl ⊢
      have bn : ∀ b : Bool, vNe (.bl b) (.bl b) S = .ok (.bl false) S false := fun b => by rw [vNe_b]; simp
      simp -implicitDefEqProofs only [oks_seq, oks_set, oks_item, oks_if, oks_ret, oks_expr, ok_or, ok_and, ok_not, ok_ebin, ok_eun, ok_bm, ok_callF, ok_meth, ok_lst, ok_tup, ok_slice, ok_part0, ok_part1, ok_thaw, ok_c, oka_cons, oka_nil, ok_var, List.set_cons_succ, List.set_cons_zero, List.getElem?_cons_succ, List.getElem?_cons_zero, Option.some.injEq, Sl.val.injEq, exists_eq_left', D.int.injEq, ok_ok, ok_onB, oks_onS, Bool.not_true, Bool.not_false, if_true, Bool.false_eq_true, if_false, oks_pass, r2, r1, q1, q2, bn]
      rw [if_pos (by simp [tagP]), if_pos (by simp [tagP])]
      exact sl
    | bool b => cases g
    | dict b => cases g
end
end G
namespace G
open PySem L2 DL
set_option maxHeartbeats 4000000
/-! ### what is read is the same as what was shown -/
theorem all_strs (k : Nat) : ∀ l : List Str, (l.map PyData.str).all (gdP (k + 1)) = true
  | [] => rfl
  | z :: l => by
    rw [List.map_cons, List.all_cons, all_strs k l]; rfl
theorem gd_pdL (L : Ln) : gdP 6 (pdL L) = true := by
  cases L with
  | parts w ps =>
    show (PyData.str w :: ps.map pdP).all (gdP 5) = true
    rw [List.all_cons]
    show (true && (ps.map pdP).all (gdP 5)) = true
    rw [Bool.true_and, List.all_eq_true]
    intro p hp
    obtain ⟨q, _, rfl⟩ := List.mem_map.mp hp
    cases q <;> rfl
  | mend k o =>
    have h1 : gdP 5 (.list (k.map .str)) = true := all_strs 3 k
    have h2 : gdP 5 (.list (o.map .str)) = true := all_strs 3 o
    show (gdP 5 (.str mendT) && (gdP 5 (.list (k.map .str)) && (gdP 5 (.list (o.map .str)) && true))) = true
    rw [h1, h2]; rfl
section
variable {S : Store}
theorem valL_ln (L : Ln) (S : Store) : LnD L (valL L) S := by
  cases L with
  | parts w ps => exact parts_D
  | mend k o => exact mend_D snap_lstS snap_lstS
theorem read_text {L : Ln} (h : LnOk L) : Ok NoE (m_read_line [.str (textL L)] S) fun d S' _ => MdP S (some L) d S' := by
  have t := textL_ok h
  refine (read_line_ok (by omega) t.1).mono (fun d S' fr ⟨M, e, q⟩ => ?_) fun e S' ⟨e1, _⟩ => ?_
  · rw [lineOf_text h] at e
    cases e
    exact q
  · rw [lineOf_text h] at e1
    cases e1
theorem same_line {L : Ln} {d : D} (h : LnD L d S) : m_l_same 8 [d, valL L] S = .ok (.bl true) S false :=
  l_sameR_ok 8 (pdL L) d (valL L) 49 (by omega) (by omega) (by omega) (gdP_le (by omega) (gd_pdL L)) h.is (valL_ln L S).is
theorem snap_vals (S : Store) : ∀ Ls : List Ln, allSome ((Ls.map valL).map (DL.snap 50 S)) = some (Ls.map pdL)
  | [] => rfl
  | L :: Ls => by
    rw [List.map_cons, List.map_cons, (valL_ln L S).is]
    show (allSome ((Ls.map valL).map (DL.snap 50 S))).map (pdL L :: ·) = _
    rw [snap_vals S Ls]; rfl
theorem same_book {Ls : List Ln} {d : D} {n : Nat} (h : DL.snap 51 S d = some (.list (Ls.map pdL))) (h0 : S[n]? = some (.lst (Ls.map valL))) : m_l_same 8 [d, .ref n] S = .ok (.bl true) S false := by
  refine l_sameR_ok 8 (.list (Ls.map pdL)) d (.ref n) 50 (by omega) (by omega) (by omega) ?_ h ?_
  · show (Ls.map pdL).all (gdP 7) = true
    rw [List.all_eq_true]
    intro p hp
    obtain ⟨L, _, rfl⟩ := List.mem_map.mp hp
    exact gdP_le (by omega) (gd_pdL L)
  · exact snap_ds h0 (snap_vals S Ls)
theorem bookT_ok {Ls : List Ln} (h : ∀ L ∈ Ls, LnOk L) (few : Ls.length ≤ 1000) : TOk (bookT Ls) ∧ (bookT Ls).length ≤ 100000 := by
  have tl := tot_le84 (ps := Ls.map textL) (k := 99) fun p hp => by
    obtain ⟨L, hM, rfl⟩ := List.mem_map.mp hp
    exact (textL_ok (h L hM)).2.1
  rw [List.length_map] at tl
  refine ⟨join_TOk nl_TOk fun p hp => ?_, Nat.le_trans (join_tot nl_len _) (by omega)⟩
  obtain ⟨L, hM, rfl⟩ := List.mem_map.mp hp
  exact (textL_ok (h L hM)).1
theorem read_bookT {Ls : List Ln} (h : ∀ L ∈ Ls, LnOk L) (few : Ls.length ≤ 1000) : Ok NoE (m_read_book [.str (bookT Ls)] S) fun d S' fr => DL.snap 51 S' d = some (.list (Ls.map pdL)) ∧ Grw S S' ∧ BkD S Ls d S' fr := by
  have t := bookT_ok h few
  refine (read_book_ok (by omega) t.1).mono (fun d S' fr ⟨M, e, q⟩ => ?_) fun e S' ⟨k, e1, _⟩ => ?_
  · rw [bookL_text h] at e
    cases e
    exact ⟨q.1, q.2.1, q.2.2.2⟩
  · rw [bookL_text h] at e1
    cases e1
/-- what is read can be spoilt -/
theorem MdD.sp {k f : Nat} {L : Ln} {d : D} (h : LnOk L) (q : MdD k L d S) (hf : ∀ j, k ≤ j → j < S.length → j ≠ f) : SpD k f 10 d S := by
  obtain ⟨a, b, ks, os, rfl, rfl, ⟨h1, h2⟩, h3, h4⟩ := q
  obtain ⟨⟨_, lk⟩, _, lo⟩ := h
  exact .inl ⟨a, b, _, _, rfl, ⟨h1, h2⟩, ⟨hf a h1 (List.getElem?_eq_some_iff.mp h3).1, hf b h2 (List.getElem?_eq_some_iff.mp h4).1⟩, ⟨h3, h4⟩, by rw [List.length_map]; omega, by rw [List.length_map]; omega⟩
end
end G
namespace G
open PySem L2 DL
set_option maxHeartbeats 4000000
/-! ### the book's own text -/
section
variable {S : Store}
theorem pyDs_map {α : Type} {f : D → Option PyData} {g : α → D} {h : α → PyData} : ∀ l : List α, (∀ x ∈ l, f (g x) = some (h x)) → pyDs f (l.map g) = some (l.map h)
  | [], _ => rfl
  | x :: l, k => by
    rw [List.map_cons, List.map_cons]
    unfold pyDs
    rw [k x List.mem_cons_self, pyDs_map l fun y hy => k y (List.mem_cons_of_mem _ hy)]
theorem num_low {f : Fm} {k : Nat} (h : PtOk f (.n k)) : k < 1000000 := by cases f <;> first | exact h | exact h.elim
theorem py_pt {f : Fm} {p : Pt} {k : Nat} (h : PtOk f p) : pyD S (k + 1) (valP p) = some (pdP p) := by
  cases p with
  | s z => rfl
  | any => rfl
  | n j =>
    have := num_low h
    show (if ((j : Nat) : Int).natAbs < 1000000000 then some (PyData.int j) else none) = _
    rw [if_pos (by omega)]; rfl
theorem py_line {L : Ln} (h : LnOk L) : pyD S 7 (valL L) = some (pdL L) := by
  cases L with
  | parts w ps =>
    obtain ⟨fs, _, hp⟩ := h
    show (pyDs (pyD S 6) (.str w :: ps.map valP)).map PyData.tuple = _
    have e := pyDs_map (f := pyD S 6) (g := valP) (h := pdP) (.s w :: ps) fun p hq => by
      rcases List.mem_cons.mp hq with rfl | hq
      · rfl
      · obtain ⟨f, hf⟩ := hp.mem p hq
        exact py_pt hf
    have e : pyDs (pyD S 6) (.str w :: ps.map valP) = some (.str w :: ps.map pdP) := e
    rw [e]; rfl
  | mend k o =>
    have e : ∀ l : List Str, pyD S 6 (.lst (l.map .str)) = some (.list (l.map .str)) := fun l => by
      show (pyDs (pyD S 5) (l.map D.str)).map PyData.list = _
      rw [pyDs_map (f := pyD S 5) (g := D.str) (h := PyData.str) l fun z _ => rfl]; rfl
    show (pyDs (pyD S 6) [.str mendT, .lst (k.map .str), .lst (o.map .str)]).map PyData.tuple = _
    have e3 : pyDs (pyD S 6) [.str mendT, .lst (k.map .str), .lst (o.map .str)] = some [.str mendT, .list (k.map .str), .list (o.map .str)] := by
      simp only [pyDs, e]; rfl
    rw [e3]; rfl
theorem py_book {Ls : List Ln} {n : Nat} (h : ∀ L ∈ Ls, LnOk L) (h0 : S[n]? = some (.lst (Ls.map valL))) : pyD S 8 (.ref n) = some (.list (Ls.map pdL)) := by
  show (match S[n]? with
    | some (.lst xs) => (pyDs (pyD S 7) xs).map PyData.list
    | _ => none) = _
  rw [h0]
  show (pyDs (pyD S 7) (Ls.map valL)).map PyData.list = _
  rw [pyDs_map (f := pyD S 7) (g := valL) (h := pdL) Ls fun L hM => py_line (h L hM)]; rfl
theorem ok_pt {f : Fm} {p : Pt} {k : Nat} (h : PtOk f p) : okP (k + 1) (pdP p) = true := by
  cases p with
  | s z => exact (wordP_ok h).1
  | any => rfl
  | n j =>
    have := num_low h
    show decide (((j : Nat) : Int).natAbs < 1000000000) = true
    exact decide_eq_true (by omega)
theorem ok_strs {k : Nat} {l : List Str} (h : ∀ z ∈ l, NameOk z) : okP (k + 2) (.list (l.map .str)) = true := by
  show (l.map PyData.str).all (okP (k + 1)) = true
  rw [List.all_eq_true]
  intro p hp
  obtain ⟨z, hz, rfl⟩ := List.mem_map.mp hp
  exact (nameT (h z hz)).1
theorem ok_line {L : Ln} (h : LnOk L) : okP 7 (pdL L) = true := by
  cases L with
  | parts w ps =>
    obtain ⟨fs, hf, hp⟩ := h
    show (PyData.str w :: ps.map pdP).all (okP 6) = true
    rw [List.all_eq_true]
    intro p hq
    rcases List.mem_cons.mp hq with rfl | hq
    · exact (form_word hf).1.1
    · obtain ⟨q, hq', rfl⟩ := List.mem_map.mp hq
      obtain ⟨f, hf'⟩ := hp.mem q hq'
      exact ok_pt hf'
  | mend k o =>
    obtain ⟨⟨hk, _⟩, ho, _⟩ := h
    show (okP 6 (.str mendT) && (okP 6 (.list (k.map .str)) && (okP 6 (.list (o.map .str)) && true))) = true
    rw [ok_strs hk, ok_strs ho, show okP 6 (.str mendT) = true by show PyData.strOk mendT = true; decide +kernel]; rfl
theorem weight_all {b : Nat} : ∀ xs : List PyData, (∀ x ∈ xs, x.weight ≤ b) → PyData.weightAll xs ≤ xs.length * (b + 1)
  | [], _ => by simp [PyData.weightAll]
  | x :: xs, h => by
    have h1 := h x List.mem_cons_self
    have h2 := weight_all xs fun y hy => h y (List.mem_cons_of_mem _ hy)
    simp only [PyData.weightAll, List.length_cons, Nat.succ_mul]
    omega
theorem weight_str (z : Str) : (PyData.str z).weight = z.length := by simp [PyData.weight, Str.length]
theorem weight_line {L : Ln} (h : LnOk L) : (pdL L).weight ≤ 200 := by
  cases L with
  | parts w ps =>
    obtain ⟨fs, hf, hp⟩ := h
    have fw := form_word hf
    have fl := formOf_len hf
    obtain ⟨h1, h2⟩ := words_ok hp
    have := weight_all (b := 20) (.str w :: ps.map pdP) fun x hx => by
      rcases List.mem_cons.mp hx with rfl | hx
      · rw [weight_str]; have := fw.1.2; omega
      · obtain ⟨p, hp', rfl⟩ := List.mem_map.mp hx
        obtain ⟨f, hf'⟩ := hp.mem p hp'
        cases p with
        | any => simp [pdP, PyData.weight]
        | s z =>
          have := (wordP_ok hf').2
          show (PyData.str z).weight ≤ 20
          rw [weight_str]
          have : z.length ≤ 8 := this
          omega
        | n j =>
          have hj := num_low hf'
          show (PyData.int j).weight ≤ 20
          unfold PyData.weight
          split
          · omega
          · rename_i hz
            have hz : ¬ ((j : Nat) : Int) = 0 := by simpa using hz
            have : ((j : Nat) : Int).natAbs = j := by omega
            rw [this]
            have := (Nat.log2_lt (n := j) (k := 20) (by omega)).mpr (by omega)
            omega
    show PyData.weightAll (.str w :: ps.map pdP) ≤ 200
    simp at this ⊢
    omega
  | mend k o =>
    obtain ⟨⟨hk, lk⟩, ho, lo⟩ := h
    have w : ∀ l : List Str, (∀ z ∈ l, NameOk z) → l.length ≤ 4 → PyData.weightAll (l.map .str) ≤ 36 := fun l hl h4 => by
      have := weight_all (b := 8) (l.map PyData.str) fun x hx => by
        obtain ⟨z, hz, rfl⟩ := List.mem_map.mp hx
        rw [weight_str]; exact (hl z hz).2.2
      rw [List.length_map] at this
      omega
    have w1 := w k hk lk
    have w2 := w o ho lo
    have w3 : mendT.length = 4 := by decide +kernel
    have w4 := weight_str mendT
    show PyData.weightAll [.str mendT, .list (k.map .str), .list (o.map .str)] ≤ 200
    simp only [PyData.weightAll, w4, w3]
    simp only [PyData.weight]
    omega
theorem str_book {Ls : List Ln} {n : Nat} (h : ∀ L ∈ Ls, LnOk L) (few : Ls.length ≤ 100) (h0 : S[n]? = some (.lst (Ls.map valL))) : vStrG [.ref n] S = .ok (.str (PyData.list (Ls.map pdL)).shown) S false := by
  refine vStrG_is (fun _ e => by cases e) (fun e => by cases e) (fun _ e => by cases e) (fun _ e => by cases e) (py_book h h0) 8 ?_ ?_
  · show (Ls.map pdL).all (okP 7) = true
    rw [List.all_eq_true]
    intro p hp
    obtain ⟨L, hM, rfl⟩ := List.mem_map.mp hp
    exact ok_line (h L hM)
  · have := weight_all (b := 200) (Ls.map pdL) fun x hx => by
      obtain ⟨L, hM, rfl⟩ := List.mem_map.mp hx
      exact weight_line (h L hM)
    rw [List.length_map] at this
    show PyData.weightAll (Ls.map pdL) ≤ 60000
    omega
theorem SpD.app {k f m : Nat} {d : D} {T : Store} (h : SpD k f m d S) : SpD k f m d (S ++ T) := by
  rcases h with ⟨a, b, xa, xb, e, h1, h2, ⟨h3, h4⟩, h5, h6⟩ | h
  · exact .inl ⟨a, b, xa, xb, e, h1, h2, ⟨by rw [List.getElem?_append_left (List.getElem?_eq_some_iff.mp h3).1]; exact h3, by rw [List.getElem?_append_left (List.getElem?_eq_some_iff.mp h4).1]; exact h4⟩, h5, h6⟩
  · exact .inr h
theorem read_sp {S' : Store} {L : Ln} {d : D} (h : LnOk L) (q : MdP S (some L) d S') : SpD S.length S'.length 10 d S' := by
  rcases q.2 with q2 | ⟨rfl, q2⟩
  · exact q2.sp h fun j _ hj e => by omega
  · exact .inr ⟨L, q2⟩
/-- one line: drawn, shown, read, spoilt, read again, put into the book -/
theorem line82 {K : KB} {Ls : List Ln} {c : Int} {e0 e3 e4 e5 e6 e7 e8 e9 e10 : Sl} (h0 : S[0]? = some (.lst (Ls.map valL))) (few : Ls.length ≤ 100)
    (k : ∀ L e3 e6 e7 e8 e9 e10 S', LnOk L → S'[0]? = some (.lst ((Ls ++ [L]).map valL)) → K.nx [e0, .val (.ref 0), .val (.int c), e3, e4, e5, e6, e7, e8, e9, e10] S') :
    OkS K (m_law_b1 [e0, .val (.ref 0), .val (.int c), e3, e4, e5, e6, e7, e8, e9, e10] S) := by
  unfold m_law_b1
  simp -implicitDefEqProofs only [oks_seq, oks_set, oks_item, oks_if, oks_ret, oks_expr, ok_or, ok_and, ok_not, ok_ebin, ok_eun, ok_bm, ok_callF, ok_meth, ok_lst, ok_tup, ok_slice, ok_part0, ok_part1, ok_thaw, ok_c, oka_cons, oka_nil, ok_var, List.set_cons_succ, List.set_cons_zero, List.getElem?_cons_succ, List.getElem?_cons_zero, Option.some.injEq, Sl.val.injEq, exists_eq_left', D.int.injEq, ok_ok, ok_onB, oks_onS, Bool.not_true, Bool.not_false, if_true, Bool.false_eq_true, if_false, oks_pass]
  refine digits_ok.call fun d S0 fr q => ?_
  obtain ⟨j, rfl, rfl, rfl⟩ := q
  rw [thaw_lst, ok_ok]
  have l0 : 0 < S0.length := (List.getElem?_eq_some_iff.mp h0).1
  have hs0 := src_new (S := S0) (j := j) (i := c)
  have h1 : (S0 ++ [O.lst [.int j, .int c, .int 0]])[0]? = some (.lst (Ls.map valL)) := by rw [List.getElem?_append_left l0]; exact h0
  generalize S0 ++ [O.lst [.int j, .int c, .int 0]] = S1 at hs0 h1
  simp -implicitDefEqProofs only [oks_seq, oks_set, oks_item, oks_if, oks_ret, oks_expr, ok_or, ok_and, ok_not, ok_ebin, ok_eun, ok_bm, ok_callF, ok_meth, ok_lst, ok_tup, ok_slice, ok_part0, ok_part1, ok_thaw, ok_c, oka_cons, oka_nil, ok_var, List.set_cons_succ, List.set_cons_zero, List.getElem?_cons_succ, List.getElem?_cons_zero, Option.some.injEq, Sl.val.injEq, exists_eq_left', D.int.injEq, ok_ok, ok_onB, oks_onS, Bool.not_true, Bool.not_false, if_true, Bool.false_eq_true, if_false, oks_pass]
  refine (namesx_ok hs0 (by omega) (by omega)).call fun d S2 fr q => ?_
  obtain ⟨zs, rfl, zl, -, hn, a2⟩ := q
  have h2 := (a2.low l0).trans h1
  have s2 := a2.src hs0
  simp -implicitDefEqProofs only [oks_seq, oks_set, oks_item, oks_if, oks_ret, oks_expr, ok_or, ok_and, ok_not, ok_ebin, ok_eun, ok_bm, ok_callF, ok_meth, ok_lst, ok_tup, ok_slice, ok_part0, ok_part1, ok_thaw, ok_c, oka_cons, oka_nil, ok_var, List.set_cons_succ, List.set_cons_zero, List.getElem?_cons_succ, List.getElem?_cons_zero, Option.some.injEq, Sl.val.injEq, exists_eq_left', D.int.injEq, ok_ok, ok_onB, oks_onS, Bool.not_true, Bool.not_false, if_true, Bool.false_eq_true, if_false, oks_pass]
  refine (l_line_ok s2 (by omega) (by omega) hn).call fun d S3 fr q => ?_
  obtain ⟨L, rfl, hL, a3⟩ := q
  have h3 := (a3.low l0).trans h2
  have lt := l_line_text_ok (S := S3) hL
  have sl := show_line_ok (S := S3) hL (valL_sh L S3)
  have is : vIsi .str (.str (textL L)) S3 = .ok (.bl true) S3 false := rfl
  simp -implicitDefEqProofs only [oks_seq, oks_set, oks_item, oks_if, oks_ret, oks_expr, ok_or, ok_and, ok_not, ok_ebin, ok_eun, ok_bm, ok_callF, ok_meth, ok_lst, ok_tup, ok_slice, ok_part0, ok_part1, ok_thaw, ok_c, oka_cons, oka_nil, ok_var, List.set_cons_succ, List.set_cons_zero, List.getElem?_cons_succ, List.getElem?_cons_zero, Option.some.injEq, Sl.val.injEq, exists_eq_left', D.int.injEq, ok_ok, ok_onB, oks_onS, Bool.not_true, Bool.not_false, if_true, Bool.false_eq_true, if_false, oks_pass, lt, sl, is, vNe_s]
  rw [if_neg (by simp)]
  refine (read_text hL).call fun d S4 fr q4 => ?_
  simp -implicitDefEqProofs only [oks_seq, oks_set, oks_item, oks_if, oks_ret, oks_expr, ok_or, ok_and, ok_not, ok_ebin, ok_eun, ok_bm, ok_callF, ok_meth, ok_lst, ok_tup, ok_slice, ok_part0, ok_part1, ok_thaw, ok_c, oka_cons, oka_nil, ok_var, List.set_cons_succ, List.set_cons_zero, List.getElem?_cons_succ, List.getElem?_cons_zero, Option.some.injEq, Sl.val.injEq, exists_eq_left', D.int.injEq, ok_ok, ok_onB, oks_onS, Bool.not_true, Bool.not_false, if_true, Bool.false_eq_true, if_false, oks_pass, same_line q4.el]
  refine (read_text hL).call fun d5 S5 fr q5 => ?_
  simp -implicitDefEqProofs only [oks_seq, oks_set, oks_item, oks_if, oks_ret, oks_expr, ok_or, ok_and, ok_not, ok_ebin, ok_eun, ok_bm, ok_callF, ok_meth, ok_lst, ok_tup, ok_slice, ok_part0, ok_part1, ok_thaw, ok_c, oka_cons, oka_nil, ok_var, List.set_cons_succ, List.set_cons_zero, List.getElem?_cons_succ, List.getElem?_cons_zero, Option.some.injEq, Sl.val.injEq, exists_eq_left', D.int.injEq, ok_ok, ok_onB, oks_onS, Bool.not_true, Bool.not_false, if_true, Bool.false_eq_true, if_false, oks_pass, thaw_lst]
  have sp := (read_sp hL q5).app (T := [O.lst [d5]])
  have hf : (S5 ++ [O.lst [d5]])[S5.length]? = some (.lst [d5]) := by simp
  refine (spoil_ok hf q5.1.len (fun x hx => by rw [List.mem_singleton] at hx; rw [hx]; exact sp) (by simp)).call fun d S6 fr q => ?_
  obtain ⟨rfl, len6, low6⟩ := q
  have l4 : 0 < S4.length := (List.getElem?_eq_some_iff.mp ((q4.1.low 0 (List.getElem?_eq_some_iff.mp h3).1).trans h3)).1
  have h4 := (q4.1.low 0 (List.getElem?_eq_some_iff.mp h3).1).trans h3
  have h5 := (q5.1.low 0 l4).trans h4
  have h6 : S6[0]? = some (.lst (Ls.map valL)) := by
    rw [low6 0 l4, List.getElem?_append_left (List.getElem?_eq_some_iff.mp h5).1]; exact h5
  simp -implicitDefEqProofs only [oks_seq, oks_set, oks_item, oks_if, oks_ret, oks_expr, ok_or, ok_and, ok_not, ok_ebin, ok_eun, ok_bm, ok_callF, ok_meth, ok_lst, ok_tup, ok_slice, ok_part0, ok_part1, ok_thaw, ok_c, oka_cons, oka_nil, ok_var, List.set_cons_succ, List.set_cons_zero, List.getElem?_cons_succ, List.getElem?_cons_zero, Option.some.injEq, Sl.val.injEq, exists_eq_left', D.int.injEq, ok_ok, ok_onB, oks_onS, Bool.not_true, Bool.not_false, if_true, Bool.false_eq_true, if_false, oks_pass]
  refine (read_text hL).call fun d7 S7 fr q7 => ?_
  have h7 := (q7.1.low 0 (List.getElem?_eq_some_iff.mp h6).1).trans h6
  have sl7 := show_line_ok (S := S7) hL q7.elD.sh
  simp -implicitDefEqProofs only [oks_seq, oks_set, oks_item, oks_if, oks_ret, oks_expr, ok_or, ok_and, ok_not, ok_ebin, ok_eun, ok_bm, ok_callF, ok_meth, ok_lst, ok_tup, ok_slice, ok_part0, ok_part1, ok_thaw, ok_c, oka_cons, oka_nil, ok_var, List.set_cons_succ, List.set_cons_zero, List.getElem?_cons_succ, List.getElem?_cons_zero, Option.some.injEq, Sl.val.injEq, exists_eq_left', D.int.injEq, ok_ok, ok_onB, oks_onS, Bool.not_true, Bool.not_false, if_true, Bool.false_eq_true, if_false, oks_pass, sl7, vNe_s]
  rw [if_neg (by simp)]
  refine (read_text hL).call fun d8 S8 fr q8 => ?_
  have h8 := (q8.1.low 0 (List.getElem?_eq_some_iff.mp h7).1).trans h7
  have ap := vAppend_ref (S := S8) (y := valL L) h8 (by rw [List.length_map]; omega)
  simp -implicitDefEqProofs only [oks_seq, oks_set, oks_item, oks_if, oks_ret, oks_expr, ok_or, ok_and, ok_not, ok_ebin, ok_eun, ok_bm, ok_callF, ok_meth, ok_lst, ok_tup, ok_slice, ok_part0, ok_part1, ok_thaw, ok_c, oka_cons, oka_nil, ok_var, List.set_cons_succ, List.set_cons_zero, List.getElem?_cons_succ, List.getElem?_cons_zero, Option.some.injEq, Sl.val.injEq, exists_eq_left', D.int.injEq, ok_ok, ok_onB, oks_onS, Bool.not_true, Bool.not_false, if_true, Bool.false_eq_true, if_false, oks_pass, same_line q8.el, ap]
  refine ⟨isLst_ref h8, ?_⟩
  refine k L _ _ _ _ _ _ _ hL ?_
  rw [List.getElem?_set_self (List.getElem?_eq_some_iff.mp h8).1, List.map_append]; rfl
theorem SpD.le {k j f m : Nat} {d : D} (h : SpD k f m d S) (hj : j ≤ k) : SpD j f m d S := by
  rcases h with ⟨a, b, xa, xb, e, ⟨h1, h2⟩, h3⟩ | h
  · exact .inl ⟨a, b, xa, xb, e, ⟨by omega, by omega⟩, h3⟩
  · exact .inr h
theorem Els.each {k : Nat} : ∀ {Ls : List Ln} {ds : List D}, Els k S Ls ds → ∀ d ∈ ds, ∃ L ∈ Ls, ElD k L d S
  | _, _, .nil, d, h => by cases h
  | _, _, .cons (L := L) h r, d, hd => by
    rcases List.mem_cons.mp hd with rfl | hd
    · exact ⟨L, List.mem_cons_self, h⟩
    · obtain ⟨M, hM, q⟩ := r.each d hd
      exact ⟨M, List.mem_cons_of_mem _ hM, q⟩
/-- a book that is read, as a list of its own -/
theorem found82 {Ls : List Ln} {env : Env'} (hL : ∀ L ∈ Ls, LnOk L) (few : Ls.length ≤ 100) (h3 : env[3]? = some (.val (.str (bookT Ls)))) : Ok NoE (eThaw (eCallF m_read_book [eVar 3]) env S) fun d S2 _ =>
    ∃ f ds, d = .ref f ∧ S2[f]? = some (.lst ds) ∧ Grw S S2 ∧ S.length ≤ f ∧ (∀ x ∈ ds, SpD S.length f 10 x S2) ∧ ds.length = Ls.length ∧ DL.snap 51 S2 (.ref f) = some (.list (Ls.map pdL)) := by
  simp -implicitDefEqProofs only [oks_seq, oks_set, oks_item, oks_if, oks_ret, oks_expr, ok_or, ok_and, ok_not, ok_ebin, ok_eun, ok_bm, ok_callF, ok_meth, ok_lst, ok_tup, ok_slice, ok_part0, ok_part1, ok_thaw, ok_c, oka_cons, oka_nil, ok_var, List.set_cons_succ, List.set_cons_zero, List.getElem?_cons_succ, List.getElem?_cons_zero, Option.some.injEq, Sl.val.injEq, exists_eq_left', D.int.injEq, ok_ok, ok_onB, oks_onS, Bool.not_true, Bool.not_false, if_true, Bool.false_eq_true, if_false, oks_pass, h3]
  refine (read_bookT hL (by omega)).call fun d S1 fr q => ?_
  obtain ⟨sn, g, ⟨ds, rfl, rfl, rfl, he⟩ | ⟨ds, rfl, hd, he⟩⟩ := q
  · rw [thaw_lst, ok_ok]
    have hf : (S1 ++ [O.lst ds])[S1.length]? = some (.lst ds) := by simp
    refine ⟨S1.length, ds, rfl, hf, Grw.app _ _, Nat.le_refl _, fun x hx => ?_, (he 0 []).len, snap_ds hf (he 0 _).snap⟩
    obtain ⟨L, _, q⟩ := (he 0 []).each x hx
    rcases q with ⟨a, b, ks, os, _, _, _, h1, _⟩ | q
    · simp at h1
    · exact .inr ⟨L, q⟩
  · show Ok NoE (.ok (.ref S.length) S1 false) _
    rw [ok_ok]
    refine ⟨S.length, ds, rfl, hd, g, Nat.le_refl _, fun x hx => ?_, he.len, snap_ds hd he.snap⟩
    obtain ⟨L, hM, q⟩ := he.each x hx
    rcases q with q | q
    · exact (q.sp (hL L hM) fun j hj _ e => by omega).le (Nat.le_succ _)
    · exact .inr ⟨L, q⟩
/-- one turn: the book is read, shown, held against what was, spoilt -/
theorem turn82 {K : KB} {Ls : List Ln} {e0 e2 e5 e6 e7 e8 e9 e10 : Sl} (hL : ∀ L ∈ Ls, LnOk L) (few : Ls.length ≤ 100) (h0 : S[0]? = some (.lst (Ls.map valL)))
    (k : ∀ e10 S', S'[0]? = some (.lst (Ls.map valL)) → K.nx [e0, .val (.ref 0), e2, .val (.str (bookT Ls)), .val (.str (PyData.list (Ls.map pdL)).shown), e5, e6, e7, e8, e9, e10] S') :
    OkS K (m_law_b2 [e0, .val (.ref 0), e2, .val (.str (bookT Ls)), .val (.str (PyData.list (Ls.map pdL)).shown), e5, e6, e7, e8, e9, e10] S) := by
  unfold m_law_b2
  simp only [oks_seq, oks_set]
  refine (found82 hL (by omega) rfl).call fun d S2 fr q => ?_
  obtain ⟨f, ds, rfl, hf, g, lf, sp, ld, sn⟩ := q
  have l0 := (List.getElem?_eq_some_iff.mp h0).1
  have h2 := (g.low 0 l0).trans h0
  have sb := show_book_ok (S := S2) (items_ref h2) h2 hL (by omega)
  have st := str_book (S := S2) hL few h2
  have il := isl_ref hf
  have sm := same_book (S := S2) sn h2
  simp -implicitDefEqProofs only [oks_seq, oks_set, oks_item, oks_if, oks_ret, oks_expr, ok_or, ok_and, ok_not, ok_ebin, ok_eun, ok_bm, ok_callF, ok_meth, ok_lst, ok_tup, ok_slice, ok_part0, ok_part1, ok_thaw, ok_c, oka_cons, oka_nil, ok_var, List.set_cons_succ, List.set_cons_zero, List.getElem?_cons_succ, List.getElem?_cons_zero, Option.some.injEq, Sl.val.injEq, exists_eq_left', D.int.injEq, ok_ok, ok_onB, oks_onS, Bool.not_true, Bool.not_false, if_true, Bool.false_eq_true, if_false, oks_pass, sb, st, il, sm, vNe_s]
  rw [if_neg (by simp), if_neg (by simp)]
  refine (spoil_ok hf lf sp (by omega)).call fun d S3 fr q => ?_
  obtain ⟨rfl, len3, low3⟩ := q
  exact k _ S3 ((low3 0 l0).trans h2)
end
theorem law_true : ∀ ns : List Int, ns.length ≤ 63 → ∃ S fr, G.m_law [.scr ns] [] = .ok (.bl true) S fr := by
  intro ns hl
  refine law_of ?_
  unfold m_law; rw [ok_def]
  have hcut : ∀ S, vSlice (.scr ns) none (some 30) S = .ok (.lst (cutD (ns.map .int) none (some 30))) S true := fun S => rfl
  simp -implicitDefEqProofs only [kDef, List.map_cons, List.map_nil, List.replicate, List.cons_append, List.nil_append]
  simp -implicitDefEqProofs only [oks_seq, oks_set, oks_item, oks_if, oks_ret, oks_expr, ok_or, ok_and, ok_not, ok_ebin, ok_eun, ok_bm, ok_callF, ok_meth, ok_lst, ok_tup, ok_slice, ok_part0, ok_part1, ok_thaw, ok_c, oka_cons, oka_nil, ok_var, List.set_cons_succ, List.set_cons_zero, List.getElem?_cons_succ, List.getElem?_cons_zero, Option.some.injEq, Sl.val.injEq, exists_eq_left', D.int.injEq, ok_ok, ok_onB, oks_onS, Bool.not_true, Bool.not_false, if_true, Bool.false_eq_true, if_false, oks_pass, thaw_lst, oks_sfor, oki_val, hcut]
  refine ⟨_, none, rfl, ?_⟩
  have hit := items_int (ns := ns) (lo := none) (hi := some 30)
  have hlen : (cutD (ns.map D.int) none (some 30)).length ≤ 63 := Nat.le_trans hit.2 hl
  have hi := hit.1
  generalize cutD (ns.map D.int) none (some 30) = cells at hi hlen
  refine oks_for (fun rr env S' => (∀ x ∈ rr, ∃ i, x = .int i) ∧ ∃ (Ls : List Ln) (e0 e2 e3 e4 e5 e6 e7 e8 e9 e10 : Sl), env = [e0, .val (.ref 0), e2, e3, e4, e5, e6, e7, e8, e9, e10] ∧ S'[0]? = some (.lst (Ls.map valL)) ∧ (∀ L ∈ Ls, LnOk L) ∧ Ls.length + rr.length ≤ 63) ⟨hi, [], _, _, _, _, _, _, _, _, _, _, rfl, rfl, fun _ h => (by cases h), by simpa using hlen⟩ ?_ ?_
  · rintro y rr env S' ⟨hi, Ls, e0, e2, e3, e4, e5, e6, e7, e8, e9, e10, rfl, h0, hL, few⟩
    obtain ⟨i, rfl⟩ := hi y List.mem_cons_self
    rw [List.length_cons] at few
    refine ⟨gdOk_none.mpr trivial, _, rfl, ?_⟩
    simp only [gN, List.set_cons_succ, List.set_cons_zero]
    refine line82 h0 (by omega) fun L f3 f6 f7 f8 f9 f10 S2 hLo h2 => ?_
    refine ⟨fun z hz => hi z (List.mem_cons_of_mem _ hz), Ls ++ [L], _, _, _, _, _, _, _, _, _, _, rfl, h2, fun M hM => ?_, by rw [List.length_append, List.length_singleton]; omega⟩
    rcases List.mem_append.mp hM with h | h
    · exact hL M h
    · rw [List.mem_singleton] at h; subst h; exact hLo
  · rintro env S' ⟨-, Ls, e0, e2, e3, e4, e5, e6, e7, e8, e9, e10, rfl, h0, hL, few⟩
    refine ⟨gdOk_none.mpr trivial, ?_⟩
    have few : Ls.length ≤ 63 := by simpa using few
    simp -implicitDefEqProofs only [oks_seq, oks_set, oks_item, oks_if, oks_ret, oks_expr, ok_or, ok_and, ok_not, ok_ebin, ok_eun, ok_bm, ok_callF, ok_meth, ok_lst, ok_tup, ok_slice, ok_part0, ok_part1, ok_thaw, ok_c, oka_cons, oka_nil, ok_var, List.set_cons_succ, List.set_cons_zero, List.getElem?_cons_succ, List.getElem?_cons_zero, Option.some.injEq, Sl.val.injEq, exists_eq_left', D.int.injEq, ok_ok, ok_onB, oks_onS, Bool.not_true, Bool.not_false, if_true, Bool.false_eq_true, if_false, oks_pass, ok_comp, oki_val]
    refine ⟨rfl, _, _, items_ref h0, ?_⟩
    refine ok_compMM (f := valL) (l := Ls) (fun L => .str (textL L)) h0 (fun L hM => ⟨_, rfl, ?_⟩) ?_
    · have := l_line_text_ok (S := S') (hL L hM)
      simp -implicitDefEqProofs only [oks_seq, oks_set, oks_item, oks_if, oks_ret, oks_expr, ok_or, ok_and, ok_not, ok_ebin, ok_eun, ok_bm, ok_callF, ok_meth, ok_lst, ok_tup, ok_slice, ok_part0, ok_part1, ok_thaw, ok_c, oka_cons, oka_nil, ok_var, List.set_cons_succ, List.set_cons_zero, List.getElem?_cons_succ, List.getElem?_cons_zero, Option.some.injEq, Sl.val.injEq, exists_eq_left', D.int.injEq, ok_ok, ok_onB, oks_onS, Bool.not_true, Bool.not_false, if_true, Bool.false_eq_true, if_false, oks_pass, gN, wipeE, List.foldl_cons, List.foldl_nil, this]
      exact ⟨trivial, trivial⟩
    have e4 : (Ls.map fun L => D.str (textL L)) = (Ls.map textL).map D.str := by rw [List.map_map]; rfl
    have tl := tot_le84 (ps := Ls.map textL) (k := 99) fun p hp => by
      obtain ⟨L, hM, rfl⟩ := List.mem_map.mp hp
      exact (textL_ok (hL L hM)).2.1
    rw [List.length_map] at tl
    have vj := vjoin_ok (S := S') (y := nlS) (ys := Ls.map textL) nl_len (by omega)
    have st := str_book (S := S') hL (by omega) h0
    rw [e4]
    simp -implicitDefEqProofs only [oks_seq, oks_set, oks_item, oks_if, oks_ret, oks_expr, ok_or, ok_and, ok_not, ok_ebin, ok_eun, ok_bm, ok_callF, ok_meth, ok_lst, ok_tup, ok_slice, ok_part0, ok_part1, ok_thaw, ok_c, oka_cons, oka_nil, ok_var, List.set_cons_succ, List.set_cons_zero, List.getElem?_cons_succ, List.getElem?_cons_zero, Option.some.injEq, Sl.val.injEq, exists_eq_left', D.int.injEq, ok_ok, ok_onB, oks_onS, Bool.not_true, Bool.not_false, if_true, Bool.false_eq_true, if_false, oks_pass]
    show Ok _ (vJoin (.str nlS) [.lst ((Ls.map textL).map D.str)] S') _
    rw [vj, ok_ok]
    have r2 : ∀ S, fRng1 [.int 2] S = .ok (rngL 0 2) none S := fun S => by rw [rng1, if_pos (by decide)]; rfl
    simp -implicitDefEqProofs only [oks_seq, oks_set, oks_item, oks_if, oks_ret, oks_expr, ok_or, ok_and, ok_not, ok_ebin, ok_eun, ok_bm, ok_callF, ok_meth, ok_lst, ok_tup, ok_slice, ok_part0, ok_part1, ok_thaw, ok_c, oka_cons, oka_nil, ok_var, List.set_cons_succ, List.set_cons_zero, List.getElem?_cons_succ, List.getElem?_cons_zero, Option.some.injEq, Sl.val.injEq, exists_eq_left', D.int.injEq, ok_ok, ok_onB, oks_onS, Bool.not_true, Bool.not_false, if_true, Bool.false_eq_true, if_false, oks_pass, st, oks_sfor, oki_arg, r2, oki_ok]
    refine oks_rng (n := 2) (fun t env S' => S'[0]? = some (.lst (Ls.map valL)) ∧ ∃ (e0 e2 e5 e6 e7 e8 e9 e10 : Sl), env = [e0, .val (.ref 0), e2, .val (.str (bookT Ls)), .val (.str (PyData.list (Ls.map pdL)).shown), e5, e6, e7, e8, e9, e10]) ⟨h0, _, _, _, _, _, _, _, _, rfl⟩ ?_ ?_
    · rintro t env S2 ht ⟨h2, f0, f2, f5, f6, f7, f8, f9, f10, rfl⟩
      refine ⟨_, rfl, ?_⟩
      simp only [gN, List.set_cons_succ, List.set_cons_zero]
      exact turn82 hL (by omega) h2 fun e S3 h3 => ⟨h3, _, _, _, _, _, _, _, _, rfl⟩
    · rintro env S2 ⟨h2, f0, f2, f5, f6, f7, f8, f9, f10, rfl⟩
      have b0 : bookT [] = Str.ofString "" := by decide +kernel
      have rb := read_bookT (S := S2) (Ls := []) (fun _ h => by cases h) (by simp)
      rw [b0] at rb
      simp -implicitDefEqProofs only [oks_seq, oks_set, oks_item, oks_if, oks_ret, oks_expr, ok_or, ok_and, ok_not, ok_ebin, ok_eun, ok_bm, ok_callF, ok_meth, ok_lst, ok_tup, ok_slice, ok_part0, ok_part1, ok_thaw, ok_c, oka_cons, oka_nil, ok_var, List.set_cons_succ, List.set_cons_zero, List.getElem?_cons_succ, List.getElem?_cons_zero, Option.some.injEq, Sl.val.injEq, exists_eq_left', D.int.injEq, ok_ok, ok_onB, oks_onS, Bool.not_true, Bool.not_false, if_true, Bool.false_eq_true, if_false, oks_pass]
      refine rb.call fun d S3 fr q => ?_
      have sb := show_book_ok (S := S3) (x := .lst []) (Ls := []) (g := none) rfl trivial (fun _ h => by cases h) (by simp)
      rw [b0] at sb
      have v1 : vEq d (.lst []) S3 = .ok (.bl true) S3 false := snap_eq (snap_le (by omega) q.1) (p := .list []) rfl
      have v2 : vEq (.str (Str.ofString "")) (.str (Str.ofString "")) S3 = .ok (.bl true) S3 false := by rw [vEq_s]; simp
      have mk : LnOk (.mend [] []) := ⟨⟨(fun z h => nomatch h), Nat.zero_le _⟩, (fun z h => nomatch h), Nat.zero_le _⟩
      have rl := read_text (S := S3) mk
      have m0 : textL (.mend [] []) = Str.ofString "mend" := by decide +kernel
      rw [m0] at rl
      simp -implicitDefEqProofs only [oks_seq, oks_set, oks_item, oks_if, oks_ret, oks_expr, ok_or, ok_and, ok_not, ok_ebin, ok_eun, ok_bm, ok_callF, ok_meth, ok_lst, ok_tup, ok_slice, ok_part0, ok_part1, ok_thaw, ok_c, oka_cons, oka_nil, ok_var, List.set_cons_succ, List.set_cons_zero, List.getElem?_cons_succ, List.getElem?_cons_zero, Option.some.injEq, Sl.val.injEq, exists_eq_left', D.int.injEq, ok_ok, ok_onB, oks_onS, Bool.not_true, Bool.not_false, if_true, Bool.false_eq_true, if_false, oks_pass, v1, sb, v2]
      refine rl.call fun d4 S4 fr q4 => ?_
      have v3 : vEq d4 (.tup [.str (Str.ofString "mend"), .lst [], .lst []]) S4 = .ok (.bl true) S4 false := snap_eq (snap_le (by omega) q4.el.is) (snap_le (by omega) (valL_ln (.mend [] []) S4).is)
      simp -implicitDefEqProofs only [oks_seq, oks_set, oks_item, oks_if, oks_ret, oks_expr, ok_or, ok_and, ok_not, ok_ebin, ok_eun, ok_bm, ok_callF, ok_meth, ok_lst, ok_tup, ok_slice, ok_part0, ok_part1, ok_thaw, ok_c, oka_cons, oka_nil, ok_var, List.set_cons_succ, List.set_cons_zero, List.getElem?_cons_succ, List.getElem?_cons_zero, Option.some.injEq, Sl.val.injEq, exists_eq_left', D.int.injEq, ok_ok, ok_onB, oks_onS, Bool.not_true, Bool.not_false, if_true, Bool.false_eq_true, if_false, oks_pass, v3]
      exact ok_fin (fun n h => by cases h) (by simp)
end G
namespace G
open PySem L2 DL
set_option maxHeartbeats 4000000
/-! ### the walk -/
structure Tx (K : PySem.W.Frag) (w : World) (mg : Str → Option Value) (cl : Nat → Addr) : Prop where
  nop : True
  b_all : mg "all" = none
  b_bool : mg "bool" = none
  b_enumerate : mg "enumerate" = none
  b_int : mg "int" = none
  b_isinstance : mg "isinstance" = none
  b_len : mg "len" = none
  b_list : mg "list" = none
  b_range : mg "range" = none
  b_str : mg "str" = none
  b_tuple : mg "tuple" = none
  b_zip : mg "zip" = none
  c_LETTERS : CS mg "LETTERS" "abcdefghijklmnopqrstuvwxyz"
  c_MOST_LETTERS : CI mg "MOST_LETTERS" 8
  c_FIGURES : CS mg "FIGURES" "0123456789"
  c_MOST_FIGURES : CI mg "MOST_FIGURES" 6
  u_LETTER_WORDS : CT K mg "LETTER_WORDS" ["ask", "right", "back"]
  c_ANY : CS mg "ANY" "any"
  d_FORMS : KTabT K w mg "FORMS" [("want", ["name", "name", "wish"]), ("leave", ["name", "name"]), ("done", ["name", "name"]), ("come", ["name", "name"]), ("fall", ["name"]), ("cut", ["name", "name"]), ("given", ["name", "name", "number"]), ("sends", ["name", "name", "number", "letter"]), ("lost", ["name", "name", "number", "letter"]), ("anew", ["number", "name"])]
  e_TreeError : ExcOk K mg cl "TreeError" 0
  g_TreeError : mg "TreeError" = some (.ref (cl 0))
  x_NoText : XC K (cl 11) (cl 0)
section
variable {P : Program} {w : World} {K : PySem.W.Frag} {mg : Str → Option Value} {base : Heap} {cl : Nat → Addr} {f : Addr} {fd : FuncData}
theorem ok_NoText_init (F : Fun K "__init__" "NoText.__init__" s_NoText_init f fd) (T : Tx K w mg cl) : FnOk P w K mg base (L2N.CX P w) 1 f fd ["self", "line"] (spXI (cl 11)) :=
  xinit_ok F (by decide +kernel) T.x_NoText fun cdv A outer s H E => pss_cons (ps_expr (pe_teinit T.x_NoText rfl T.g_TreeError (pa_cons (pe_var (i := 0) rfl (Or.inl rfl)) (pa_cons pe_str pa_nil rfl) rfl))) (pss_one (ps_ost (pe_var (i := 0) rfl (Or.inl rfl)) (pe_var (i := 1) rfl (Or.inl rfl))))
theorem ok_l_digits (F : Fun K "_law_digits" "_law_digits" s_l_digits f fd) (T : Tx K w mg cl)  :
  FnOk P w K mg base (L2N.CX P w) 1 f fd ["_law_cell"] (spD ⟨K, cl, none⟩ 1 m_l_digits) :=
  def_okT (N := ["_law_cell"]) F (by decide +kernel) rfl rfl fun cdv A outer s H E hr tk hp nd => (dss_one (ds_ret (de_lst (da_cons (de_bin (op_mulS.or (op_mul.or op_rep)) vMulS_ok (de_bin op_fdivW vFdiv_ok (de_var 0) de_int) (de_bin op_sub vSub_ok de_int (de_bin op_mod vMod_ok (de_var 0) de_int))) (da_cons (de_var 0) (da_cons de_int da_nil))))))
theorem ok_l_mixed (F : Fun K "_law_mixed" "_law_mixed" s_l_mixed f fd) (T : Tx K w mg cl)  :
  FnOk P w K mg base (L2N.CX P w) 1 f fd ["_law_cell", "_law_k"] (spD ⟨K, cl, none⟩ 2 m_l_mixed) :=
  def_okT (N := ["_law_cell", "_law_k", "_law_number"]) F (by decide +kernel) rfl rfl fun cdv A outer s H E hr tk hp nd => (dss_cons (ds_set 2 nd (de_bin op_mod vMod_ok (de_bin (op_mulS.or (op_mul.or op_rep)) vMulS_ok (de_bin op_addU vAdd_ok (de_bin op_addU vAdd_ok (de_bin op_mod vMod_ok (de_var 0) de_int) (de_bin (op_mulS.or (op_mul.or op_rep)) vMulS_ok de_int (de_var 1))) de_int) de_int) de_int))
  (dss_cons (ds_set 2 nd (de_bin op_mod vMod_ok (de_bin (op_mulS.or (op_mul.or op_rep)) vMulS_ok (de_var 2) (de_bin op_addU vAdd_ok (de_bin op_fdivW vFdiv_ok (de_var 2) de_int) de_int)) de_int))
  (dss_cons (ds_set 2 nd (de_bin op_mod vMod_ok (de_bin (op_mulS.or (op_mul.or op_rep)) vMulS_ok (de_var 2) (de_bin op_addU vAdd_ok (de_bin op_addU vAdd_ok (de_bin op_fdivW vFdiv_ok (de_var 2) de_int) de_int) (de_var 1))) de_int))
  (dss_one (ds_ret (de_bin op_mod vMod_ok (de_bin (op_mulS.or (op_mul.or op_rep)) vMulS_ok (de_var 2) (de_bin op_addU vAdd_ok (de_bin op_fdivW vFdiv_ok (de_var 2) de_int) de_int)) de_int))))))
theorem ok_l_next (F : Fun K "_law_next" "_law_next" s_l_next f fd) (T : Tx K w mg cl) (h_l_mixed : DefOk P w K mg base cl 1 "_law_mixed" 2 m_l_mixed) :
  FnOk P w K mg base (L2N.CX P w) 2 f fd ["_law_source", "_law_many"] (spD ⟨K, cl, none⟩ 2 m_l_next) :=
  def_okT (N := ["_law_source", "_law_many", "_law_found"]) F (by decide +kernel) rfl rfl fun cdv A outer s H E hr tk hp nd => (dss_cons (ds_if (dt_cmp op_gt vGt_ok (de_ix (hu1 hr) (de_var 0) de_int) de_int (nomark _)) (dss_cons (ds_set 2 nd (de_bin op_mod vMod_ok (de_ix (hu1 hr) (de_var 0) de_int) (de_var 1)))
  (dss_cons (ds_item (hu1 hr) (de_var 0) de_int (de_bin op_fdivW vFdiv_ok (de_ix (hu1 hr) (de_var 0) de_int) (de_var 1)))
  (dss_one (ds_ret (de_var 2))))) dss_nil)
  (dss_cons (ds_item (hu1 hr) (de_var 0) de_int (de_bin op_addU vAdd_ok (de_ix (hu1 hr) (de_var 0) de_int) de_int))
  (dss_one (ds_ret (de_bin op_mod vMod_ok (de_call h_l_mixed hr (by omega) tk (da_cons (de_ix (hu1 hr) (de_var 0) de_int) (da_cons (de_ix (hu1 hr) (de_var 0) de_int) da_nil))) (de_var 1))))))
theorem ok_l_right_number (F : Fun K "_law_right_number" "_law_right_number" s_l_right_number f fd) (T : Tx K w mg cl) (h_l_next : DefOk P w K mg base cl 2 "_law_next" 2 m_l_next) :
  FnOk P w K mg base (L2N.CX P w) 3 f fd ["_law_source"] (spD ⟨K, cl, none⟩ 1 m_l_right_number) :=
  def_okT (N := ["_law_source"]) F (by decide +kernel) rfl rfl fun cdv A outer s H E hr tk hp nd => (dss_one (ds_ret (de_ix (hu1 hr) (de_lst (da_cons (de_call h_l_next hr (by omega) tk (da_cons (de_var 0) (da_cons de_int da_nil))) (da_cons (de_call h_l_next hr (by omega) tk (da_cons (de_var 0) (da_cons de_int da_nil))) (da_cons (de_call h_l_next hr (by omega) tk (da_cons (de_var 0) (da_cons (de_bin op_pow vPow_ok de_int de_int) da_nil))) (da_cons de_int da_nil))))) (de_call h_l_next hr (by omega) tk (da_cons (de_var 0) (da_cons de_int da_nil))))))
theorem ok_l_line (F : Fun K "_law_line" "_law_line" s_l_line f fd) (T : Tx K w mg cl) (h_l_next : DefOk P w K mg base cl 2 "_law_next" 2 m_l_next) (h_l_right_number : DefOk P w K mg base cl 3 "_law_right_number" 1 m_l_right_number) :
  FnOk P w K mg base (L2N.CX P w) 4 f fd ["_law_source", "_law_names_here"] (spD ⟨K, cl, none⟩ 2 m_l_line) :=
  def_okT (N := ["_law_source", "_law_names_here", "_law_right", "_law_word_here", "_law_lists", "_law_some", "_law_one", "_law_other", "_law_third", "_law_k", "_law_turn"]) F (by decide +kernel) rfl rfl fun cdv A outer s H E hr tk hp nd => (dss_cons (ds_asg (de_comp (own := [("_law_k", 9)]) rfl nd (di_range1 (by rfl) T.b_range (da_cons de_int da_nil)) (blkOk_by (N := ["_law_source", "_law_names_here", "_law_right", "_law_word_here", "_law_lists", "_law_some", "_law_one", "_law_other", "_law_third", "_law_k", "_law_turn"]) (sc := defScope s_l_line) (by decide +kernel)) (fun _ _ _ _ _ => (dg_name 9 nd)) (fun _ _ _ _ _ => .none) (fun _ _ _ _ _ => (de_ix (hu1 hr) (de_var 1) (de_call h_l_next hr (by omega) takesN0 (da_cons (de_var 0) (da_cons (de_callB call_lenU vLen_ok (by rfl) T.b_len (by decide +kernel) (da_cons (de_var 1) da_nil)) da_nil)))))) (dg_tup rfl (dgs_cons (dg_name 6 nd) (dgs_cons (dg_name 7 nd) (dgs_cons (dg_name 8 nd) dgs_nil)))))
  (dss_cons (ds_set 2 nd (de_call h_l_right_number hr (by omega) tk (da_cons (de_var 0) da_nil)))
  (dss_cons (ds_set 3 nd (de_ix (hu1 hr) (de_lst (da_cons de_str (da_cons de_str (da_cons de_str da_nil)))) (de_call h_l_next hr (by omega) tk (da_cons (de_var 0) (da_cons de_int da_nil)))))
  (dss_cons (ds_setLc 4 (own := [("_law_turn", 10)]) rfl nd (di_range1 (by rfl) T.b_range (da_cons de_int da_nil)) (blkOk_by (N := ["_law_source", "_law_names_here", "_law_right", "_law_word_here", "_law_lists", "_law_some", "_law_one", "_law_other", "_law_third", "_law_k", "_law_turn"]) (sc := defScope s_l_line) (by decide +kernel)) (fun _ _ _ _ _ => (dg_name 10 nd)) (fun _ _ _ _ _ => .none) (fun _ _ _ _ _ => (de_comp (own := [("_law_k", 9)]) rfl nd (di_range1 (by rfl) T.b_range (da_cons (de_call h_l_next hr (by omega) takesN0 (da_cons (de_var 0) (da_cons de_int da_nil))) da_nil)) (blkOk_by (N := ["_law_source", "_law_names_here", "_law_right", "_law_word_here", "_law_lists", "_law_some", "_law_one", "_law_other", "_law_third", "_law_k", "_law_turn"]) (sc := relS _ (defScope s_l_line)) (by decide +kernel)) (fun _ _ _ _ _ => (dg_name 9 nd)) (fun _ _ _ _ _ => .none) (fun _ _ _ _ _ => (de_ix (hu1 hr) (de_var 1) (de_call h_l_next hr (by omega) takesN0 (da_cons (de_var 0) (da_cons (de_callB call_lenU vLen_ok (by rfl) T.b_len (by decide +kernel) (da_cons (de_var 1) da_nil)) da_nil))))))))
  (dss_cons (ds_set 5 nd (de_lst (da_cons (de_tup (da_cons de_str (da_cons (de_var 6) (da_cons (de_var 7) (da_cons (de_var 2) da_nil))))) (da_cons (de_tup (da_cons de_str (da_cons (de_var 6) (da_cons (de_var 7) (da_cons de_non da_nil))))) (da_cons (de_tup (da_cons de_str (da_cons (de_var 6) (da_cons (de_var 7) da_nil)))) (da_cons (de_tup (da_cons de_str (da_cons (de_var 6) (da_cons (de_var 7) da_nil)))) da_nil))))))
  (dss_cons (ds_set 5 nd (de_bin op_addU vAdd_ok (de_var 5) (de_lst (da_cons (de_tup (da_cons de_str (da_cons (de_var 6) (da_cons (de_var 7) da_nil)))) (da_cons (de_tup (da_cons de_str (da_cons (de_var 6) da_nil))) (da_cons (de_tup (da_cons de_str (da_cons (de_var 6) (da_cons (de_var 7) da_nil)))) (da_cons (de_tup (da_cons de_str (da_cons (de_ix (hu1 hr) (de_var 4) de_int) (da_cons (de_ix (hu1 hr) (de_var 4) de_int) da_nil)))) da_nil)))))))
  (dss_cons (ds_set 5 nd (de_bin op_addU vAdd_ok (de_var 5) (de_lst (da_cons (de_tup (da_cons de_str (da_cons (de_var 6) (da_cons (de_var 8) (da_cons (de_var 2) da_nil))))) (da_cons (de_tup (da_cons de_str (da_cons (de_var 6) (da_cons (de_var 7) (da_cons (de_var 2) (da_cons (de_var 3) da_nil)))))) (da_cons (de_tup (da_cons de_str (da_cons (de_var 6) (da_cons (de_var 7) (da_cons (de_var 2) (da_cons (de_var 3) da_nil)))))) da_nil))))))
  (dss_one (ds_ret (de_ix (hu1 hr) (de_bin op_addU vAdd_ok (de_var 5) (de_lst (da_cons (de_tup (da_cons de_str (da_cons (de_var 2) (da_cons (de_var 6) da_nil)))) da_nil))) (de_call h_l_next hr (by omega) tk (da_cons (de_var 0) (da_cons de_int da_nil)))))))))))))
theorem ok_l_line_text (F : Fun K "_law_line_text" "_law_line_text" s_l_line_text f fd) (T : Tx K w mg cl)  :
  FnOk P w K mg base (L2N.CX P w) 1 f fd ["_law_line_here"] (spD ⟨K, cl, none⟩ 1 m_l_line_text) :=
  def_okT (N := ["_law_line_here", "_law_words", "_law_name", "_law_part"]) F (by decide +kernel) rfl rfl fun cdv A outer s H E hr tk hp nd => (dss_cons (ds_set 1 nd (de_lst (da_cons (de_ix (hu1 hr) (de_var 0) de_int) da_nil)))
  (dss_cons (ds_if (dt_cmp (op_eqD (hu64 hr)) vEq_ok (de_ix (hu1 hr) (de_var 0) de_int) de_str (nomark _)) (dss_one (ds_set 1 nd (de_bin op_addU vAdd_ok (de_bin op_addU vAdd_ok (de_var 1) (de_comp (own := [("_law_name", 2)]) rfl nd (di_val (de_ix (hu1 hr) (de_var 0) de_int)) (blkOk_by (N := ["_law_line_here", "_law_words", "_law_name", "_law_part"]) (sc := defScope s_l_line_text) (by decide +kernel)) (fun _ _ _ _ _ => (dg_name 2 nd)) (fun _ _ _ _ _ => .none) (fun _ _ _ _ _ => (de_bin op_addU vAdd_ok de_str (de_var 2))))) (de_comp (own := [("_law_name", 2)]) rfl nd (di_val (de_ix (hu1 hr) (de_var 0) de_int)) (blkOk_by (N := ["_law_line_here", "_law_words", "_law_name", "_law_part"]) (sc := defScope s_l_line_text) (by decide +kernel)) (fun _ _ _ _ _ => (dg_name 2 nd)) (fun _ _ _ _ _ => .none) (fun _ _ _ _ _ => (de_bin op_addU vAdd_ok de_str (de_var 2))))))) (dss_one (ds_set 1 nd (de_bin op_addU vAdd_ok (de_var 1) (de_comp (own := [("_law_part", 3)]) rfl nd (di_val (de_slice (de_var 0) (.some de_int) .none)) (blkOk_by (N := ["_law_line_here", "_law_words", "_law_name", "_law_part"]) (sc := defScope s_l_line_text) (by decide +kernel)) (fun _ _ _ _ _ => (dg_name 3 nd)) (fun _ _ _ _ _ => .none) (fun _ _ _ _ _ => (de_ix (hu1 hr) (de_lst (da_cons de_str (da_cons (de_callTy call_strC vStrC_ok (by rfl) T.b_str (by decide +kernel) (da_cons (de_var 3) da_nil)) da_nil))) (de_callTy call_int1 vInt_ok (by rfl) T.b_int (by decide +kernel) (da_cons (de_cmp op_isNotU vIsNot_ok (de_var 3) de_non (nomark _)) da_nil)))))))))
  (dss_one (ds_ret (de_bm PySem.F.plainAttrs_str PySem.F.slot_str_join PySem.F.type_str_join mt_join ty_str vJoin_ok de_str (da_cons (de_var 1) da_nil))))))
theorem ok_l_word (F : Fun K "_law_word" "_law_word" s_l_word f fd) (T : Tx K w mg cl) (h_l_next : DefOk P w K mg base cl 2 "_law_next" 2 m_l_next) :
  FnOk P w K mg base (L2N.CX P w) 3 f fd ["_law_source", "_law_most"] (spD ⟨K, cl, none⟩ 2 m_l_word) :=
  def_okT (N := ["_law_source", "_law_most", "_law_letters", "_law_k"]) F (by decide +kernel) rfl rfl fun cdv A outer s H E hr tk hp nd => (dss_cons (ds_set 2 nd de_str)
  (dss_one (ds_ret (de_bm PySem.F.plainAttrs_str PySem.F.slot_str_join PySem.F.type_str_join mt_join ty_str vJoin_ok de_str (da_cons (de_comp (own := [("_law_k", 3)]) rfl nd (di_range1 (by rfl) T.b_range (da_cons (de_call h_l_next hr (by omega) tk (da_cons (de_var 0) (da_cons (de_bin op_addU vAdd_ok (de_var 1) de_int) da_nil))) da_nil)) (blkOk_by (N := ["_law_source", "_law_most", "_law_letters", "_law_k"]) (sc := defScope s_l_word) (by decide +kernel)) (fun _ _ _ _ _ => (dg_name 3 nd)) (fun _ _ _ _ _ => .none) (fun _ _ _ _ _ => (de_ix (hu1 hr) (de_var 2) (de_call h_l_next hr (by omega) takesN0 (da_cons (de_var 0) (da_cons de_int da_nil)))))) da_nil)))))
theorem ok_l_namesx (F : Fun K "_law_names" "_law_names" s_l_namesx f fd) (T : Tx K w mg cl) (h_l_next : DefOk P w K mg base cl 2 "_law_next" 2 m_l_next) (h_l_word : DefOk P w K mg base cl 3 "_law_word" 2 m_l_word) :
  FnOk P w K mg base (L2N.CX P w) 4 f fd ["_law_source", "_law_many"] (spD ⟨K, cl, none⟩ 2 m_l_namesx) :=
  def_okT (N := ["_law_source", "_law_many", "_law_letters", "_law_way", "_law_shift", "_law_stem", "_law_at", "_law_some", "_law_k"]) F (by decide +kernel) rfl rfl fun cdv A outer s H E hr tk hp nd => (dss_cons (ds_set 2 nd de_str)
  (dss_cons (ds_set 3 nd (de_call h_l_next hr (by omega) tk (da_cons (de_var 0) (da_cons de_int da_nil))))
  (dss_cons (ds_set 4 nd (de_call h_l_next hr (by omega) tk (da_cons (de_var 0) (da_cons de_int da_nil))))
  (dss_cons (ds_if (dt_cmp (op_eqD (hu64 hr)) vEq_ok (de_var 3) de_int (nomark _)) (dss_cons (ds_set 7 nd (de_lst (da_cons de_str (da_cons de_str (da_cons de_str (da_cons de_str (da_cons de_str (da_cons de_str (da_cons de_str (da_cons de_str (da_cons de_str (da_cons de_str (da_cons de_str (da_cons de_str da_nil))))))))))))))
  (dss_one (ds_ret (de_slice (de_bin op_addU vAdd_ok (de_slice (de_var 7) (.some (de_bin op_mod vMod_ok (de_var 4) de_int)) .none) (de_slice (de_var 7) .none (.some (de_bin op_mod vMod_ok (de_var 4) de_int)))) .none (.some (de_var 1)))))) dss_nil)
  (dss_cons (ds_set 5 nd (de_call h_l_word hr (by omega) tk (da_cons (de_var 0) (da_cons de_int da_nil))))
  (dss_cons (ds_set 6 nd (de_call h_l_next hr (by omega) tk (da_cons (de_var 0) (da_cons (de_bin op_addU vAdd_ok (de_callB call_lenU vLen_ok (by rfl) T.b_len (by decide +kernel) (da_cons (de_var 5) da_nil)) de_int) da_nil))))
  (dss_cons (ds_if (dt_cmp (op_eqD (hu64 hr)) vEq_ok (de_var 3) de_int (nomark _)) (dss_one (ds_ret (de_comp (own := [("_law_k", 8)]) rfl nd (di_range1 (by rfl) T.b_range (da_cons (de_var 1) da_nil)) (blkOk_by (N := ["_law_source", "_law_many", "_law_letters", "_law_way", "_law_shift", "_law_stem", "_law_at", "_law_some", "_law_k"]) (sc := defScope s_l_namesx) (by decide +kernel)) (fun _ _ _ _ _ => (dg_name 8 nd)) (fun _ _ _ _ _ => .none) (fun _ _ _ _ _ => (de_bin op_addU vAdd_ok (de_bin op_addU vAdd_ok (de_slice (de_var 5) .none (.some (de_var 6))) (de_ix (hu1 hr) (de_var 2) (de_bin op_mod vMod_ok (de_bin op_addU vAdd_ok (de_var 4) (de_bin (op_mulS.or (op_mul.or op_rep)) vMulS_ok de_int (de_var 8))) de_int))) (de_slice (de_var 5) (.some (de_var 6)) .none)))))) dss_nil)
  (dss_one (ds_ret (de_comp (own := [("_law_k", 8)]) rfl nd (di_range1 (by rfl) T.b_range (da_cons (de_var 1) da_nil)) (blkOk_by (N := ["_law_source", "_law_many", "_law_letters", "_law_way", "_law_shift", "_law_stem", "_law_at", "_law_some", "_law_k"]) (sc := defScope s_l_namesx) (by decide +kernel)) (fun _ _ _ _ _ => (dg_name 8 nd)) (fun _ _ _ _ _ => .none) (fun _ _ _ _ _ => (de_bin op_addU vAdd_ok (de_call h_l_word hr (by omega) takesN0 (da_cons (de_var 0) (da_cons de_int da_nil))) (de_ix (hu1 hr) (de_var 2) (de_bin op_mod vMod_ok (de_bin op_addU vAdd_ok (de_var 4) (de_bin (op_mulS.or (op_mul.or op_rep)) vMulS_ok de_int (de_var 8))) de_int))))))))))))))
theorem ok_l_same (F : Fun K "_law_same" "_law_same" s_l_same f fd) (T : Tx K w mg cl)  (k : Nat) (h_l_same : DefOk P w K mg base cl (0 + k) "_law_same" 2 (m_l_same k)) :
  FnOk P w K mg base (L2N.CX P w) (0 + k + 1) f fd ["_law_thing", "_law_due"] (spD ⟨K, cl, none⟩ 2 (m_l_same (k + 1))) :=
  def_okT (N := ["_law_thing", "_law_due", "_law_one", "_law_other"]) F (by decide +kernel) rfl rfl fun cdv A outer s H E hr tk hp nd => (dss_cons (ds_if (dt_val (de_isiT (by rfl) T.b_isinstance (by decide +kernel) (de_var 1) (.cons (tyNm (by rfl) T.b_tuple (by decide +kernel)) (.cons (tyNm (by rfl) T.b_list (by decide +kernel)) .nil)) (by decide))) (dss_cons (ds_if (dt_of_w (dw_or (dt_cmp (op_neD (hu64 hr)) vNe_ok (de_isi (by rfl) T.b_isinstance (by decide +kernel) (de_var 0) (tyNm (by rfl) T.b_tuple (by decide +kernel))) (de_isi (by rfl) T.b_isinstance (by decide +kernel) (de_var 1) (tyNm (by rfl) T.b_tuple (by decide +kernel))) (nomark _)) (dw_or1 (dt_not (dt_val (de_isiT (by rfl) T.b_isinstance (by decide +kernel) (de_var 0) (.cons (tyNm (by rfl) T.b_tuple (by decide +kernel)) (.cons (tyNm (by rfl) T.b_list (by decide +kernel)) .nil)) (by decide))))))) (dss_one (ds_ret de_bl)) dss_nil)
  (dss_one (ds_ret (de_and (de_cmp (op_eqD (hu64 hr)) vEq_ok (de_callB call_lenU vLen_ok (by rfl) T.b_len (by decide +kernel) (da_cons (de_var 0) da_nil)) (de_callB call_lenU vLen_ok (by rfl) T.b_len (by decide +kernel) (da_cons (de_var 1) da_nil)) (nomark _)) (de_one (de_callB (cr_all rfl) vAll_ok (by rfl) T.b_all (by decide +kernel) (da_cons (de_compP (own := [("_law_one", 2), ("_law_other", 3)]) rfl nd (di_zipP (by rfl) T.b_zip (da_cons (de_var 0) (da_cons (de_var 1) da_nil))) (blkOk_by (N := ["_law_thing", "_law_due", "_law_one", "_law_other"]) (sc := defScope s_l_same) (by decide +kernel)) (fun _ _ _ _ _ => (dg_tup rfl (dgs_cons (dg_name 2 nd) (dgs_cons (dg_name 3 nd) dgs_nil)))) (fun _ _ _ _ _ => .none) (fun _ _ _ _ _ => (de_call h_l_same hr (by omega) takesN0 (da_cons (de_var 2) (da_cons (de_var 3) da_nil))))) da_nil))))))) dss_nil)
  (dss_cons (ds_if (dt_cmp op_isU vIs_ok (de_var 1) de_non (nomark _)) (dss_one (ds_ret (de_cmp op_isU vIs_ok (de_var 0) de_non (nomark _)))) dss_nil)
  (dss_cons (ds_if (dt_val (de_isi (by rfl) T.b_isinstance (by decide +kernel) (de_var 1) (tyNm (by rfl) T.b_str (by decide +kernel)))) (dss_one (ds_ret (de_and (de_isi (by rfl) T.b_isinstance (by decide +kernel) (de_var 0) (tyNm (by rfl) T.b_str (by decide +kernel))) (de_one (de_cmp (op_eqD (hu64 hr)) vEq_ok (de_var 0) (de_var 1) (nomark _)))))) dss_nil)
  (dss_one (ds_ret (de_and (de_isi (by rfl) T.b_isinstance (by decide +kernel) (de_var 0) (tyNm (by rfl) T.b_int (by decide +kernel))) (de_and (de_not (de_isi (by rfl) T.b_isinstance (by decide +kernel) (de_var 0) (tyNm (by rfl) T.b_bool (by decide +kernel)))) (de_one (de_cmp (op_eqD (hu64 hr)) vEq_ok (de_var 0) (de_var 1) (nomark _))))))))))
theorem ok_l_spoil (F : Fun K "_law_spoil" "_law_spoil" s_l_spoil f fd) (T : Tx K w mg cl)  :
  FnOk P w K mg base (L2N.CX P w) 1 f fd ["_law_found"] (spD ⟨K, cl, none⟩ 1 m_l_spoil) :=
  def_okT (N := ["_law_found", "_law_line_here", "_law_part"]) F (by decide +kernel) rfl rfl fun cdv A outer s H E hr tk hp nd => (dss_cons (ds_for hp rfl (di_val (de_var 0)) (dg_name 1 nd) (dss_one (ds_for hp rfl (di_val (de_var 1)) (dg_name 2 nd) (dss_one (ds_if (dt_val (de_isi (by rfl) T.b_isinstance (by decide +kernel) (de_var 2) (tyNm (by rfl) T.b_list (by decide +kernel)))) (dss_one (ds_expr (de_bm PySem.F.plainAttrs_list PySem.F.slot_list_append PySem.F.type_list_append mt_append ty_lst vAppend_ok (de_var 2) (da_cons de_str da_nil)))) dss_nil)))))
  (dss_one (ds_expr (de_bm PySem.F.plainAttrs_list PySem.F.slot_list_append PySem.F.type_list_append mt_append ty_lst vAppend_ok (de_var 0) (da_cons de_str da_nil)))))
theorem ok_is_name (F : Fun K "is_name" "is_name" s_is_name f fd) (T : Tx K w mg cl)  :
  FnOk P w K mg base (L2N.CX P w) 1 f fd ["thing"] (spD ⟨K, cl, none⟩ 1 m_is_name) :=
  def_okT (N := ["thing", "sign"]) F (by decide +kernel) rfl rfl fun cdv A outer s H E hr tk hp nd => (dss_cons (ds_if (dt_of_w (dw_or (dt_not (dt_val (de_isi (by rfl) T.b_isinstance (by decide +kernel) (de_var 0) (tyNm (by rfl) T.b_str (by decide +kernel))))) (dw_or1 (dt_not (dt_chain op_le op_le vLe_ok vLe_ok de_int (de_callB call_lenU vLen_ok (by rfl) T.b_len (by decide +kernel) (da_cons (de_var 0) da_nil)) (de_ci T.c_MOST_LETTERS)))))) (dss_one (ds_ret de_bl)) dss_nil)
  (dss_one (ds_ret (de_callB (cr_all rfl) vAll_ok (by rfl) T.b_all (by decide +kernel) (da_cons (de_comp (own := [("sign", 1)]) rfl nd (di_val (de_var 0)) (blkOk_by (N := ["thing", "sign"]) (sc := defScope s_is_name) (by decide +kernel)) (fun _ _ _ _ _ => (dg_name 1 nd)) (fun _ _ _ _ _ => .none) (fun _ _ _ _ _ => (de_cmp ((op_inDS (hu65 hr)).or (op_inU (hu65 hr))) vInX_ok (de_var 1) (de_cs T.c_LETTERS) (by rfl)))) da_nil)))))
theorem ok_number_in (F : Fun K "number_in" "number_in" s_number_in f fd) (T : Tx K w mg cl)  :
  FnOk P w K mg base (L2N.CX P w) 1 f fd ["word"] (spD ⟨K, cl, none⟩ 1 m_number_in) :=
  def_okT (N := ["word", "sign"]) F (by decide +kernel) rfl rfl fun cdv A outer s H E hr tk hp nd => (dss_cons (ds_if (dt_of_w (dw_or (dt_not (dt_chain op_le op_le vLe_ok vLe_ok de_int (de_callB call_lenU vLen_ok (by rfl) T.b_len (by decide +kernel) (da_cons (de_var 0) da_nil)) (de_ci T.c_MOST_FIGURES))) (dw_or1 (dt_not (dt_val (de_callB (cr_all rfl) vAll_ok (by rfl) T.b_all (by decide +kernel) (da_cons (de_comp (own := [("sign", 1)]) rfl nd (di_val (de_var 0)) (blkOk_by (N := ["word", "sign"]) (sc := defScope s_number_in) (by decide +kernel)) (fun _ _ _ _ _ => (dg_name 1 nd)) (fun _ _ _ _ _ => .none) (fun _ _ _ _ _ => (de_cmp ((op_inDS (hu65 hr)).or (op_inU (hu65 hr))) vInX_ok (de_var 1) (de_cs T.c_FIGURES) (by rfl)))) da_nil))))))) (dss_one (ds_ret de_non)) dss_nil)
  (dss_cons (ds_if (dt_of_w (dw_and (dt_cmp op_gt vGt_ok (de_callB call_lenU vLen_ok (by rfl) T.b_len (by decide +kernel) (da_cons (de_var 0) da_nil)) de_int (nomark _)) (dw_and1 (dt_cmp (op_eqD (hu64 hr)) vEq_ok (de_ix (hu1 hr) (de_var 0) de_int) de_str (nomark _))))) (dss_one (ds_ret de_non)) dss_nil)
  (dss_one (ds_ret (de_callTy call_intX vIntX_ok (by rfl) T.b_int (by decide +kernel) (da_cons (de_var 0) da_nil))))))
theorem ok_fits (F : Fun K "fits" "fits" s_fits f fd) (T : Tx K w mg cl) (h_is_name : DefOk P w K mg base cl 1 "is_name" 1 m_is_name) (h_number_in : DefOk P w K mg base cl 1 "number_in" 1 m_number_in) :
  FnOk P w K mg base (L2N.CX P w) 2 f fd ["word", "form"] (spD ⟨K, cl, none⟩ 2 m_fits) :=
  def_okT (N := ["word", "form"]) F (by decide +kernel) rfl rfl fun cdv A outer s H E hr tk hp nd => (dss_cons (ds_if (dt_cmp (op_eqD (hu64 hr)) vEq_ok (de_var 1) de_str (nomark _)) (dss_one (ds_ret (de_call h_is_name hr (by omega) tk (da_cons (de_var 0) da_nil)))) dss_nil)
  (dss_cons (ds_if (dt_cmp (op_eqD (hu64 hr)) vEq_ok (de_var 1) de_str (nomark _)) (dss_one (ds_ret (de_cmp ((op_inDS (hu65 hr)).or (op_inU (hu65 hr))) vInX_ok (de_var 0) (de_ct (ts := ["ask", "right", "back"]) T.u_LETTER_WORDS) (by rfl)))) dss_nil)
  (dss_one (ds_ret (de_or (de_cmp op_isNotU vIsNot_ok (de_call h_number_in hr (by omega) tk (da_cons (de_var 0) da_nil)) de_non (nomark _)) (de_one (de_and (de_cmp (op_eqD (hu64 hr)) vEq_ok (de_var 1) de_str (nomark _)) (de_one (de_cmp (op_eqD (hu64 hr)) vEq_ok (de_var 0) (de_cs T.c_ANY) (nomark _))))))))))
theorem ok_mend_in (F : Fun K "mend_in" "mend_in" s_mend_in f fd) (T : Tx K w mg cl) (h_is_name : DefOk P w K mg base cl 1 "is_name" 1 m_is_name) :
  FnOk P w K mg base (L2N.CX P w) 2 f fd ["words"] (spD ⟨K, cl, none⟩ 1 m_mend_in) :=
  def_okT (N := ["words", "lists", "at"]) F (by decide +kernel) rfl rfl fun cdv A outer s H E hr tk hp nd => (dss_cons (ds_set 1 nd (de_dct (dp_cons de_str (de_thaw (de_lst da_nil)) (dp_cons de_str (de_thaw (de_lst da_nil)) dp_nil)) (by rfl) (by rfl) (fun z => by cases z) (by decide)))
  (dss_cons (ds_if (dt_cmp (op_eqD (hu64 hr)) vEq_ok (de_bin op_mod vMod_ok (de_callB call_lenU vLen_ok (by rfl) T.b_len (by decide +kernel) (da_cons (de_var 0) da_nil)) de_int) de_int (nomark _)) (dss_one (ds_ret de_non)) dss_nil)
  (dss_cons (ds_for hp rfl (di_range3 (by rfl) T.b_range (da_cons de_int (da_cons (de_callB call_lenU vLen_ok (by rfl) T.b_len (by decide +kernel) (da_cons (de_var 0) da_nil)) (da_cons de_int da_nil)))) (dg_name 2 nd) (dss_cons (ds_if (dt_of_w (dw_or (dt_cmp ((op_notInDS (hu65 hr)).or (op_notInU (hu65 hr))) vInX_ok (de_ix (hu1 hr) (de_var 0) (de_var 2)) (de_var 1) (by rfl)) (dw_or (dt_not (dt_val (de_call h_is_name hr (by omega) tk (da_cons (de_ix (hu1 hr) (de_var 0) (de_bin op_addU vAdd_ok (de_var 2) de_int)) da_nil)))) (dw_or1 (dt_of_w (dw_and (dt_cmp (op_eqD (hu64 hr)) vEq_ok (de_ix (hu1 hr) (de_var 0) (de_var 2)) de_str (nomark _)) (dw_and1 (dt_cmp (op_neD (hu64 hr)) vNe_ok (de_ix (hu1 hr) (de_var 1) de_str) (de_lst da_nil) (nomark _))))))))) (dss_one (ds_ret de_non)) dss_nil)
  (dss_one (ds_expr (de_bm PySem.F.plainAttrs_list PySem.F.slot_list_append PySem.F.type_list_append mt_append ty_lst vAppend_ok (de_ix (hu1 hr) (de_var 1) (de_ix (hu1 hr) (de_var 0) (de_var 2))) (da_cons (de_ix (hu1 hr) (de_var 0) (de_bin op_addU vAdd_ok (de_var 2) de_int)) da_nil))))))
  (dss_one (ds_ret (de_tup (da_cons de_str (da_cons (de_ix (hu1 hr) (de_var 1) de_str) (da_cons (de_ix (hu1 hr) (de_var 1) de_str) da_nil)))))))))
theorem ok_part_in (F : Fun K "part_in" "part_in" s_part_in f fd) (T : Tx K w mg cl) (h_number_in : DefOk P w K mg base cl 1 "number_in" 1 m_number_in) :
  FnOk P w K mg base (L2N.CX P w) 2 f fd ["word", "form"] (spD ⟨K, cl, none⟩ 2 m_part_in) :=
  def_okT (N := ["word", "form"]) F (by decide +kernel) rfl rfl fun cdv A outer s H E hr tk hp nd => (dss_cons (ds_if (dt_cmp ((op_inDS (hu65 hr)).or (op_inU (hu65 hr))) vInX_ok (de_var 1) (de_tup (da_cons de_str (da_cons de_str da_nil))) (by rfl)) (dss_one (ds_ret (de_call h_number_in hr (by omega) tk (da_cons (de_var 0) da_nil)))) dss_nil)
  (dss_one (ds_ret (de_var 0))))
theorem ok_line_in (F : Fun K "line_in" "line_in" s_line_in f fd) (T : Tx K w mg cl) (h_fits : DefOk P w K mg base cl 2 "fits" 2 m_fits) (h_mend_in : DefOk P w K mg base cl 2 "mend_in" 1 m_mend_in) (h_part_in : DefOk P w K mg base cl 2 "part_in" 2 m_part_in) :
  FnOk P w K mg base (L2N.CX P w) 3 f fd ["text"] (spD ⟨K, cl, none⟩ 1 m_line_in) :=
  def_okT (N := ["text", "words", "forms", "word", "form"]) F (by decide +kernel) rfl rfl fun cdv A outer s H E hr tk hp nd => (dss_cons (ds_set 1 nd (de_bm PySem.F.plainAttrs_str PySem.F.slot_str_split PySem.F.type_str_split mt_split ty_str vSplit_ok (de_var 0) (da_cons de_str da_nil)))
  (dss_cons (ds_if (dt_cmp (op_eqD (hu64 hr)) vEq_ok (de_ix (hu1 hr) (de_var 1) de_int) de_str (nomark _)) (dss_one (ds_ret (de_call h_mend_in hr (by omega) tk (da_cons (de_var 1) da_nil)))) dss_nil)
  (dss_cons (ds_set 2 nd (de_tabT (by rfl) T.d_FORMS (de_ix (hu1 hr) (de_var 1) de_int)))
  (dss_cons (ds_if (dt_of_w (dw_or (dt_cmp op_isU vIs_ok (de_var 2) de_non (nomark _)) (dw_or1 (dt_cmp (op_neD (hu64 hr)) vNe_ok (de_callB call_lenU vLen_ok (by rfl) T.b_len (by decide +kernel) (da_cons (de_var 1) da_nil)) (de_bin op_addU vAdd_ok de_int (de_callB call_lenU vLen_ok (by rfl) T.b_len (by decide +kernel) (da_cons (de_var 2) da_nil))) (nomark _))))) (dss_one (ds_ret de_non)) dss_nil)
  (dss_cons (ds_if (dt_not (dt_val (de_callB (cr_all rfl) vAll_ok (by rfl) T.b_all (by decide +kernel) (da_cons (de_comp (own := [("word", 3), ("form", 4)]) rfl nd (di_zipM (by rfl) T.b_zip (da_cons (de_slice (de_var 1) (.some de_int) .none) (da_cons (de_var 2) da_nil))) (blkOk_by (N := ["text", "words", "forms", "word", "form"]) (sc := defScope s_line_in) (by decide +kernel)) (fun _ _ _ _ _ => (dg_tup rfl (dgs_cons (dg_name 3 nd) (dgs_cons (dg_name 4 nd) dgs_nil)))) (fun _ _ _ _ _ => .none) (fun _ _ _ _ _ => (de_call h_fits hr (by omega) takesN0 (da_cons (de_var 3) (da_cons (de_var 4) da_nil))))) da_nil)))) (dss_one (ds_ret de_non)) dss_nil)
  (dss_one (ds_ret (de_bin op_addU vAdd_ok (de_tup (da_cons (de_ix (hu1 hr) (de_var 1) de_int) da_nil)) (de_callTy call_tuple_of vTuple_ok (by rfl) T.b_tuple (by decide +kernel) (da_cons (de_comp (own := [("word", 3), ("form", 4)]) rfl nd (di_zipM (by rfl) T.b_zip (da_cons (de_slice (de_var 1) (.some de_int) .none) (da_cons (de_var 2) da_nil))) (blkOk_by (N := ["text", "words", "forms", "word", "form"]) (sc := defScope s_line_in) (by decide +kernel)) (fun _ _ _ _ _ => (dg_tup rfl (dgs_cons (dg_name 3 nd) (dgs_cons (dg_name 4 nd) dgs_nil)))) (fun _ _ _ _ _ => .none) (fun _ _ _ _ _ => (de_call h_part_in hr (by omega) takesN0 (da_cons (de_var 3) (da_cons (de_var 4) da_nil))))) da_nil))))))))))
theorem ok_read_book (F : Fun K "read_book" "read_book" s_read_book f fd) (T : Tx K w mg cl) (h_line_in : DefOk P w K mg base cl 3 "line_in" 1 m_line_in) (x_NoText : XInit P w K mg base cl 1 "NoText" 11) :
  FnOk P w K mg base (L2N.CX P w) 4 f fd ["text"] (spD ⟨K, cl, none⟩ 1 m_read_book) :=
  def_okT (N := ["text", "lines", "number", "part", "line"]) F (by decide +kernel) rfl rfl fun cdv A outer s H E hr tk hp nd => (dss_cons (ds_if (dt_not (dt_val (de_isi (by rfl) T.b_isinstance (by decide +kernel) (de_var 0) (tyNm (by rfl) T.b_str (by decide +kernel))))) (dss_one (ds_raiseF x_NoText hr (by omega) rfl tk de_int)) dss_nil)
  (dss_cons (ds_if (dt_cmp (op_eqD (hu64 hr)) vEq_ok (de_var 0) de_str (nomark _)) (dss_one (ds_ret (de_lst da_nil))) dss_nil)
  (dss_cons (ds_set 1 nd (de_thaw (de_lst da_nil)))
  (dss_cons (ds_for hp rfl (di_enumerate (by rfl) T.b_enumerate (da_cons (de_bm PySem.F.plainAttrs_str PySem.F.slot_str_split PySem.F.type_str_split mt_split ty_str vSplit_ok (de_var 0) (da_cons de_str da_nil)) da_nil)) (dg_tup rfl (dgs_cons (dg_name 2 nd) (dgs_cons (dg_name 3 nd) dgs_nil))) (dss_cons (ds_set 4 nd (de_call h_line_in hr (by omega) tk (da_cons (de_var 3) da_nil)))
  (dss_cons (ds_if (dt_cmp op_isU vIs_ok (de_var 4) de_non (nomark _)) (dss_one (ds_raiseF x_NoText hr (by omega) rfl tk (de_var 2))) dss_nil)
  (dss_one (ds_expr (de_bm PySem.F.plainAttrs_list PySem.F.slot_list_append PySem.F.type_list_append mt_append ty_lst vAppend_ok (de_var 1) (da_cons (de_var 4) da_nil)))))))
  (dss_one (ds_ret (de_var 1)))))))
theorem ok_read_line (F : Fun K "read_line" "read_line" s_read_line f fd) (T : Tx K w mg cl) (h_line_in : DefOk P w K mg base cl 3 "line_in" 1 m_line_in) (x_NoText : XInit P w K mg base cl 1 "NoText" 11) :
  FnOk P w K mg base (L2N.CX P w) 4 f fd ["text"] (spD ⟨K, cl, none⟩ 1 m_read_line) :=
  def_okT (N := ["text", "line"]) F (by decide +kernel) rfl rfl fun cdv A outer s H E hr tk hp nd => (dss_cons (ds_set 1 nd de_non)
  (dss_cons (ds_if (dt_val (de_isi (by rfl) T.b_isinstance (by decide +kernel) (de_var 0) (tyNm (by rfl) T.b_str (by decide +kernel)))) (dss_one (ds_set 1 nd (de_call h_line_in hr (by omega) tk (da_cons (de_var 0) da_nil)))) dss_nil)
  (dss_cons (ds_if (dt_cmp op_isU vIs_ok (de_var 1) de_non (nomark _)) (dss_one (ds_raiseF x_NoText hr (by omega) rfl tk de_int)) dss_nil)
  (dss_one (ds_ret (de_var 1))))))
theorem ok_word_of (F : Fun K "word_of" "word_of" s_word_of f fd) (T : Tx K w mg cl)  :
  FnOk P w K mg base (L2N.CX P w) 1 f fd ["part"] (spD ⟨K, cl, none⟩ 1 m_word_of) :=
  def_okT (N := ["part"]) F (by decide +kernel) rfl rfl fun cdv A outer s H E hr tk hp nd => (dss_cons (ds_if (dt_cmp op_isU vIs_ok (de_var 0) de_non (nomark _)) (dss_one (ds_ret (de_cs T.c_ANY))) dss_nil)
  (dss_one (ds_ret (de_callTy call_strC vStrC_ok (by rfl) T.b_str (by decide +kernel) (da_cons (de_var 0) da_nil)))))
theorem ok_show_line (F : Fun K "show_line" "show_line" s_show_line f fd) (T : Tx K w mg cl) (h_word_of : DefOk P w K mg base cl 1 "word_of" 1 m_word_of) :
  FnOk P w K mg base (L2N.CX P w) 2 f fd ["line"] (spD ⟨K, cl, none⟩ 1 m_show_line) :=
  def_okT (N := ["line", "words", "sign", "names", "name", "part"]) F (by decide +kernel) rfl rfl fun cdv A outer s H E hr tk hp nd => (dss_cons (ds_if (dt_cmp (op_eqD (hu64 hr)) vEq_ok (de_ix (hu1 hr) (de_var 0) de_int) de_str (nomark _)) (dss_cons (ds_set 1 nd (de_thaw (de_lst (da_cons de_str da_nil))))
  (dss_cons (ds_for hp rfl (di_val (de_lst (da_cons (de_tup (da_cons de_str (da_cons (de_ix (hu1 hr) (de_var 0) de_int) da_nil))) (da_cons (de_tup (da_cons de_str (da_cons (de_ix (hu1 hr) (de_var 0) de_int) da_nil))) da_nil)))) (dg_tup rfl (dgs_cons (dg_name 2 nd) (dgs_cons (dg_name 3 nd) dgs_nil))) (dss_one (ds_for hp rfl (di_val (de_var 3)) (dg_name 4 nd) (dss_one (ds_expr (de_bm PySem.F.plainAttrs_list PySem.F.slot_list_extend PySem.F.type_list_extend mt_extend ty_lst vExtend_ok (de_var 1) (da_cons (de_lst (da_cons (de_var 2) (da_cons (de_var 4) da_nil))) da_nil)))))))
  (dss_one (ds_ret (de_bm PySem.F.plainAttrs_str PySem.F.slot_str_join PySem.F.type_str_join mt_join ty_str vJoin_ok de_str (da_cons (de_var 1) da_nil)))))) dss_nil)
  (dss_one (ds_ret (de_bm PySem.F.plainAttrs_str PySem.F.slot_str_join PySem.F.type_str_join mt_join ty_str vJoin_ok de_str (da_cons (de_comp (own := [("part", 5)]) rfl nd (di_val (de_var 0)) (blkOk_by (N := ["line", "words", "sign", "names", "name", "part"]) (sc := defScope s_show_line) (by decide +kernel)) (fun _ _ _ _ _ => (dg_name 5 nd)) (fun _ _ _ _ _ => .none) (fun _ _ _ _ _ => (de_call h_word_of hr (by omega) takesN0 (da_cons (de_var 5) da_nil)))) da_nil)))))
theorem ok_show_book (F : Fun K "show_book" "show_book" s_show_book f fd) (T : Tx K w mg cl) (h_show_line : DefOk P w K mg base cl 2 "show_line" 1 m_show_line) :
  FnOk P w K mg base (L2N.CX P w) 3 f fd ["lines"] (spD ⟨K, cl, none⟩ 1 m_show_book) :=
  def_okT (N := ["lines", "line"]) F (by decide +kernel) rfl rfl fun cdv A outer s H E hr tk hp nd => (dss_one (ds_ret (de_bm PySem.F.plainAttrs_str PySem.F.slot_str_join PySem.F.type_str_join mt_join ty_str vJoin_ok de_str (da_cons (de_comp (own := [("line", 1)]) rfl nd (di_val (de_var 0)) (blkOk_by (N := ["lines", "line"]) (sc := defScope s_show_book) (by decide +kernel)) (fun _ _ _ _ _ => (dg_name 1 nd)) (fun _ _ _ _ _ => .none) (fun _ _ _ _ _ => (de_call h_show_line hr (by omega) takesN0 (da_cons (de_var 1) da_nil)))) da_nil))))
theorem ok_law (F : Fun K "law" "law" s_law f fd) (T : Tx K w mg cl) (h_l_digits : DefOk P w K mg base cl 1 "_law_digits" 1 m_l_digits) (h_l_line : DefOk P w K mg base cl 4 "_law_line" 2 m_l_line) (h_l_line_text : DefOk P w K mg base cl 1 "_law_line_text" 1 m_l_line_text) (h_l_namesx : DefOk P w K mg base cl 4 "_law_names" 2 m_l_namesx) (h_l_same : DefOk P w K mg base cl 8 "_law_same" 2 (m_l_same 8)) (h_l_spoil : DefOk P w K mg base cl 1 "_law_spoil" 1 m_l_spoil) (h_read_book : DefOk P w K mg base cl 4 "read_book" 1 m_read_book) (h_read_line : DefOk P w K mg base cl 4 "read_line" 1 m_read_line) (h_show_book : DefOk P w K mg base cl 3 "show_book" 1 m_show_book) (h_show_line : DefOk P w K mg base cl 2 "show_line" 1 m_show_line) :
  FnG P w K mg base 9 f fd ["_law_script"] (spD ⟨K, cl, none⟩ 1 m_law) :=
  def_okTG (N := ["_law_script", "_law_book", "_law_cell", "_law_text", "_law_kept", "_law_turn", "_law_source", "_law_names_here", "_law_line_here", "_law_shown", "_law_found"]) F (by decide +kernel) rfl rfl fun cdv A outer s H E hr hg tk hp nd => (dss_cons (ds_set 1 nd (de_thaw (de_lst da_nil)))
  (dss_cons (ds_for hp rfl (di_val (de_slice (de_var 0) .none (.some de_int))) (dg_name 2 nd) (dss_cons (ds_set 6 nd (de_thaw (de_call h_l_digits hr (by omega) tk (da_cons (de_var 2) da_nil))))
  (dss_cons (ds_set 7 nd (de_call h_l_namesx hr (by omega) tk (da_cons (de_var 6) (da_cons de_int da_nil))))
  (dss_cons (ds_set 8 nd (de_call h_l_line hr (by omega) tk (da_cons (de_var 6) (da_cons (de_var 7) da_nil))))
  (dss_cons (ds_set 3 nd (de_call h_l_line_text hr (by omega) tk (da_cons (de_var 8) da_nil)))
  (dss_cons (ds_set 9 nd (de_call h_show_line hr (by omega) tk (da_cons (de_var 8) da_nil)))
  (dss_cons (ds_if (dt_of_w (dw_or (dt_not (dt_val (de_isi (by rfl) T.b_isinstance (by decide +kernel) (de_var 9) (tyNm (by rfl) T.b_str (by decide +kernel))))) (dw_or (dt_cmp (op_neD (hu64 hr)) vNe_ok (de_var 9) (de_var 3) (nomark _)) (dw_or1 (dt_not (dt_val (de_call h_l_same hr (by omega) tk (da_cons (de_call h_read_line hr (by omega) tk (da_cons (de_var 3) da_nil)) (da_cons (de_var 8) da_nil))))))))) (dss_one (ds_ret de_bl)) dss_nil)
  (dss_cons (ds_set 10 nd (de_thaw (de_lst (da_cons (de_call h_read_line hr (by omega) tk (da_cons (de_var 3) da_nil)) da_nil))))
  (dss_cons (ds_expr (de_call h_l_spoil hr (by omega) tk (da_cons (de_var 10) da_nil)))
  (dss_cons (ds_if (dt_of_w (dw_or (dt_cmp (op_neD (hu64 hr)) vNe_ok (de_call h_show_line hr (by omega) tk (da_cons (de_call h_read_line hr (by omega) tk (da_cons (de_var 3) da_nil)) da_nil)) (de_var 3) (nomark _)) (dw_or1 (dt_not (dt_val (de_call h_l_same hr (by omega) tk (da_cons (de_call h_read_line hr (by omega) tk (da_cons (de_var 3) da_nil)) (da_cons (de_var 8) da_nil)))))))) (dss_one (ds_ret de_bl)) dss_nil)
  (dss_one (ds_expr (de_bm PySem.F.plainAttrs_list PySem.F.slot_list_append PySem.F.type_list_append mt_append ty_lst vAppend_ok (de_var 1) (da_cons (de_var 8) da_nil))))))))))))))
  (dss_cons (ds_set 3 nd (de_bm PySem.F.plainAttrs_str PySem.F.slot_str_join PySem.F.type_str_join mt_join ty_str vJoin_ok de_str (da_cons (de_comp (own := [("_law_line_here", 8)]) rfl nd (di_val (de_var 1)) (blkOk_by (N := ["_law_script", "_law_book", "_law_cell", "_law_text", "_law_kept", "_law_turn", "_law_source", "_law_names_here", "_law_line_here", "_law_shown", "_law_found"]) (sc := defScope s_law) (by decide +kernel)) (fun _ _ _ _ _ => (dg_name 8 nd)) (fun _ _ _ _ _ => .none) (fun _ _ _ _ _ => (de_call h_l_line_text hr (by omega) takesN0 (da_cons (de_var 8) da_nil)))) da_nil)))
  (dss_cons (ds_set 4 nd (de_callTy (call_strG hg (hu64 hr)) vStrG_ok (by rfl) T.b_str (by decide +kernel) (da_cons (de_var 1) da_nil)))
  (dss_cons (ds_for hp rfl (di_range1 (by rfl) T.b_range (da_cons de_int da_nil)) (dg_name 5 nd) (dss_cons (ds_set 10 nd (de_thaw (de_call h_read_book hr (by omega) tk (da_cons (de_var 3) da_nil))))
  (dss_cons (ds_if (dt_of_w (dw_or (dt_cmp (op_neD (hu64 hr)) vNe_ok (de_call h_show_book hr (by omega) tk (da_cons (de_var 1) da_nil)) (de_var 3) (nomark _)) (dw_or (dt_cmp (op_neD (hu64 hr)) vNe_ok (de_callTy (call_strG hg (hu64 hr)) vStrG_ok (by rfl) T.b_str (by decide +kernel) (da_cons (de_var 1) da_nil)) (de_var 4) (nomark _)) (dw_or (dt_not (dt_val (de_isi (by rfl) T.b_isinstance (by decide +kernel) (de_var 10) (tyNm (by rfl) T.b_list (by decide +kernel))))) (dw_or1 (dt_not (dt_val (de_call h_l_same hr (by omega) tk (da_cons (de_var 10) (da_cons (de_var 1) da_nil)))))))))) (dss_one (ds_ret de_bl)) dss_nil)
  (dss_one (ds_expr (de_call h_l_spoil hr (by omega) tk (da_cons (de_var 10) da_nil)))))))
  (dss_one (ds_ret (de_and (de_cmp (op_eqD (hu64 hr)) vEq_ok (de_call h_read_book hr (by omega) tk (da_cons de_str da_nil)) (de_lst da_nil) (nomark _)) (de_and (de_cmp (op_eqD (hu64 hr)) vEq_ok (de_call h_show_book hr (by omega) tk (da_cons (de_lst da_nil) da_nil)) de_str (nomark _)) (de_one (de_cmp (op_eqD (hu64 hr)) vEq_ok (de_call h_read_line hr (by omega) tk (da_cons de_str da_nil)) (de_tup (da_cons de_str (da_cons (de_lst da_nil) (da_cons (de_lst da_nil) da_nil)))) (nomark _))))))))))))
end
end G
set_option maxHeartbeats 2000000
namespace DH
open PySem PySem.Spec PyProof.Rows L2 He
theorem tabI_is : ∀ {es : List DictEntry} {tbl : List (Str × Int)}, tabI es tbl = true → DL.tabIs es tbl = true
  | [], [], _ => rfl
  | [], _ :: _, h => by cases h
  | _ :: _, [], h => by cases h
  | e :: r, (x, i) :: t, h => by
    unfold tabI at h
    rw [Bool.and_eq_true, Bool.and_eq_true] at h
    obtain ⟨h1, h2, h3⟩ := h
    unfold DL.tabIs
    rw [Bool.and_eq_true, Bool.and_eq_true]
    exact ⟨h1, h2, tabI_is h3⟩
theorem tabB_ok {K : PySem.W.Frag} {a : Addr} {tbl : List (Str × Int)} {c : Value} {dd : Option Addr} {es : Array DictEntry} {n : Nat} {sl : Array (Option Value)} (h : tabB K a tbl = true) (e : K.lookup a = some ⟨c, dd, .dict es n, sl⟩) : DL.tabIs es.toList tbl = true := tabI_is (tabB_ok0 h e)
section
variable {K : PySem.W.Frag} {h : Heap} {mg : Str → Option Value}
theorem exc_at (X : K.In h) (G : h.Ns mainGlobals mg) {cl : Nat → Addr} {x : Str} {n : Nat} (c1 : (Fa.glo x).ok K = true) (c2 : (Fa.exc x).ok K = true) (e : cl n = ga K x) : DL.ExcOk K mg cl x n := by
  obtain ⟨x1, x2, x3, x4⟩ := exc_ok c2
  rw [← e] at x1 x2 x3 x4
  exact ⟨by rw [e]; exact glo_ok X G c1, x1, x2, x3, x4⟩
theorem line_at {x y : Str} (c : oexB x y K = true) : DL.XC K (ga K x) (ga K y) := by
  obtain ⟨c0, c⟩ := ba c
  obtain ⟨c1, c⟩ := ba c
  obtain ⟨c2, c⟩ := ba c
  obtain ⟨c3, c⟩ := ba c
  obtain ⟨c4, c⟩ := ba c
  obtain ⟨c5, c⟩ := ba c
  obtain ⟨c6, c⟩ := ba c
  obtain ⟨c7, c⟩ := ba c
  obtain ⟨c8, c9⟩ := ba c
  refine ⟨⟨?_, eqO_ok c1, of_decide_eq_true c2, of_decide_eq_true c3, c4⟩, xfB_ok c6, eqO_ok c5, eqO_ok c7, c8, ?_⟩
  · split at c0
    · rename_i dd cd sl ho
      split at c0
      · rename_i C' bm k0 k1 k2 k3 n k5 hm hs
        obtain ⟨d1, d⟩ := ba c0
        obtain ⟨d2, d⟩ := ba d
        obtain ⟨d3, d⟩ := ba d
        obtain ⟨d4, d5⟩ := ba d
        have d1 := of_decide_eq_true d1
        have d2 := of_decide_eq_true d2
        obtain ⟨nm, bs, mro, ns, qn, hd, sn, sub, ab, col, del⟩ := cd
        dsimp only at hm d3 d4
        subst hm d1 d2 d3
        have d4 : del = false := by simpa using d4
        subst d4
        have hsl : sl = #[k0, k1, k2, k3, some (.builtin "ValueError.__new__"), k5] := by
          obtain ⟨l⟩ := sl
          simp only at hs
          rw [hs]
        subst hsl
        exact ⟨_, _, _, _, _, _, _, _, _, _, _, _, _, _, _, ho, d5⟩
      · cases c0
    · cases c0
  · split at c9
    · rename_i n e
      rw [e, of_decide_eq_true c9]
    · cases c9
theorem fld_at {x f : Str} (c1 : (Fa.cls x).ok K = true) (c2 : (Fa.noat x f).ok K = true) : DL.ClF K (ga K x) f := ⟨cls_ok c1, noat_ok c2⟩
theorem ins_at {x : Str} (c1 : (Fa.cls x).ok K = true) (c2 : clsB x K = true) : DL.ClI K (ga K x) := by
  obtain ⟨x1, x2, x3, x4⟩ := clsB_ok c2
  exact ⟨cls_ok c1, x1, x2, x3, x4⟩
theorem tab_at {w : World} (X : K.In h) (G : h.Ns mainGlobals mg) {x : Str} {tbl : List (Str × Int)} (c1 : (Fa.glo x).ok K = true) (c2 : ∃ es n, KDict K w (ga K x) es n) (c3 : tabB K (ga K x) tbl = true) : DL.KTab K w mg x tbl := by
  obtain ⟨es, n, D⟩ := c2
  exact ⟨_, _, _, glo_ok X G c1, D.at_, D.lit, D.low, tabB_ok c3 D.at_⟩
theorem tup_at (X : K.In h) (G : h.Ns mainGlobals mg) {x : Str} {ts : List Str} (c1 : (Fa.glo x).ok K = true) (c2 : tupB K (ga K x) ts = true) : DL.CT K mg x ts := ⟨_, glo_ok X G c1, DL.tupB_ok c2, DL.tupB_len c2⟩
theorem tab_atT {w : World} (X : K.In h) (G : h.Ns mainGlobals mg) {x : Str} {tbl : List (Str × List Str)} (c1 : (Fa.glo x).ok K = true) (c2 : ∃ es n, KDict K w (ga K x) es n) (c3 : tabTB K (ga K x) tbl = true) : DL.KTabT K w mg x tbl := by
  obtain ⟨es, n, D⟩ := c2
  exact ⟨_, _, _, glo_ok X G c1, D.at_, D.lit, D.low, tabTB_ok c3 D.at_⟩
theorem err_at {Cs : List Addr} (l : Nat) (h : errB K (Cs.take l) = true) (hl : l ≤ Cs.length := by exact Nat.le_of_ble_eq_true rfl) : DL.ErrTab K (fun n => Cs.getD n 0) 0 (List.range l) := DL.errTab_of l h hl
end
/-- a law: what the Hook says gives the written part -/
theorem walk_lawH {l : PySem.W.OpenLaw} {q : Program} {loose : List Str} {XP : (Str → Option Value) → Heap → Prop} {YP : World → Heap → Prop} {d : DefRec} {x : Str} (k : Nat) (hn : l.most = some 63) (hdf : d.params.defaults = []) (hr : Room k callerA)
    (F : ∀ (w : World) (mg : Str → Option Value) (fa : Addr) (h : Heap), YP w h → h.Ns mainGlobals mg → mg d.name = some (.ref fa) →
      ∃ (K : PySem.W.Frag) (fd : FuncData), K.In h ∧ (∀ (s : Shared) (u : Value), BindsTo s fd ⟨[u], []⟩ [(x, u)]) ∧ ∀ base : Heap, K.In base → base.Ns mainGlobals mg → FnOk l.prog w K mg base (L2N.CX l.prog w) k fa fd [x] (DL.spL K)) :
    PySem.W.WalkO q loose XP YP l.row.toRowW d [] (fun f vs => PySem.call f vs) := by
  refine Att.attach_call hn hdf fun w s₀ s₁ mg mb fa o pm cd doc a vs ns G Y ho hd hcd hmg hobj hints hlen hg => ?_
  obtain ⟨K, fd, KX, hb, hF⟩ := F w mg fa _ Y G.T.g hmg
  exact law_call KX G.T.g G.T.b G.T.builtins G.T.nolimit hg hobj hints (Nat.le_trans hlen (by decide)) hr hF hb (fun H hO hS => ⟨a, ns, rfl, hS, hO, hlen, fun _ => rfl⟩) fun H e s' z => by
    obtain ⟨_, _, _, _, _, _, _, _, _, _, _, _, q⟩ := z
    exact q
end DH
namespace DH
open PySem PySem.Spec PyProof.Rows L2
/-- a law that asks for the text of lists: what the Hook says gives the written part -/
theorem walk_lawG {l : PySem.W.OpenLaw} {q : Program} {loose : List Str} {XP : (Str → Option Value) → Heap → Prop} {YP : World → Heap → Prop} {d : DefRec} {x : Str} (k : Nat) (hn : l.most = some 63) (hdf : d.params.defaults = []) (hr : Room k callerA)
    (F : ∀ (w : World) (mg : Str → Option Value) (fa : Addr) (h : Heap), YP w h → h.Ns mainGlobals mg → mg d.name = some (.ref fa) →
      ∃ (K : PySem.W.Frag) (fd : FuncData), K.In h ∧ (∀ (s : Shared) (u : Value), BindsTo s fd ⟨[u], []⟩ [(x, u)]) ∧ ∀ base : Heap, K.In base → base.Ns mainGlobals mg → DL.FnG l.prog w K mg base k fa fd [x] (DL.spL K)) :
    PySem.W.WalkO q loose XP YP l.row.toRowW d [] (fun f vs => PySem.call f vs) := by
  refine Att.attach_call hn hdf fun w s₀ s₁ mg mb fa o pm cd doc a vs ns G Y ho hd hcd hmg hobj hints hlen hg => ?_
  obtain ⟨K, fd, KX, hb, hF⟩ := F w mg fa _ Y G.T.g hmg
  exact DL.law_callG KX G.T.g G.T.b G.T.builtins G.T.nolimit hg hobj hints (Nat.le_trans hlen (by decide)) hr hb hF fun H hO hS => ⟨a, ns, rfl, hS, hO, hlen, fun _ => rfl⟩
end DH
namespace G
open PySem L2 DL
set_option maxHeartbeats 4000000
theorem all_mk {P : Program} {w : World} {K : PySem.W.Frag} {h : Heap} {mg : Str → Option Value} {fa : Addr} (X : K.In h) (G : h.Ns mainGlobals mg) (hfa : mg "law" = some (.ref fa)) (c : DH.SaysH hF w K)
    (hlaw : ∀ ns : List Int, ns.length ≤ 63 → ∃ S fr, m_law [.scr ns] [] = .ok (.bl true) S fr) : ∃ fd : FuncData, (∀ (s : Shared) (v : Value), BindsTo s fd ⟨[v], []⟩ [("_law_script", v)]) ∧ ∀ base : Heap, K.In base → base.Ns mainGlobals mg → FnG P w K mg base 9 fa fd ["_law_script"] (spL K) := by
  let cl : Nat → Addr := fun n => [He.ga K "TreeError", 0, 0, 0, 0, 0, 0, 0, 0, 0, 0, He.ga K "NoText"].getD n 0
  have T : Tx K w mg cl := ⟨trivial,
    He.free_ok X G (c.a 0),
    He.free_ok X G (c.a 1),
    He.free_ok X G (c.a 2),
    He.free_ok X G (c.a 3),
    He.free_ok X G (c.a 4),
    He.free_ok X G (c.a 5),
    He.free_ok X G (c.a 6),
    He.free_ok X G (c.a 7),
    He.free_ok X G (c.a 8),
    He.free_ok X G (c.a 9),
    He.free_ok X G (c.a 10),
    He.str_ok X G (c.a 11),
    He.int_ok X G (c.a 12),
    He.str_ok X G (c.a 13),
    He.int_ok X G (c.a 14),
    DH.tup_at X G (c.a 15) (c.x 0),
    He.str_ok X G (c.a 16),
    DH.tab_atT X G (c.a 17) (c.t 0 rfl) (c.x 1),
    DH.exc_at X G (c.a 18) (c.a 19) rfl,
    He.glo_ok X G (c.a 18),
    DH.line_at (c.x 2)⟩
  obtain ⟨d0, F0, e0⟩ := c.g X G 0
  obtain ⟨d1, F1, e1⟩ := c.g X G 1
  obtain ⟨d2, F2, e2⟩ := c.g X G 2
  obtain ⟨d3, F3, e3⟩ := c.g X G 3
  obtain ⟨d4, F4, e4⟩ := c.g X G 4
  obtain ⟨d5, F5, e5⟩ := c.g X G 5
  obtain ⟨d6, F6, e6⟩ := c.g X G 6
  obtain ⟨d7, F7, e7⟩ := c.g X G 7
  obtain ⟨d8, F8, e8⟩ := c.g X G 8
  obtain ⟨d9, F9, e9⟩ := c.g X G 9
  obtain ⟨d10, F10, e10⟩ := c.g X G 10
  obtain ⟨d11, F11, e11⟩ := c.g X G 11
  obtain ⟨d12, F12, e12⟩ := c.g X G 12
  obtain ⟨d13, F13, e13⟩ := c.g X G 13
  obtain ⟨d14, F14, e14⟩ := c.g X G 14
  obtain ⟨d15, F15, e15⟩ := c.g X G 15
  obtain ⟨d16, F16, e16⟩ := c.g X G 16
  obtain ⟨d17, F17, e17⟩ := c.g X G 17
  obtain ⟨d18, F18, e18⟩ := c.g X G 18
  obtain ⟨d19, F19, e19⟩ := c.g X G 19
  obtain ⟨d20, F20, e20⟩ := c.g X G 20
  obtain ⟨d21, F21, e21⟩ := c.g X G 21
  obtain ⟨dx_NoText, Fx_NoText, ex_NoText⟩ := c.m 22
  have e := hfa.symm.trans e21
  cases e
  refine ⟨d21, bdT F21 fun _ _ _ _ _ _ _ => rfl, fun base _ _ => ?_⟩
  have x_NoText := mkX P base 11 "NoText" (ok_NoText_init Fx_NoText T) ex_NoText T.x_NoText (He.glo_ok X G (c.a 20)) (bd2 Fx_NoText fun _ _ _ _ _ _ _ _ => rfl)
  have h_l_digits := mkD P base (ok_l_digits F0 T) F0 e0 (bd1 F0 fun _ _ _ _ _ _ _ => rfl)
  have h_l_mixed := mkD P base (ok_l_mixed F1 T) F1 e1 (bd2 F1 fun _ _ _ _ _ _ _ _ => rfl)
  have h_l_next := mkD P base (ok_l_next F2 T h_l_mixed) F2 e2 (bd2 F2 fun _ _ _ _ _ _ _ _ => rfl)
  have h_l_right_number := mkD P base (ok_l_right_number F3 T h_l_next) F3 e3 (bd1 F3 fun _ _ _ _ _ _ _ => rfl)
  have h_l_line := mkD P base (ok_l_line F4 T h_l_next h_l_right_number) F4 e4 (bd2 F4 fun _ _ _ _ _ _ _ _ => rfl)
  have h_l_line_text := mkD P base (ok_l_line_text F5 T) F5 e5 (bd1 F5 fun _ _ _ _ _ _ _ => rfl)
  have h_l_word := mkD P base (ok_l_word F6 T h_l_next) F6 e6 (bd2 F6 fun _ _ _ _ _ _ _ _ => rfl)
  have h_l_namesx := mkD P base (ok_l_namesx F7 T h_l_next h_l_word) F7 e7 (bd2 F7 fun _ _ _ _ _ _ _ _ => rfl)
  have r_l_same : ∀ j, DefOk P w K mg base cl (0 + j) "_law_same" 2 (m_l_same j) := fun j => by
    induction j with
    | zero => exact defOk_zero e8 F8.kp (bd2 F8 fun _ _ _ _ _ _ _ _ => rfl)
    | succ j ih => exact mkD P base (ok_l_same F8 T j ih) F8 e8 (bd2 F8 fun _ _ _ _ _ _ _ _ => rfl)
  have h_l_same := r_l_same 8
  have h_l_spoil := mkD P base (ok_l_spoil F9 T) F9 e9 (bd1 F9 fun _ _ _ _ _ _ _ => rfl)
  have h_is_name := mkD P base (ok_is_name F10 T) F10 e10 (bd1 F10 fun _ _ _ _ _ _ _ => rfl)
  have h_number_in := mkD P base (ok_number_in F11 T) F11 e11 (bd1 F11 fun _ _ _ _ _ _ _ => rfl)
  have h_fits := mkD P base (ok_fits F12 T h_is_name h_number_in) F12 e12 (bd2 F12 fun _ _ _ _ _ _ _ _ => rfl)
  have h_mend_in := mkD P base (ok_mend_in F13 T h_is_name) F13 e13 (bd1 F13 fun _ _ _ _ _ _ _ => rfl)
  have h_part_in := mkD P base (ok_part_in F14 T h_number_in) F14 e14 (bd2 F14 fun _ _ _ _ _ _ _ _ => rfl)
  have h_line_in := mkD P base (ok_line_in F15 T h_fits h_mend_in h_part_in) F15 e15 (bd1 F15 fun _ _ _ _ _ _ _ => rfl)
  have h_read_book := mkD P base (ok_read_book F16 T h_line_in x_NoText) F16 e16 (bd1 F16 fun _ _ _ _ _ _ _ => rfl)
  have h_read_line := mkD P base (ok_read_line F17 T h_line_in x_NoText) F17 e17 (bd1 F17 fun _ _ _ _ _ _ _ => rfl)
  have h_word_of := mkD P base (ok_word_of F18 T) F18 e18 (bd1 F18 fun _ _ _ _ _ _ _ => rfl)
  have h_show_line := mkD P base (ok_show_line F19 T h_word_of) F19 e19 (bd1 F19 fun _ _ _ _ _ _ _ => rfl)
  have h_show_book := mkD P base (ok_show_book F20 T h_show_line) F20 e20 (bd1 F20 fun _ _ _ _ _ _ _ => rfl)
  exact law_impG (ok_law F21 T h_l_digits h_l_line h_l_line_text h_l_namesx h_l_same h_l_spoil h_read_book h_read_line h_show_book h_show_line) hlaw
end G
open PySem PySem.W PyProof.Rows in
set_option maxRecDepth 100000 in
set_option maxHeartbeats 0 in
theorem PySem.Challenge.cw_treeright_k82_lines_and_books_as_texts_holds : PySem.Challenge.rw_treeright_k82_lines_and_books_as_texts.Holds := by
  w_on; o_law
  refine HandSHeadRun.head_any (r := OpenLaw.row PySem.Challenge.rw_treeright_k82_lines_and_books_as_texts) (q := view (OpenLaw.row PySem.Challenge.rw_treeright_k82_lines_and_books_as_texts).prog [34]) (H := G.hhk) (ob := G.hob) (M := 30000) (loose := G.hnm) (d := HandSHeadRun.topDef (OpenLaw.row PySem.Challenge.rw_treeright_k82_lines_and_books_as_texts).prog 34) (kwd := []) G.hob_eq (by kernel_rfl) (fun s => by kernel_rfl) G.hrun (by kernel_rfl) (by kernel_rfl) (by kernel_rfl) (by rfl) (by first | assumption | decide +kernel) (by decide +kernel) ⟨rfl, rfl, rfl, rfl, rfl, by decide +kernel⟩ ?hw ?hc
  case hw => w_witness2
  case hc =>
    refine DH.walk_lawG (l := PySem.Challenge.rw_treeright_k82_lines_and_books_as_texts) (x := "_law_script") 9 rfl (by kernel_rfl) ⟨rfl, by decide, by decide⟩ ?F
    intro w mg fa h Y GG hmg0
    obtain ⟨K, KX, c⟩ := Y
    have hmg : mg ("law" : PySem.Str) = some (.ref fa) := by
      have e : (HandSHeadRun.topDef (OpenLaw.row PySem.Challenge.rw_treeright_k82_lines_and_books_as_texts).prog 34).name = ("law" : PySem.Str) := by kernel_rfl
      rw [← e]; exact hmg0
    obtain ⟨fd, hb, hF⟩ := G.all_mk KX GG hmg c G.law_true
    exact ⟨K, fd, KX, hb, hF⟩
