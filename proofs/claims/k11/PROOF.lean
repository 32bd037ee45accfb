import PyProof.Rows.All
import Wide.All
import OpenK.AllK
import Wide.FinOn
import KE.KStateDown
import HandS.Base
import HandS.Call
import HandS.List
import HandS.Dict
import HandS.More
import HandS.Exc
import HandS.Defaults
import HandS.Words
import HandS.ForMost
import HandS.Head0
import HandS.Head1
import HandS.Head2
import HandS.HeadEnd
import HandS.HeadHook1
import HandS.HeadHook2
import HandS.HeadHook3
import HandS.ExcField
import HandS.ForExc
import HandS.Deep
import HandS.IsInst
import HandS.HotCalls
import HandS.ExcIs
import HandS.TryMany
import HandS.ExcCtx
import HandS.SuiteRaise
import HandS.TupAny
import HandS.ExcValue
import HandS.Wide
import HandS.Style
import KE.DataFind
import KE.KExcIs
import HandS.Strs
import HandS.SetFor
import HandS.SetBool
import KE.SortData
import KE.KRevSl
import HandS.Conv
import KE.DataMinMax
import HandS.DictTup
import PyProof.DictMoreH
import HandS.Iter
import PyProof.DictUpdate
import HandS.DictComp
import HandS.Finally
import HandS.Flow
import KE.KDictCopyH
import HandS.Zip
import HandS.Text
import HandS.TupLe
import PyProof.DictFindH
import PyProof.Rows.TupTab
import HandS.TupLen
import HandS.RaiseMore
import HandS.ExcInit
import PySem.Challenge.RW_treeright_k11_seats_made
set_option Elab.async false
set_option linter.all false
set_option autoImplicit false
set_option maxRecDepth 100000
set_option maxHeartbeats 2000000
/-! the head by kernel runs, each of which tells a part of what the top leaves: facts of a Hook, told part by part -/
namespace DL
end DL
namespace DH
open PySem PySem.Spec PyProof.Rows L2 He HandSHeadRun
abbrev FB : Type := PySem.W.Frag → Bool
/-! ### a def as a datum: where it stands, its names, its statement -/
structure DD where
  at_ : Str × Option Str
  name : Str
  qual : Str
  st : Stmt
abbrev dg (x : Str) (s : Stmt) : DD := ⟨(x, none), x, x, s⟩
abbrev dm (C m q : Str) (s : Stmt) : DD := ⟨(C, some m), m, q, s⟩
def DD.fn (d : DD) : FnD := ⟨d.at_, d.name, d.qual, defArgs d.st, defBody d.st, defScope d.st⟩
def DD.ok (K : PySem.W.Frag) (d : DD) : Bool := (Fa.code d.at_ d.qual).ok K && match d.at_.2 with
  | none => (Fa.glo d.at_.1).ok K && (Fa.keep d.at_.1).ok K
  | some m => (Fa.meth d.at_.1 m).ok K
abbrev AlH : Type := Bool × Bool × List FnV × List (Option (List (Option (Str × Int))))
def kA (fa : List Fa) (xs : List FB) (K : PySem.W.Frag) : Bool := (fa.all fun f => f.ok K) && xs.all fun f => f K
def kD (dd : List DD) (K : PySem.W.Frag) : Bool := dd.all fun d => d.ok K
def kO (dd : List DD) (K : PySem.W.Frag) : List FnV := dd.map fun d => fnObs K d.at_
def kT (ts : List Tab) (K : PySem.W.Frag) : List (Option (List (Option (Str × Int)))) := ts.map fun t => dicW K (t.1 K)
def vO (dd : List DD) : List FnV := dd.map fun d => d.fn.val
def vT (ts : List Tab) (w : World) : List (Option (List (Option (Str × Int)))) := ts.map fun t => some (keysIn w.params t.2)
structure Facts where
  fa : List Fa
  xs : List FB
  dd : List DD
  ts : List Tab
def obsH (F : Facts) (K : PySem.W.Frag) : AlH := (kA F.fa F.xs K, kD F.dd K, kO F.dd K, kT F.ts K)
def valH (F : Facts) (w : World) : AlH := (true, true, vO F.dd, vT F.ts w)
def obsHG (as : List Addr) (F : Facts) (g : Addr → Option Obj) : AlH := obsH F (frG g as)
def SaysH (F : Facts) (w : World) (K : PySem.W.Frag) : Prop := obsH F K = valH F w
def hookH (as : List Addr) (F : Facts) : PySem.W.Hook where
  α := AlH
  obs := fun s => obsHG as F s.heap.get?
  val := fun w => valH F w
  says := fun w h => ∃ K : PySem.W.Frag, K.In h ∧ SaysH F w K
  of := fun _ _ e => ⟨_, frG_in, e⟩
  keeps := fun _ _ _ ⟨K, hK, c⟩ k => ⟨K, PySem.W.Frag.In.keeps hK k, c⟩
theorem obsHG_eq {as : List Addr} {F : Facts} {g : Addr → Option Obj} {s : Shared} (h : ∀ a, g a = s.heap.get? a) : obsHG as F g = (hookH as F).obs s := by
  have e : g = s.heap.get? := funext h
  rw [e] <;> rfl
section
variable {F : Facts} {w : World} {K : PySem.W.Frag}
theorem SaysH.a (c : SaysH F w K) (i : Nat) {f : Fa} (h : F.fa[i]? = some f := by rfl) : f.ok K = true :=
  List.all_eq_true.mp (ba (show kA F.fa F.xs K = true from congrArg (fun z : AlH => z.1) c)).1 f (List.mem_of_getElem? h)
theorem SaysH.x (c : SaysH F w K) (i : Nat) {f : FB} (h : F.xs[i]? = some f := by rfl) : f K = true :=
  List.all_eq_true.mp (ba (show kA F.fa F.xs K = true from congrArg (fun z : AlH => z.1) c)).2 f (List.mem_of_getElem? h)
theorem SaysH.d (c : SaysH F w K) (i : Nat) {d : DD} (h : F.dd[i]? = some d) : d.ok K = true ∧ fnObs K d.at_ = d.fn.val := by
  refine ⟨List.all_eq_true.mp (show kD F.dd K = true from congrArg (fun z : AlH => z.2.1) c) d (List.mem_of_getElem? h), ?_⟩
  have e : kO F.dd K = vO F.dd := congrArg (fun z : AlH => z.2.2.1) c
  have e2 : (kO F.dd K)[i]? = (vO F.dd)[i]? := by rw [e]
  unfold kO vO at e2
  rw [List.getElem?_map, List.getElem?_map, h] at e2
  exact Option.some.inj e2
theorem fun_at {d : DD} (e : fnObs K d.at_ = d.fn.val) (c : (Fa.code d.at_ d.qual).ok K = true) (k : PySem.W.keepIn K (.ref (fAd K d.at_)) = true) : ∃ fd, Fun K d.name d.qual d.st (fAd K d.at_) fd := by
  obtain ⟨oc, od, osl, kV, doc, pm, an, cdv, ct, l, hc⟩ := fn_ok (d := d.fn) e c
  exact ⟨_, fun_mk (st := d.st) l hc k⟩
theorem SaysH.g (c : SaysH F w K) {h : Heap} {mg : Str → Option Value} (X : K.In h) (G : h.Ns mainGlobals mg) (i : Nat) {x : Str} {st : Stmt} (hi : F.dd[i]? = some (dg x st) := by rfl) : ∃ fd, Fun K x x st (ga K x) fd ∧ mg x = some (.ref (ga K x)) := by
  obtain ⟨c1, c2⟩ := c.d i hi
  obtain ⟨k1, k2⟩ := ba c1
  obtain ⟨k3, k4⟩ := ba (show ((Fa.glo x).ok K && (Fa.keep x).ok K) = true from k2)
  obtain ⟨fd, F1⟩ := fun_at c2 k1 (show PySem.W.keepIn K (.ref (ga K x)) = true from keep_ok k4)
  exact ⟨fd, F1, glo_ok X G k3⟩
theorem SaysH.m (c : SaysH F w K) (i : Nat) {C m q : Str} {st : Stmt} (hi : F.dd[i]? = some (dm C m q st) := by rfl) : ∃ fd, Fun K m q st (ma K (ga K C) m) fd ∧ Meth K (ga K C) m (ma K (ga K C) m) := by
  obtain ⟨c1, c2⟩ := c.d i hi
  obtain ⟨k1, k2⟩ := ba c1
  have M : Meth K (ga K C) m (ma K (ga K C) m) := meth_ok (show (Fa.meth C m).ok K = true from k2)
  obtain ⟨fd, F1⟩ := fun_at c2 k1 (show PySem.W.keepIn K (.ref (ma K (ga K C) m)) = true from M.kp)
  exact ⟨fd, F1, M⟩
theorem SaysH.t (c : SaysH F w K) (i : Nat) {t : Tab} (h : F.ts[i]? = some t) : ∃ es n, KDict K w (t.1 K) es n := by
  have e : kT F.ts K = vT F.ts w := congrArg (fun z : AlH => z.2.2.2) c
  have e2 : (kT F.ts K)[i]? = (vT F.ts w)[i]? := by rw [e]
  unfold kT vT at e2
  rw [List.getElem?_map, List.getElem?_map, h] at e2
  exact dicW_ok (Option.some.inj e2)
end
/-- the whole numbers of a written dict -/
def tabI : List DictEntry → List (Str × Int) → Bool
  | [], [] => true
  | e :: r, (x, i) :: t => Value.isStrOf x e.key && ((match e.val with
    | .int j _ => i == j
    | _ => false) && tabI r t)
  | _, _ => false
def tabB (K : PySem.W.Frag) (a : Addr) (tbl : List (Str × Int)) : Bool := match K.lookup a with
  | some ⟨_, _, .dict es _, _⟩ => tabI es.toList tbl
  | _ => false
theorem tabB_ok0 {K : PySem.W.Frag} {a : Addr} {tbl : List (Str × Int)} {c : Value} {dd : Option Addr} {es : Array DictEntry} {n : Nat} {sl : Array (Option Value)} (h : tabB K a tbl = true) (e : K.lookup a = some ⟨c, dd, .dict es n, sl⟩) : tabI es.toList tbl = true := by
  unfold tabB at h
  rw [e] at h; exact h
/-- the classes of errors, told at once: the first is the one above all -/
def errB (K : PySem.W.Frag) (Cs : List Addr) : Bool :=
  (Cs.all fun D => PySem.W.findIn K (.ref D) "__getattribute__" == some (some (.builtin "BaseException.__getattribute__")) && (PySem.W.findIn K (.ref D) "__getattr__" == some none && (PySem.W.subIn K (.ref D) (.type "BaseException") == some true &&
    (PySem.W.hasDictIn K D && (PySem.W.findIn K (.ref D) "__class__" == some (some (.builtin "object.__class__")) && (PySem.W.specialIn K (.builtin "object.__class__") "__get__" == some (some (.builtin "getset_descriptor.__get__")) &&
    (PySem.W.takesIn K (.builtin "object.__class__") == some true && (PySem.W.mroIn K D (.type "object") == some true && (PySem.W.subIn K (.ref D) (.type "ValueError") == some true && ((PySem.W.clsIn K D).isSome && PySem.W.typeIn K (.ref D) == some (.type "type"))))))))))) &&
  (List.range Cs.length).all fun n => (List.range Cs.length).all fun m => PySem.W.subIn K (.ref (Cs.getD n 0)) (.ref (Cs.getD m 0)) == some (n == m || m == 0)
/-- what isinstance asks of a class -/
def clsB (x : Str) (K : PySem.W.Frag) : Bool := eqO (PySem.W.findIn K (.ref (ga K x)) "__class__") (some (some (.builtin "object.__class__"))) && (decide (PySem.W.specialIn K (.builtin "object.__class__") "__get__" = some (some (.builtin "getset_descriptor.__get__"))) &&
  (decide (PySem.W.takesIn K (.builtin "object.__class__") = some true) && decide (PySem.W.mroIn K (ga K x) (.type "object") = some true)))
theorem clsB_ok {x : Str} {K : PySem.W.Frag} (c : clsB x K = true) : PySem.W.findIn K (.ref (ga K x)) "__class__" = some (some (.builtin "object.__class__")) ∧ PySem.W.specialIn K (.builtin "object.__class__") "__get__" = some (some (.builtin "getset_descriptor.__get__")) ∧
    PySem.W.takesIn K (.builtin "object.__class__") = some true ∧ PySem.W.mroIn K (ga K x) (.type "object") = some true := by
  obtain ⟨c1, c⟩ := ba c
  obtain ⟨c2, c⟩ := ba c
  obtain ⟨c3, c4⟩ := ba c
  exact ⟨eqO_ok c1, of_decide_eq_true c2, of_decide_eq_true c3, of_decide_eq_true c4⟩
/-- an own error class x over y whose __init__ is its own and keeps a line -/
def oexB (x y : Str) (K : PySem.W.Frag) : Bool := (match K.lookup (ga K x) with
  | some ⟨.type "type", _, .cls cd, sl⟩ => (match cd.mro, sl.toList with
    | .ref C' :: bm, [_, _, _, _, some (.builtin n), _] => decide (C' = ga K x) && (decide (n = "ValueError.__new__") && (cd.hasDict && (!cd.hasDel && PySem.HandSPX.refsVE bm)))
    | _, _ => false)
  | _ => false) && (eqO (PySem.W.findIn K (.ref (ga K x)) "__setattr__") (some (some (.builtin "object.__setattr__"))) && (decide (PySem.W.subIn K (.ref (ga K x)) (.type "BaseException") = some true) &&
  (decide (PySem.W.typeIn K (.ref (ga K x)) = some (.type "type")) && (PySem.W.keepIn K (.ref (ga K x)) && (eqO (PySem.W.findIn K (.ref (ga K x)) "line") (some none) && (xfB K (ga K x) &&
  (eqO (PySem.W.specialIn K (.ref (ga K y)) "__getattribute__") (some (some (.builtin "type.__getattribute__"))) && (PySem.W.readsIn K (ga K y) (.type "type") &&
  (match PySem.W.findCls K (.ref (ga K y)) (.type "type") "__init__" with
    | some (.val (.builtin n)) => decide (n = "ValueError.__init__")
    | _ => false)))))))))
/-! ### the run, told by parts -/
def Tells (r : PySem.W.OpenRow) (M : Nat) (w : World) {α : Type} (f : PySem.W.SharedT → α) (v : α) : Prop := ∀ os : OsState, (endF (stepQ (denQ tabQ) r.prog w) M r.prog w os).map f = some v
theorem Tells.pair {r : PySem.W.OpenRow} {M : Nat} {w : World} {α β : Type} {f : PySem.W.SharedT → α} {g : PySem.W.SharedT → β} {a : α} {b : β} (x : Tells r M w f a) (y : Tells r M w g b) : Tells r M w (fun s => (f s, g s)) (a, b) := fun os => by
  have p := x os
  have q := y os
  obtain ⟨s, es, ea⟩ := Option.map_eq_some_iff.mp p
  rw [es] at q ⊢
  exact congrArg some (Prod.ext ea (Option.some.inj q))
theorem Tells.map {r : PySem.W.OpenRow} {M : Nat} {w : World} {α β : Type} {f : PySem.W.SharedT → α} {a : α} (x : Tells r M w f a) (g : α → β) : Tells r M w (fun s => g (f s)) (g a) := fun os => by
  obtain ⟨s, es, ea⟩ := Option.map_eq_some_iff.mp (x os)
  rw [es]
  exact congrArg some (congrArg g ea)
/-- the part that a head needs whatever the facts are -/
noncomputable abbrev baseF (r : PySem.W.OpenRow) (q : Program) (loose : List Str) (w : World) (s : PySem.W.SharedT) := (looksF r.prog (PySem.W.boot_heap w.params) s.abs, seenQ q loose (importedModules r.prog.main.body) (fun s => PySem.W.xlAt q [] s && PySem.W.recOk r.toRowW.records s) s.abs)
abbrev fragS (as : List Addr) (s : PySem.W.SharedT) : PySem.W.Frag := frG (getT s) as
/-- the run, told three times: what the head needs, the tables and the plain facts; the defs; where they stand -/
theorem run_of {r : PySem.W.OpenRow} {q : Program} {M : Nat} {loose : List Str} {as : List Addr} {F : Facts} {ob : PySem.W.SharedT → AlH} {w : World} (eo : ∀ s, ob s = obsHG as F (getT s))
    (h0 : Tells r M w (fun s => (baseF r q loose w s, kT F.ts (fragS as s), kA F.fa F.xs (fragS as s))) ((true, PySem.W.openGood q loose), vT F.ts w, true))
    (h1 : Tells r M w (fun s => kO F.dd (fragS as s)) (vO F.dd)) (h2 : Tells r M w (fun s => kD F.dd (fragS as s)) true) : RunEq r q (hookH as F) ob M loose w := by
  have z := (h0.pair (h1.pair h2)).map fun z => (z.1.1.1, z.1.1.2, (z.1.2.2, z.2.2, z.2.1, z.1.2.1))
  intro os
  have e : ob = fun s => obsHG as F (getT s) := funext eo
  rw [e]
  exact z os
end DH
namespace G
open PySem L2 DL
set_option maxHeartbeats 4000000
def top (i : Nat) : Stmt := PySem.Challenge.pw_treeright_k11_seats_made.main.body.getD i (.Pass ⟨0, 0, 0, 0⟩)
abbrev s_is_name : Stmt := top 18
abbrev s_Seat_init : Stmt := inClass (top 21) 0
abbrev s_Seat_row : Stmt := inClass (top 21) 2
abbrev s_l_alike : Stmt := top 30
abbrev s_l_digits : Stmt := top 25
abbrev s_l_kindsv : Stmt := top 29
abbrev s_l_made_of_texts : Stmt := top 33
abbrev s_l_mixed : Stmt := top 24
abbrev s_l_next : Stmt := top 26
abbrev s_l_names : Stmt := top 27
abbrev s_l_odd : Stmt := top 28
abbrev s_l_kinds : Stmt := top 29
abbrev s_l_refusal : Stmt := top 32
abbrev s_Seat_arrow : Stmt := inClass (top 21) 1
abbrev s_Seat_has_asked : Stmt := inClass (top 21) 4
abbrev s_Seat_inside : Stmt := inClass (top 21) 3
abbrev s_l_told : Stmt := top 31
abbrev s_law : Stmt := top 34
end G
namespace G
open PySem L2 DL
set_option maxHeartbeats 4000000
def hF : DH.Facts := ⟨[
  .free "ValueError", .free "all", .free "bool", .free "isinstance", .free "len", .free "list", .free "range", .free "str", .free "tuple", .str "LETTERS" "abcdefghijklmnopqrstuvwxyz", .int "MOST_LETTERS" 8, .cls "Seat", .noat "Seat" "led", .noat "Seat" "waiting", .noat "Seat" "holder", .noat "Seat" "asking", .glo "TreeError", .exc "TreeError", .glo "NoTree", .exc "NoTree", .glo "NoHouse", .exc "NoHouse", .glo "NoSeat", .exc "NoSeat", .glo "NoAsker", .exc "NoAsker", .glo "NoLetter", .exc "NoLetter", .glo "NoRight", .exc "NoRight", .glo "NoRow", .exc "NoRow", .glo "NoTie", .exc "NoTie", .glo "Down", .exc "Down", .glo "NoMend", .exc "NoMend", .glo "NoText", .glo "NoLine", .exc "NoLine", .glo "Seat", .mkr "Seat"], [
  fun K => DH.errB K [He.ga K "TreeError", He.ga K "NoTree", He.ga K "NoHouse", He.ga K "NoSeat", He.ga K "NoAsker", He.ga K "NoLetter", He.ga K "NoRight", He.ga K "NoRow", He.ga K "NoTie", He.ga K "Down", He.ga K "NoMend", He.ga K "NoText", He.ga K "NoLine"]], [
  DH.dg "is_name" s_is_name,
  DH.dm "Seat" "__init__" "Seat.__init__" s_Seat_init,
  DH.dm "Seat" "row" "Seat.row" s_Seat_row,
  DH.dg "_law_alike" s_l_alike,
  DH.dg "_law_digits" s_l_digits,
  DH.dg "_law_kinds" s_l_kindsv,
  DH.dg "_law_made_of_texts" s_l_made_of_texts,
  DH.dg "_law_mixed" s_l_mixed,
  DH.dg "_law_next" s_l_next,
  DH.dg "_law_names" s_l_names,
  DH.dg "_law_odd" s_l_odd,
  DH.dg "_law_kinds" s_l_kinds,
  DH.dg "_law_refusal" s_l_refusal,
  DH.dm "Seat" "arrow" "Seat.arrow" s_Seat_arrow,
  DH.dm "Seat" "has_asked" "Seat.has_asked" s_Seat_has_asked,
  DH.dm "Seat" "inside" "Seat.inside" s_Seat_inside,
  DH.dg "_law_told" s_l_told,
  DH.dg "law" s_law], [
  ]⟩
def hnm0 : List PySem.Str := ["_wall", "TreeError", "NoTree", "NoHouse", "NoSeat", "NoAsker", "NoLetter", "NoRight", "NoRow", "NoTie", "Down", "NoMend", "NoText", "NoLine", "LETTERS", "MOST_LETTERS", "is_name", "check_house", "Seat", "_law_cell_at"]
def hnm1 : List PySem.Str := ["_law_mixed", "_law_digits", "_law_next", "_law_names", "_law_odd", "_law_kinds", "_law_alike", "_law_told", "_law_refusal", "_law_made_of_texts"]
def hnm : List PySem.Str := hnm0 ++ hnm1
abbrev HR : PySem.W.OpenRow := PySem.W.OpenLaw.row PySem.Challenge.rw_treeright_k11_seats_made
abbrev HV : Program := PySem.W.view HR.prog [34]
abbrev has0 : List Addr := [3, 31, 44, 56, 68, 80, 92, 104, 116, 128, 140, 152, 171, 183, 319, 0, 1, 2, 6, 24, 30, 37, 43, 49, 55, 61, 67, 73, 79, 85, 91, 97, 103, 109, 115, 121, 127, 133, 139, 145]
abbrev has1 : List Addr := [151, 157, 170, 176, 182, 200, 318, 19, 20, 21, 166, 167, 168, 188, 189, 190, 195, 196, 197, 209, 210, 211, 216, 217, 218, 223, 224, 225, 230, 231, 232, 237, 238, 239, 244, 245, 246, 251, 252, 253]
abbrev has2 : List Addr := [258, 259, 260, 265, 266, 267, 272, 273, 274, 279, 280, 281, 286, 287, 288, 293, 294, 295, 300, 301, 302, 307, 308, 309, 314, 315, 316, 328, 329, 330, 335, 336, 337, 342, 343, 344, 349, 350, 351, 354]
abbrev has3 : List Addr := [355, 356, 361, 362, 363, 366, 367, 368, 371, 372, 373, 378, 379, 380, 385, 386, 387, 390, 391, 392, 397, 398, 399]
abbrev has : List Addr := has0 ++ (has1 ++ (has2 ++ (has3)))
abbrev hhk : PySem.W.Hook := DH.hookH has hF
def hob (s : PySem.W.SharedT) : DH.AlH := DH.obsHG has hF (HandSHeadRun.getT s)
theorem hob_eq (s : PySem.W.SharedT) : hob s = hhk.obs s.abs := DH.obsHG_eq (HandSHeadRun.getT_eq s)
set_option maxHeartbeats 0 in
theorem hr0_f (w : World) : DH.Tells HR 30000 (w.withFollow "special-get-raises" false) (fun s => (DH.baseF HR HV hnm (w.withFollow "special-get-raises" false) s, DH.kT hF.ts (DH.fragS has s), DH.kA hF.fa hF.xs (DH.fragS has s))) ((true, PySem.W.openGood HV hnm), DH.vT hF.ts (w.withFollow "special-get-raises" false), true) := by
  intro os
  kernel_rfl
set_option maxHeartbeats 0 in
theorem hr1_f (w : World) : DH.Tells HR 30000 (w.withFollow "special-get-raises" false) (fun s => DH.kO hF.dd (DH.fragS has s)) (DH.vO hF.dd) := by
  intro os
  kernel_rfl
set_option maxHeartbeats 0 in
theorem hr2_f (w : World) : DH.Tells HR 30000 (w.withFollow "special-get-raises" false) (fun s => DH.kD hF.dd (DH.fragS has s)) true := by
  intro os
  kernel_rfl
set_option maxHeartbeats 0 in
theorem hr0_t (w : World) : DH.Tells HR 30000 (w.withFollow "special-get-raises" true) (fun s => (DH.baseF HR HV hnm (w.withFollow "special-get-raises" true) s, DH.kT hF.ts (DH.fragS has s), DH.kA hF.fa hF.xs (DH.fragS has s))) ((true, PySem.W.openGood HV hnm), DH.vT hF.ts (w.withFollow "special-get-raises" true), true) := by
  intro os
  kernel_rfl
set_option maxHeartbeats 0 in
theorem hr1_t (w : World) : DH.Tells HR 30000 (w.withFollow "special-get-raises" true) (fun s => DH.kO hF.dd (DH.fragS has s)) (DH.vO hF.dd) := by
  intro os
  kernel_rfl
set_option maxHeartbeats 0 in
theorem hr2_t (w : World) : DH.Tells HR 30000 (w.withFollow "special-get-raises" true) (fun s => DH.kD hF.dd (DH.fragS has s)) true := by
  intro os
  kernel_rfl
theorem hrun (w : World) : HandSHeadRun.RunEq HR HV hhk hob 30000 hnm w := PySem.W.byRow2 "special-get-raises" (P := fun w => HandSHeadRun.RunEq HR HV hhk hob 30000 hnm w) (fun w => DH.run_of (fun s => rfl) (hr0_f w) (hr1_f w) (hr2_f w)) (fun w => DH.run_of (fun s => rfl) (hr0_t w) (hr1_t w) (hr2_t w)) w
end G
/-! An own layer over the hand layer: values as trees, mutable objects by number in a store, each construct read by a plain function. -/
namespace DL
open PySem L2

/-- a value as a tree; ref: a mutable object's number; obj: an instance that changes no more, by its class's number -/
inductive D where
  | non | bl (b : Bool) | int (i : Int) | str (s : Str)
  | tup (xs : List D) | lst (xs : List D) | dct (kvs : List (D × D))
  | obj (c : Nat) (fs : List (Str × D))
  | ref (n : Nat)
  /-- the script: known to the object, read alone -/
  | scr (ns : List Int)
  /-- a tuple of the module's own -/
  | ktup (xs : List D)
  /-- a dict that is locked for good -/
  | fdct (kvs : List (D × D))
  /-- an error made and not raised, by its class's number -/
  | err (c : Nat)
  deriving Inhabited
mutual
def D.beq : D → D → Bool
  | .non, .non => true
  | .bl a, .bl b => a == b
  | .int a, .int b => a == b
  | .str a, .str b => a == b
  | .tup a, .tup b => D.beqL a b
  | .lst a, .lst b => D.beqL a b
  | .dct a, .dct b => D.beqK a b
  | .obj c a, .obj d b => c == d && D.beqF a b
  | .ref a, .ref b => a == b
  | .scr a, .scr b => a == b
  | .err a, .err b => a == b
  | .ktup a, .ktup b => D.beqL a b
  | .fdct a, .fdct b => D.beqK a b
  | _, _ => false
def D.beqL : List D → List D → Bool
  | [], [] => true
  | a :: r, b :: s => D.beq a b && D.beqL r s
  | _, _ => false
def D.beqK : List (D × D) → List (D × D) → Bool
  | [], [] => true
  | (k, a) :: r, (l, b) :: s => D.beq k l && (D.beq a b && D.beqK r s)
  | _, _ => false
def D.beqF : List (Str × D) → List (Str × D) → Bool
  | [], [] => true
  | (k, a) :: r, (l, b) :: s => k == l && (D.beq a b && D.beqF r s)
  | _, _ => false
end
mutual
theorem D.beq_iff : ∀ a b : D, D.beq a b = true ↔ a = b
  | .non, b => by cases b <;> simp [D.beq]
  | .bl _, b => by cases b <;> simp [D.beq]
  | .int _, b => by cases b <;> simp [D.beq]
  | .str _, b => by cases b <;> simp [D.beq]
  | .tup a, b => by cases b <;> simp [D.beq]; exact D.beqL_iff a _
  | .lst a, b => by cases b <;> simp [D.beq]; exact D.beqL_iff a _
  | .dct a, b => by cases b <;> simp [D.beq]; exact D.beqK_iff a _
  | .obj _ a, b => by cases b <;> simp [D.beq]; exact fun _ => D.beqF_iff a _
  | .ref _, b => by cases b <;> simp [D.beq]
  | .scr _, b => by cases b <;> simp [D.beq]
  | .err _, b => by cases b <;> simp [D.beq]
  | .ktup a, b => by cases b <;> simp [D.beq]; exact D.beqL_iff a _
  | .fdct a, b => by cases b <;> simp [D.beq]; exact D.beqK_iff a _
theorem D.beqL_iff : ∀ a b : List D, D.beqL a b = true ↔ a = b
  | [], b => by cases b <;> simp [D.beqL]
  | x :: r, b => by
    cases b with
    | nil => simp [D.beqL]
    | cons y s => simp [D.beqL, D.beq_iff x y, D.beqL_iff r s]
theorem D.beqK_iff : ∀ a b : List (D × D), D.beqK a b = true ↔ a = b
  | [], b => by cases b <;> simp [D.beqK]
  | (k, x) :: r, b => by
    cases b with
    | nil => simp [D.beqK]
    | cons y s => obtain ⟨l, y⟩ := y; simp [D.beqK, D.beq_iff x y, D.beq_iff k l, D.beqK_iff r s, and_assoc]
theorem D.beqF_iff : ∀ a b : List (Str × D), D.beqF a b = true ↔ a = b
  | [], b => by cases b <;> simp [D.beqF]
  | (k, x) :: r, b => by
    cases b with
    | nil => simp [D.beqF]
    | cons y s => obtain ⟨l, y⟩ := y; simp [D.beqF, D.beq_iff x y, D.beqF_iff r s, and_assoc]
end
instance : DecidableEq D := fun a b => decidable_of_iff _ (D.beq_iff a b)
/-- a mutable object: a list, a dict (tk: its keys are tuples), an instance -/
inductive O where
  | lst (xs : List D) | dct (tk : Bool) (kvs : List (D × D)) | ins (c : Nat) (fs : List (Str × D))
  /-- a dict with tuple keys that is locked for a while -/
  | fz (kvs : List (D × D))
  deriving Inhabited, DecidableEq
abbrev Store := List O
structure Exc where
  c : Nat
  fld : Option Int
  deriving Inhabited
/-- a slot: nothing, a value, a caught error -/
inductive Sl where
  | no | val (d : D) | exc (e : Exc)
  deriving Inhabited
abbrev Env' := List Sl
inductive Res where
  | ok (d : D) (S : Store) (fr : Bool)
  | exc (e : Exc) (S : Store)
  | stuck
  deriving Inhabited
inductive FR where
  | nx (env : Env') (S : Store)
  | rt (d : D) (S : Store) (fr : Bool)
  | bk (env : Env') (S : Store)
  | ct (env : Env') (S : Store)
  | exc (e : Exc) (env : Env') (S : Store)
  | stuck
  deriving Inhabited
abbrev ME := Env' → Store → Res
abbrev MS := Env' → Store → FR
abbrev MF := List D → Store → Res

structure Gam where
  K : PySem.W.Frag
  cl : Nat → Addr
  xi : Option (Addr × Exc)

/-- a value as a key -/
def keyOf : D → Option Key
  | .int i => some (.inl i)
  | .str s => if PyData.strOk s = true then some (.inr s) else none
  | _ => none
def keysOf : List D → Option (List Key)
  | [] => some []
  | d :: r => match keyOf d, keysOf r with
    | some k, some ks => some (k :: ks)
    | _, _ => none
def tkeyOf : D → Option (List Key)
  | .tup xs => keysOf xs
  | _ => none

/-- a tuple of the written part -/
def SqK (K : PySem.W.Frag) (a : Addr) (xs : List V) : Prop :=
  ∃ (o : Obj) (its : Array Value) (n : Nat), K.lookup a = some o ∧ o.cls = .type "tuple" ∧ o.data = .seq its n ∧ its.size ≤ sizeLine ∧ Vals xs its.toList
/-- a list that stands still for good: locked, or of the module -/
def SqF (K : PySem.W.Frag) (H : Hp) (a : Addr) (xs : List V) : Prop :=
  (∃ o, H a = some (.frz o (.lst xs))) ∨
    ∃ (o : Obj) (its : Array Value) (n : Nat), K.lookup a = some o ∧ o.cls = .type "list" ∧ o.dict = none ∧ o.data = .seq its n ∧ its.size ≤ sizeLine ∧ Vals xs its.toList
theorem SqF.sq {K : PySem.W.Frag} {H : Hp} {a : Addr} {xs : List V} (h : SqF K H a xs) : SqL K H a xs := h.elim (fun h => .inl (.inr h)) .inr
mutual
inductive RV (G : Gam) (H : Hp) (pi rho : List Addr) : V → D → Prop
  | non : RV G H pi rho .non .non
  | bl (b : Bool) : RV G H pi rho (.bl b) (.bl b)
  | int (i : Int) : RV G H pi rho (.int i) (.int i)
  | str {s : Str} : PyData.strOk s = true → RV G H pi rho (.str s) (.str s)
  | tup {a : Addr} {vs : List V} {ds : List D} : H a = some (.tup vs) → vs.length ≤ sizeLine → RVs G H pi rho vs ds → RV G H pi rho (.ref a) (.tup ds)
  | ktup {a : Addr} {vs : List V} {ds : List D} : SqK G.K a vs → vs.length ≤ sizeLine → RVs G H pi rho vs ds → RV G H pi rho (.ref a) (.ktup ds)
  | lst {a : Addr} {vs : List V} {ds : List D} : H a = some (.lst vs) → a ∉ pi → a ∉ rho → vs.length ≤ sizeLine → RVs G H pi rho vs ds → RV G H pi rho (.ref a) (.lst ds)
  | dct {a : Addr} {ks : List (Key × V)} {kvs : List (D × D)} : H a = some (.dK ks) → a ∉ pi → a ∉ rho → ks.length ≤ sizeLine → RKs G H pi rho ks kvs → RV G H pi rho (.ref a) (.dct kvs)
  | obj {a dx : Addr} {c : Nat} {fs : List (Str × V)} {ds : List (Str × D)} : H a = some (.ins (G.cl c) dx fs) → a ∉ pi → a ∉ rho → RFs G H pi rho fs ds → RV G H pi rho (.ref a) (.obj c ds)
  | ref {a : Addr} {n : Nat} : pi[n]? = some a → RV G H pi rho (.ref a) (.ref n)
  | fdct {a : Addr} {o : Obj} {ks : List (Key × V)} {kvs : List (D × D)} : H a = some (.frz o (.dK ks)) → ks.length ≤ sizeLine → RKs G H pi rho ks kvs → RV G H pi rho (.ref a) (.fdct kvs)
  | scr {a : Addr} {ns : List Int} : SqF G.K H a (ns.map V.int) → ns.length ≤ sizeLine → RV G H pi rho (.ref a) (.scr ns)
  | err {a : Addr} {c : Nat} : H a = some (L2.ExO (.ref (G.cl c)) a) → a ∉ pi → a ∉ rho → RV G H pi rho (.ref a) (.err c)
inductive RVs (G : Gam) (H : Hp) (pi rho : List Addr) : List V → List D → Prop
  | nil : RVs G H pi rho [] []
  | cons {v : V} {vs : List V} {d : D} {ds : List D} : RV G H pi rho v d → RVs G H pi rho vs ds → RVs G H pi rho (v :: vs) (d :: ds)
inductive RKs (G : Gam) (H : Hp) (pi rho : List Addr) : List (Key × V) → List (D × D) → Prop
  | nil : RKs G H pi rho [] []
  | cons {k : Key} {kd : D} {v : V} {d : D} {ks : List (Key × V)} {ds : List (D × D)} : keyOf kd = some k → RV G H pi rho v d → RKs G H pi rho ks ds → RKs G H pi rho ((k, v) :: ks) ((kd, d) :: ds)
inductive RFs (G : Gam) (H : Hp) (pi rho : List Addr) : List (Str × V) → List (Str × D) → Prop
  | nil : RFs G H pi rho [] []
  | cons {f : Str} {v : V} {d : D} {fs : List (Str × V)} {ds : List (Str × D)} : RV G H pi rho v d → RFs G H pi rho fs ds → RFs G H pi rho ((f, v) :: fs) ((f, d) :: ds)
end
/-- pairs of a dict with tuple keys -/
inductive RTs (G : Gam) (H : Hp) (pi rho : List Addr) : List (List Key × V) → List (D × D) → Prop
  | nil : RTs G H pi rho [] []
  | cons {k : List Key} {kd : D} {v : V} {d : D} {ks : List (List Key × V)} {ds : List (D × D)} : tkeyOf kd = some k → RV G H pi rho v d → RTs G H pi rho ks ds → RTs G H pi rho ((k, v) :: ks) ((kd, d) :: ds)

/-- how a heap may go on, for values -/
structure Ext (H : Hp) (pi rho : List Addr) (H' : Hp) (pi' rho' : List Addr) : Prop where
  tup : ∀ a xs, H a = some (.tup xs) → H' a = some (.tup xs)
  frz : ∀ a o u, H a = some (.frz o u) → H' a = some (.frz o u)
  keep : ∀ a o, H a = some o → a ∉ pi → a ∉ rho → H' a = some o ∧ a ∉ pi' ∧ a ∉ rho'
  ref : ∀ (n : Nat) (a : Addr), pi[n]? = some a → pi'[n]? = some a
  dom : ∀ a, H a ≠ none → H' a ≠ none

section
variable {G : Gam} {H H1 H' : Hp} {pi pi1 pi' rho rho1 rho' : List Addr}
theorem Ext.refl : Ext H pi rho H pi rho := ⟨fun _ _ e => e, fun _ _ _ e => e, fun _ _ e n m => ⟨e, n, m⟩, fun _ _ e => e, fun _ e => e⟩
theorem Ext.trans (a : Ext H pi rho H1 pi1 rho1) (b : Ext H1 pi1 rho1 H' pi' rho') : Ext H pi rho H' pi' rho' :=
  ⟨fun x xs e => b.tup x xs (a.tup x xs e), fun x o u e => b.frz x o u (a.frz x o u e), fun x o e n m => b.keep x o (a.keep x o e n m).1 (a.keep x o e n m).2.1 (a.keep x o e n m).2.2,
    fun n x e => b.ref n x (a.ref n x e), fun x e => b.dom x (a.dom x e)⟩
mutual
theorem RV.mono (x : Ext H pi rho H' pi' rho') : ∀ {v : V} {d : D}, RV G H pi rho v d → RV G H' pi' rho' v d
  | _, _, .non => .non
  | _, _, .bl b => .bl b
  | _, _, .int i => .int i
  | _, _, .str s => .str s
  | _, _, .tup h z r => .tup (x.tup _ _ h) z (RVs.mono x r)
  | _, _, .ktup h z r => .ktup h z (RVs.mono x r)
  | _, _, .lst h n m z r => .lst (x.keep _ _ h n m).1 (x.keep _ _ h n m).2.1 (x.keep _ _ h n m).2.2 z (RVs.mono x r)
  | _, _, .dct h n m z r => .dct (x.keep _ _ h n m).1 (x.keep _ _ h n m).2.1 (x.keep _ _ h n m).2.2 z (RKs.mono x r)
  | _, _, .obj h n m r => .obj (x.keep _ _ h n m).1 (x.keep _ _ h n m).2.1 (x.keep _ _ h n m).2.2 (RFs.mono x r)
  | _, _, .ref h => .ref (x.ref _ _ h)
  | _, _, .fdct h z r => .fdct (x.frz _ _ _ h) z (RKs.mono x r)
  | _, _, .scr h z => .scr (h.elim (fun ⟨o, h⟩ => .inl ⟨o, x.frz _ _ _ h⟩) .inr) z
  | _, _, .err h n m => .err (x.keep _ _ h n m).1 (x.keep _ _ h n m).2.1 (x.keep _ _ h n m).2.2
theorem RVs.mono (x : Ext H pi rho H' pi' rho') : ∀ {v : List V} {d : List D}, RVs G H pi rho v d → RVs G H' pi' rho' v d
  | _, _, .nil => .nil
  | _, _, .cons h r => .cons (RV.mono x h) (RVs.mono x r)
theorem RKs.mono (x : Ext H pi rho H' pi' rho') : ∀ {v : List (Key × V)} {d : List (D × D)}, RKs G H pi rho v d → RKs G H' pi' rho' v d
  | _, _, .nil => .nil
  | _, _, .cons k h r => .cons k (RV.mono x h) (RKs.mono x r)
theorem RFs.mono (x : Ext H pi rho H' pi' rho') : ∀ {v : List (Str × V)} {d : List (Str × D)}, RFs G H pi rho v d → RFs G H' pi' rho' v d
  | _, _, .nil => .nil
  | _, _, .cons h r => .cons (RV.mono x h) (RFs.mono x r)
end
theorem RTs.mono (x : Ext H pi rho H' pi' rho') : ∀ {v : List (List Key × V)} {d : List (D × D)}, RTs G H pi rho v d → RTs G H' pi' rho' v d
  | _, _, .nil => .nil
  | _, _, .cons k h r => .cons k (RV.mono x h) (RTs.mono x r)
/-- the context's caught error is no matter for values -/
theorem RVs.length : ∀ {v : List V} {d : List D}, RVs G H pi rho v d → v.length = d.length
  | _, _, .nil => rfl
  | _, _, .cons _ r => by simp [RVs.length r]
theorem RVs.get : ∀ {v : List V} {d : List D} {i : Nat} {y : D}, RVs G H pi rho v d → d[i]? = some y → ∃ x, v[i]? = some x ∧ RV G H pi rho x y
  | _, _, i, _, .nil, e => by simp at e
  | _, _, 0, _, .cons h _, e => by simp at e; subst e; exact ⟨_, rfl, h⟩
  | _, _, i + 1, y, .cons _ r, e => by
    obtain ⟨x, h1, h2⟩ := RVs.get (i := i) (y := y) r (by simpa using e)
    exact ⟨x, by simpa using h1, h2⟩
theorem RVs.get' : ∀ {v : List V} {d : List D} {i : Nat} {x : V}, RVs G H pi rho v d → v[i]? = some x → ∃ y, d[i]? = some y ∧ RV G H pi rho x y
  | _, _, i, _, .nil, e => by simp at e
  | _, _, 0, _, .cons h _, e => by simp at e; subst e; exact ⟨_, rfl, h⟩
  | _, _, i + 1, y, .cons _ r, e => by
    obtain ⟨x, h1, h2⟩ := RVs.get' (i := i) (x := y) r (by simpa using e)
    exact ⟨x, by simpa using h1, h2⟩
theorem RVs.append : ∀ {v v' : List V} {d d' : List D}, RVs G H pi rho v d → RVs G H pi rho v' d' → RVs G H pi rho (v ++ v') (d ++ d')
  | _, _, _, _, .nil, r => r
  | _, _, _, _, .cons h r, r' => .cons h (RVs.append r r')
theorem RVs.take : ∀ {v : List V} {d : List D} (n : Nat), RVs G H pi rho v d → RVs G H pi rho (v.take n) (d.take n)
  | _, _, 0, _ => .nil
  | _, _, _ + 1, .nil => .nil
  | _, _, n + 1, .cons h r => .cons h (RVs.take n r)
theorem RVs.drop : ∀ {v : List V} {d : List D} (n : Nat), RVs G H pi rho v d → RVs G H pi rho (v.drop n) (d.drop n)
  | _, _, 0, r => r
  | _, _, _ + 1, .nil => .nil
  | _, _, n + 1, .cons h r => RVs.drop n r
theorem RVs.set : ∀ {v : List V} {d : List D} (n : Nat) {x : V} {y : D}, RVs G H pi rho v d → RV G H pi rho x y → RVs G H pi rho (v.set n x) (d.set n y)
  | _, _, _, _, _, .nil, _ => .nil
  | _, _, 0, _, _, .cons _ r, h => .cons h r
  | _, _, n + 1, _, _, .cons q r, h => .cons q (RVs.set n r h)
end

def RO (G : Gam) (H : Hp) (pi rho : List Addr) (a : Addr) : O → Prop
  | .lst ds => ∃ vs, H a = some (.lst vs) ∧ vs.length ≤ sizeLine ∧ RVs G H pi rho vs ds
  | .dct false kvs => ∃ ks, H a = some (.dK ks) ∧ ks.length ≤ sizeLine ∧ RKs G H pi rho ks kvs
  | .dct true kvs => ∃ ks, H a = some (.dT ks) ∧ ks.length ≤ sizeLine ∧ RTs G H pi rho ks kvs
  | .ins c fs => ∃ dx fs', H a = some (.ins (G.cl c) dx fs') ∧ RFs G H pi rho fs' fs
  | .fz kvs => ∃ od ks, H a = some (.frz od (.dT ks)) ∧ ks.length ≤ sizeLine ∧ RTs G H pi rho ks kvs
structure Rel (G : Gam) (H : Hp) (pi rho : List Addr) (S : Store) : Prop where
  len : pi.length = S.length
  nd : pi.Nodup
  dis : ∀ a ∈ pi, a ∉ rho
  trk : ∀ a ∈ rho, H a ≠ none
  at_ : ∀ (n : Nat) (o : O), S[n]? = some o → ∃ a, pi[n]? = some a ∧ RO G H pi rho a o
/-- a mutable thing -/
def Muta : HO → Prop
  | .lst _ => True
  | .dK _ => True
  | .dT _ => True
  | .ins _ _ _ => True
  | _ => False
theorem RO.there {G : Gam} {H : Hp} {pi rho : List Addr} {a : Addr} : ∀ {o : O}, RO G H pi rho a o → ∃ ho, H a = some ho
  | .lst _, ⟨_, h, _⟩ => ⟨_, h⟩
  | .dct false _, ⟨_, h, _⟩ => ⟨_, h⟩
  | .dct true _, ⟨_, h, _⟩ => ⟨_, h⟩
  | .ins _ _, ⟨_, _, h, _⟩ => ⟨_, h⟩
  | .fz _, ⟨_, _, h, _⟩ => ⟨_, h⟩
section
variable {G : Gam} {H H1 H' : Hp} {pi pi1 pi' rho rho1 rho' : List Addr} {S S' : Store} {a : Addr}
theorem RO.mono (x : Ext H pi rho H' pi' rho') (e : H' a = H a) : ∀ {o : O}, RO G H pi rho a o → RO G H' pi' rho' a o
  | .lst _, ⟨vs, h, z, r⟩ => ⟨vs, e.trans h, z, r.mono x⟩
  | .dct false _, ⟨vs, h, z, r⟩ => ⟨vs, e.trans h, z, r.mono x⟩
  | .dct true _, ⟨vs, h, z, r⟩ => ⟨vs, e.trans h, z, r.mono x⟩
  | .ins _ _, ⟨dx, vs, h, r⟩ => ⟨dx, vs, e.trans h, r.mono x⟩
  | .fz _, ⟨od, vs, h, z, r⟩ => ⟨od, vs, e.trans h, z, r.mono x⟩
theorem Rel.addr (R : Rel G H pi rho S) {n : Nat} (h : pi[n]? = some a) : ∃ o, S[n]? = some o ∧ RO G H pi rho a o := by
  have hn : n < pi.length := (List.getElem?_eq_some_iff.mp h).1
  have hn' : n < S.length := R.len ▸ hn
  obtain ⟨b, hb, r⟩ := R.at_ n S[n] (List.getElem?_eq_getElem hn')
  have : b = a := Option.some.inj (hb.symm.trans h)
  subst this
  exact ⟨_, List.getElem?_eq_getElem hn', r⟩
theorem Rel.mem (R : Rel G H pi rho S) (h : a ∈ pi) : ∃ ho, H a = some ho := by
  obtain ⟨n, hn⟩ := List.getElem?_of_mem h
  obtain ⟨o, _, r⟩ := R.addr hn
  exact r.there
/-- what stands at a number is one address -/
theorem Rel.inj (R : Rel G H pi rho S) {m n : Nat} (h : pi[m]? = some a) (h' : pi[n]? = some a) : m = n :=
  List.getElem?_inj (List.getElem?_eq_some_iff.mp h).1 R.nd |>.mp (h.trans h'.symm)
/-- a new thing is laid that nobody changes -/
theorem Ext.new {p : Addr} {o : HO} (hp : H p = none) : Ext H pi rho (upd H p o) pi rho :=
  ⟨fun b xs e => by rw [upd_ne (ne_of_none e hp)]; exact e, fun b o u e => by rw [upd_ne (ne_of_none e hp)]; exact e, fun b u e n m => ⟨by rw [upd_ne (ne_of_none e hp)]; exact e, n, m⟩, fun _ _ e => e,
    fun b e => by
      by_cases hb : b = p
      · subst hb; rw [upd_same]; exact fun q => by cases q
      · rw [upd_ne hb]; exact e⟩
theorem Ext.newR {p : Addr} {o : HO} (hp : H p = none) : Ext H pi rho (upd H p o) pi (p :: rho) :=
  ⟨(Ext.new (pi := pi) (rho := rho) hp).tup, (Ext.new (pi := pi) (rho := rho) hp).frz, fun b u e n m => ⟨((Ext.new (rho := rho) hp).keep b u e n m).1, n, by
    rw [List.mem_cons]; rintro (q | q)
    · exact ne_of_none e hp q
    · exact m q⟩, fun _ _ e => e, (Ext.new (pi := pi) (rho := rho) hp).dom⟩
theorem Rel.free (R : Rel G H pi rho S) {p : Addr} (hp : H p = none) : p ∉ pi := fun q => by
  obtain ⟨ho, e⟩ := R.mem q
  rw [hp] at e; cases e
theorem Rel.freeR (R : Rel G H pi rho S) {p : Addr} (hp : H p = none) : p ∉ rho := fun q => R.trk p q hp
theorem Rel.new (R : Rel G H pi rho S) {p : Addr} {o : HO} (hp : H p = none) : Rel G (upd H p o) pi rho S :=
  ⟨R.len, R.nd, R.dis, fun b hb => (Ext.new (pi := pi) (rho := rho) hp).dom b (R.trk b hb), fun n u e => by
    obtain ⟨a, ha, r⟩ := R.at_ n u e
    obtain ⟨ho, e1⟩ := r.there
    exact ⟨a, ha, r.mono (Ext.new hp) (upd_ne (ne_of_none e1 hp))⟩⟩
theorem Rel.newR (R : Rel G H pi rho S) {p : Addr} {o : HO} (hp : H p = none) : Rel G (upd H p o) pi (p :: rho) S :=
  ⟨R.len, R.nd, fun a h => by
    rw [List.mem_cons]; rintro (q | q)
    · subst q; exact R.free hp h
    · exact R.dis a h q, fun b hb => (by
      rw [List.mem_cons] at hb
      rcases hb with hb | hb
      · subst hb; rw [upd_same]; exact fun z => by cases z
      · exact (Ext.new (pi := pi) (rho := rho) hp).dom b (R.trk b hb)), fun n u e => by
    obtain ⟨a, ha, r⟩ := R.at_ n u e
    obtain ⟨ho, e1⟩ := r.there
    exact ⟨a, ha, r.mono (Ext.newR hp) (upd_ne (ne_of_none e1 hp))⟩⟩
/-- a mutable thing changes -/
theorem Ext.set (R : Rel G H pi rho S) {n : Nat} {o : HO} (h : pi[n]? = some a) (mu : ∃ ho, H a = some ho ∧ Muta ho) : Ext H pi rho (upd H a o) pi rho := by
  have ha : a ∈ pi := List.mem_of_getElem? h
  obtain ⟨ho, e, m⟩ := mu
  refine ⟨fun b xs q => ?_, fun b u w q => ?_, fun b u q nb nr => ⟨?_, nb, nr⟩, fun _ _ e => e, fun b q => ?_⟩
  · have : b ≠ a := fun z => by subst z; rw [e] at q; cases q; exact m
    rw [upd_ne this]; exact q
  · have : b ≠ a := fun z => by subst z; rw [e] at q; cases q; exact m
    rw [upd_ne this]; exact q
  · have : b ≠ a := fun z => nb (z ▸ ha)
    rw [upd_ne this]; exact q
  · by_cases hb : b = a
    · subst hb; rw [upd_same]; exact fun z => by cases z
    · rw [upd_ne hb]; exact q
theorem Rel.set (R : Rel G H pi rho S) {n : Nat} {o : HO} {u : O} (h : pi[n]? = some a) (mu : ∃ ho, H a = some ho ∧ Muta ho) (r : RO G (upd H a o) pi rho a u) : Rel G (upd H a o) pi rho (S.set n u) := by
  refine ⟨by rw [List.length_set]; exact R.len, R.nd, R.dis, fun b hb => (Ext.set (o := o) R h mu).dom b (R.trk b hb), fun m w e => ?_⟩
  by_cases hm : m = n
  · subst hm
    have : m < S.length := R.len ▸ (List.getElem?_eq_some_iff.mp h).1
    rw [List.getElem?_set_self this] at e
    cases e
    exact ⟨a, h, r⟩
  · rw [List.getElem?_set_ne (Ne.symm hm)] at e
    obtain ⟨b, hb, rb⟩ := R.at_ m w e
    have hba : b ≠ a := fun q => hm (R.inj (q ▸ hb) h)
    exact ⟨b, hb, rb.mono (Ext.set R h mu) (upd_ne hba)⟩
/-- what is known of the heap behind a step -/
structure Go (H : Hp) (pi rho : List Addr) (H' : Hp) (pi' : List Addr) : Prop where
  x : Ext H pi rho H' pi' rho
  res : ∀ a o, a ∈ rho → H a = some o → H' a = some o
  new' : ∀ a, a ∈ pi' → a ∉ pi → H a = none
theorem Go.refl : Go H pi rho H pi := ⟨.refl, fun _ _ _ e => e, fun _ h n => (n h).elim⟩
theorem Go.none (g : Go H pi rho H' pi') {p : Addr} (h : H' p = Option.none) : H p = Option.none := by
  cases e : H p with
  | none => rfl
  | some o => exact absurd h (g.x.dom p (by rw [e]; exact fun z => by cases z))
theorem Go.trans (a : Go H pi rho H1 pi1) (b : Go H1 pi1 rho H' pi') : Go H pi rho H' pi' := ⟨a.x.trans b.x, fun x o m e => b.res x o m (a.res x o m e), fun x h n => by
  by_cases m : x ∈ pi1
  · exact a.new' x m n
  · exact a.none (b.new' x h m)⟩
theorem Go.new {p : Addr} {o : HO} (hp : H p = Option.none) : Go H pi rho (upd H p o) pi := ⟨.new hp, fun b u _ e => by rw [upd_ne (ne_of_none e hp)]; exact e, fun _ h n => (n h).elim⟩
theorem Go.set (R : Rel G H pi rho S) {n : Nat} {o : HO} (h : pi[n]? = some a) (mu : ∃ ho, H a = some ho ∧ Muta ho) : Go H pi rho (upd H a o) pi := ⟨Ext.set R h mu, fun b u m e => by
  have : b ≠ a := fun z => R.dis a (List.mem_of_getElem? h) (z ▸ m)
  rw [upd_ne this]; exact e, fun _ h n => (n h).elim⟩
/-- a reserved thing becomes a mutable one -/
theorem Rel.push {p : Addr} {o : O} (R : Rel G H pi (p :: rho) S) (hp : p ∉ rho) (r : RO G H pi (p :: rho) p o) : Rel G H (pi ++ [p]) rho (S ++ [o]) := by
  have hpi : p ∉ pi := fun q => R.dis p q List.mem_cons_self
  have x : Ext H pi (p :: rho) H (pi ++ [p]) rho := ⟨fun _ _ e => e, fun _ _ _ e => e, fun b u e n m => by
    rw [List.mem_cons] at m
    refine ⟨e, ?_, fun q => m (.inr q)⟩
    rw [List.mem_append]; rintro (q | q)
    · exact n q
    · rw [List.mem_singleton] at q; exact m (.inl q), fun n b e => by rw [List.getElem?_append_left (List.getElem?_eq_some_iff.mp e).1]; exact e, fun _ e => e⟩
  refine ⟨by simp [R.len], ?_, ?_, fun b hb => R.trk b (List.mem_cons_of_mem _ hb), fun n u e => ?_⟩
  · rw [List.nodup_append]
    exact ⟨R.nd, by simp, fun b hb c hc => by rw [List.mem_singleton] at hc; subst hc; exact fun q => hpi (q ▸ hb)⟩
  · intro b hb
    rw [List.mem_append] at hb
    rcases hb with hb | hb
    · exact fun q => R.dis b hb (List.mem_cons_of_mem _ q)
    · rw [List.mem_singleton] at hb; subst hb; exact hp
  · by_cases hn : n < S.length
    · rw [List.getElem?_append_left hn] at e
      obtain ⟨b, hb, rb⟩ := R.at_ n u e
      exact ⟨b, x.ref _ _ hb, rb.mono x rfl⟩
    · have hn2 : n < (S ++ [o]).length := (List.getElem?_eq_some_iff.mp e).1
      have : n = S.length := by simp at hn2; omega
      subst this
      rw [List.getElem?_append_right (Nat.le_refl _), Nat.sub_self] at e
      cases e
      refine ⟨p, ?_, r.mono x rfl⟩
      rw [List.getElem?_append_right (by rw [R.len]; exact Nat.le_refl _), R.len, Nat.sub_self]; rfl
end
end DL
namespace DL
open PySem L2

def toO : D → Option O
  | .lst ds => some (.lst ds)
  | .dct kvs => some (.dct false kvs)
  | .obj c fs => some (.ins c fs)
  | _ => none
/-- v is a new thing that nothing else holds -/
def Frsh (G : Gam) (H0 H' : Hp) (pi' rho : List Addr) (v : V) (d : D) (S' : Store) : Prop :=
  ∃ p o, v = .ref p ∧ H0 p = none ∧ p ∉ rho ∧ toO d = some o ∧ RO G H' pi' (p :: rho) p o ∧ Rel G H' pi' (p :: rho) S'
def RExc (G : Gam) (H : Hp) (rho : List Addr) (e : Exc) (cls : Value) (dx : Option Addr) : Prop :=
  cls = .ref (G.cl e.c) ∧ match e.fld with
    | none => dx = none
    | some i => ∃ a, dx = some a ∧ H a = some (.xd [("line", .int i)]) ∧ a ∉ rho
/-- the error in the context, e', against the one of a slot, e: where it has a field, e' tells where its own dict stands -/
def XAt (H : Hp) (pi rho : List Addr) (e e' : Exc) : Prop := e'.c = e.c ∧ match e.fld with
  | none => e'.fld = none
  | some i => ∃ dx : Addr, e'.fld = some (Int.ofNat dx) ∧ H dx = some (.xd [("line", .int i)]) ∧ dx ∉ pi ∧ dx ∉ rho
theorem XAt.mono {H H' : Hp} {pi pi' rho rho' : List Addr} (x : Ext H pi rho H' pi' rho') {e e' : Exc} (h : XAt H pi rho e e') : XAt H' pi' rho' e e' := by
  obtain ⟨c, f⟩ := e
  cases f with
  | none => exact h
  | some i =>
    obtain ⟨h1, dx, h2, h3, h4, h5⟩ := h
    obtain ⟨k1, k2, k3⟩ := x.keep dx _ h3 h4 h5
    exact ⟨h1, dx, h2, k1, k2, k3⟩
def RSl (G : Gam) (H : Hp) (pi rho : List Addr) (o : Option (Option V)) : Sl → Prop
  | .no => True
  | .val d => ∃ v, o = some (some v) ∧ RV G H pi rho v d
  | .exc e => ∃ a e', o = some (some (.ref a)) ∧ G.xi = some (a, e') ∧ XAt H pi rho e e'
structure REnv (G : Gam) (H : Hp) (pi rho : List Addr) (σ : St) (env : Env') : Prop where
  len : σ.length = env.length
  at_ : ∀ (i : Nat) (sl : Sl), env[i]? = some sl → RSl G H pi rho σ[i]? sl
section
variable {G : Gam} {H H1 H' : Hp} {pi pi1 pi' rho rho' : List Addr} {σ σ' : St} {env env' : Env'} {S S' : Store}
theorem RSl.mono (x : Ext H pi rho H' pi' rho') {o : Option (Option V)} : ∀ {sl : Sl}, RSl G H pi rho o sl → RSl G H' pi' rho' o sl
  | .no, _ => trivial
  | .val _, ⟨v, e, r⟩ => ⟨v, e, r.mono x⟩
  | .exc _, ⟨a, e', h1, h2, h3⟩ => ⟨a, e', h1, h2, h3.mono x⟩
theorem REnv.mono (x : Ext H pi rho H' pi' rho') (N : REnv G H pi rho σ env) : REnv G H' pi' rho' σ env := ⟨N.len, fun i sl e => (N.at_ i sl e).mono x⟩
theorem REnv.set (N : REnv G H pi rho σ env) {v : V} {d : D} (r : RV G H pi rho v d) (i : Nat) : REnv G H pi rho (σ.set i (some v)) (env.set i (.val d)) := by
  refine ⟨by simp [N.len], fun j sl e => ?_⟩
  by_cases hj : j = i
  · subst hj
    have hl : j < env.length := by
      have := (List.getElem?_eq_some_iff.mp e).1
      simpa using this
    rw [List.getElem?_set_self hl] at e
    cases e
    exact ⟨v, by rw [List.getElem?_set_self (by rw [N.len]; exact hl)], r⟩
  · rw [List.getElem?_set_ne (Ne.symm hj)] at e ⊢
    exact N.at_ j sl e
theorem REnv.setNo (N : REnv G H pi rho σ env) (i : Nat) (o : Option V) : REnv G H pi rho (σ.set i o) (env.set i .no) := by
  refine ⟨by simp [N.len], fun j sl e => ?_⟩
  by_cases hj : j = i
  · subst hj
    have hl : j < env.length := by
      have := (List.getElem?_eq_some_iff.mp e).1
      simpa using this
    rw [List.getElem?_set_self hl] at e
    cases e
    trivial
  · rw [List.getElem?_set_ne (Ne.symm hj)] at e ⊢
    exact N.at_ j sl e
/-- the start of a def's body -/
theorem REnv.start {vs : List V} {ds : List D} (r : RVs G H pi rho vs ds) (N : List Str) : REnv G H pi rho (L2.start N vs) (ds.map .val ++ List.replicate (N.length - ds.length) .no) := by
  have hl := r.length
  refine ⟨by unfold L2.start; simp [hl], fun i sl e => ?_⟩
  unfold L2.start
  by_cases h : i < ds.length
  · rw [List.getElem?_append_left (by simpa using h), List.getElem?_map] at e
    obtain ⟨d, hd⟩ : ∃ d, ds[i]? = some d := ⟨ds[i], List.getElem?_eq_getElem h⟩
    rw [hd] at e
    cases e
    obtain ⟨v, hv, q⟩ := r.get hd
    exact ⟨v, by rw [List.getElem?_append_left (by rw [List.length_map, hl]; exact h), List.getElem?_map, hv]; rfl, q⟩
  · rw [List.getElem?_append_right (by simp; omega)] at e
    have := List.eq_of_mem_replicate (List.mem_of_getElem? e)
    subst this
    trivial
end

def PostE (G : Gam) (W : WX) (σ : St) (H : Hp) (pi rho : List Addr) (Q : VK) : Res → Prop
  | .ok d S' fr => ∀ v H' pi', Rel G H' pi' rho S' → RV G H' pi' rho v d → Go H pi rho H' pi' → (fr = true → Frsh G H H' pi' rho v d S') → Q v H'
  | .exc e S' => ∀ cls dx H' pi', Rel G H' pi' rho S' → Go H pi rho H' pi' → RExc G H' rho e cls dx → W cls dx σ H'
  | .stuck => False
def tD (G : Gam) (W : WX) (m : ME) : TE := fun σ H Q => ∃ pi rho S env, Rel G H pi rho S ∧ REnv G H pi rho σ env ∧ PostE G W σ H pi rho Q (m env S)
def Res.bind (r : Res) (f : D → Store → Bool → Res) : Res := match r with
  | .ok d S fr => f d S fr
  | .exc e S => .exc e S
  | .stuck => .stuck
@[simp] theorem Res.bind_ok (d : D) (S : Store) (fr : Bool) (f : D → Store → Bool → Res) : (Res.ok d S fr).bind f = f d S fr := rfl
@[simp] theorem Res.bind_exc (e : Exc) (S : Store) (f : D → Store → Bool → Res) : (Res.exc e S).bind f = .exc e S := rfl
@[simp] theorem Res.bind_stuck (f : D → Store → Bool → Res) : Res.stuck.bind f = .stuck := rfl
section
variable {G : Gam} {W : WX} {H H1 H' : Hp} {pi pi1 pi' rho : List Addr} {σ σ' : St} {env env' : Env'} {S S' : Store} {Q : VK}
theorem Frsh.base (g : Go H pi rho H1 pi1) {v : V} {d : D} (h : Frsh G H1 H' pi' rho v d S') : Frsh G H H' pi' rho v d S' := by
  obtain ⟨p, o, e, n, r⟩ := h
  exact ⟨p, o, e, g.none n, r⟩
theorem PostE.base (g : Go H pi rho H1 pi1) : ∀ {r : Res}, PostE G W σ H pi rho Q r → PostE G W σ H1 pi1 rho Q r
  | .ok _ _ _, h => fun v H' pi' R r g' f => h v H' pi' R r (g.trans g') fun e => (f e).base g
  | .exc _ _, h => fun c d H' pi' R g' r => h c d H' pi' R (g.trans g') r
  | .stuck, h => h
theorem tD.bind {m : ME} {f : D → Store → Bool → Res} {Q' : VK} (R : Rel G H pi rho S) (N : REnv G H pi rho σ env) (h : PostE G W σ H pi rho Q ((m env S).bind f))
    (k : ∀ v H1 d pi1 S1 fr, Rel G H1 pi1 rho S1 → RV G H1 pi1 rho v d → Go H pi rho H1 pi1 → (fr = true → Frsh G H H1 pi1 rho v d S1) → PostE G W σ H1 pi1 rho Q (f d S1 fr) → Q' v H1) : tD G W m σ H Q' := by
  refine ⟨pi, rho, S, env, R, N, ?_⟩
  cases e : m env S with
  | ok d S1 fr =>
    rw [e] at h
    intro v H1 pi1 R1 r g f1
    exact k v H1 d pi1 S1 fr R1 r g f1 (h.base g)
  | exc x S1 => rw [e] at h; exact h
  | stuck => rw [e] at h; exact h
/-- a value that is done -/
theorem PostE.fin {v : V} {d : D} (h : PostE G W σ H pi rho Q (.ok d S false)) (R : Rel G H pi rho S) (r : RV G H pi rho v d) : Q v H := h v H pi R r .refl fun e => by cases e
/-- a new list -/
theorem PostE.newL {vs : List V} {ds : List D} {p : Addr} {b : Bool} (h : PostE G W σ H pi rho Q (.ok (.lst ds) S b)) (R : Rel G H pi rho S) (r : RVs G H pi rho vs ds) (hz : vs.length ≤ sizeLine) (hp : H p = none) :
    Q (.ref p) (upd H p (.lst vs)) :=
  h _ _ pi (R.new hp) (.lst upd_same (R.free hp) (R.freeR hp) hz (r.mono (Ext.new hp))) (Go.new hp) fun _ => ⟨p, _, rfl, hp, R.freeR hp, rfl, ⟨vs, upd_same, hz, r.mono (Ext.newR hp)⟩, R.newR hp⟩
end
end DL
namespace DL
open PySem L2

abbrev Ctx := (Nat → Addr) × Option (Addr × Exc)
abbrev gm (X : Cx) (c : Ctx) : Gam := ⟨X.K, c.1, c.2⟩
theorem PE_weak {X : Cx} {e : Expr} {t t' : TE} (h : PE X e t) (f : ∀ σ H Q, t' σ H Q → t σ H Q) : PE X e t' := ⟨fun pins s σ H Q I q => h.run pins s σ H Q I (f σ H Q q)⟩
theorem PT_weak {X : Cx} {e : Expr} {t t' : TT} (h : PT X e t) (f : ∀ σ H Q, t' σ H Q → t σ H Q) : PT X e t' := ⟨fun pins s σ H Q I q => h.run pins s σ H Q I (f σ H Q q)⟩
theorem PW_weak {X : Cx} {e : Expr} {t t' : TT} (h : PW X e t) (f : ∀ σ H Q, t' σ H Q → t σ H Q) : PW X e t' := ⟨fun wh pins s σ H Q I q => h.run wh pins s σ H Q I (f σ H Q q)⟩
theorem PA_weak {X : Cx} {e : List Expr} {t t' : TA} (h : PA X e t) (f : ∀ σ H Q, t' σ H Q → t σ H Q) : PA X e t' := ⟨fun pos pins s σ H Q I q => h.run pos pins s σ H Q I (f σ H Q q)⟩
theorem PS_weak {X : Cx} {e : Stmt} {t t' : TS} (h : PS X e t) (f : ∀ D σ H, t' D σ H → t D σ H) : PS X e t' := ⟨fun pins s σ H D I q => h.run pins s σ H D I (f D σ H q)⟩
theorem PSs_weak {X : Cx} {e : List Stmt} {t t' : TS} (h : PSs X e t) (f : ∀ D σ H, t' D σ H → t D σ H) : PSs X e t' := ⟨fun pins s σ H D I q => h.run pins s σ H D I (f D σ H q)⟩
/-- the expression e is read by m -/
def DE (X : Cx) (c : Ctx) (W : WX) (e : Expr) (m : ME) : Prop := PE X e (tD (gm X c) W m)
/-- .. as a test -/
def DT (X : Cx) (c : Ctx) (W : WX) (e : Expr) (m : ME) : Prop := PT X e (tB (tD (gm X c) W m))
def DW (X : Cx) (c : Ctx) (W : WX) (e : Expr) (m : ME) : Prop := PW X e (tB (tD (gm X c) W m))

/-! ### arguments -/
inductive ARes where
  | ok (ds : List D) (S : Store)
  | exc (e : Exc) (S : Store)
  | stuck
def ARes.bind (r : ARes) (f : List D → Store → Res) : Res := match r with
  | .ok d S => f d S
  | .exc e S => .exc e S
  | .stuck => .stuck
def ARes.cons (d : D) : ARes → ARes
  | .ok ds S => .ok (d :: ds) S
  | .exc e S => .exc e S
  | .stuck => .stuck
def Res.binda (r : Res) (f : D → Store → ARes) : ARes := match r with
  | .ok d S _ => f d S
  | .exc e S => .exc e S
  | .stuck => .stuck
def eArgs : List ME → Env' → Store → ARes
  | [], _, S => .ok [] S
  | m :: ms, env, S => (m env S).binda fun d S1 => (eArgs ms env S1).cons d
def PostA (G : Gam) (W : WX) (σ : St) (H : Hp) (pi rho : List Addr) (Q : List V → Hp → Prop) : ARes → Prop
  | .ok ds S' => ∀ vs H' pi', Rel G H' pi' rho S' → RVs G H' pi' rho vs ds → Go H pi rho H' pi' → Q vs H'
  | .exc e S' => ∀ cls dx H' pi', Rel G H' pi' rho S' → Go H pi rho H' pi' → RExc G H' rho e cls dx → W cls dx σ H'
  | .stuck => False
def tDA (G : Gam) (W : WX) (ms : List ME) : TA := fun σ H Q => ∃ pi rho S env, Rel G H pi rho S ∧ REnv G H pi rho σ env ∧ PostA G W σ H pi rho Q (eArgs ms env S)
def DA (X : Cx) (c : Ctx) (W : WX) (es : List Expr) (ms : List ME) : Prop := PA X es (tDA (gm X c) W ms)
section
variable {G : Gam} {W : WX} {H H1 H' : Hp} {pi pi1 pi' rho : List Addr} {σ σ' : St} {env env' : Env'} {S S' : Store} {Q : VK}
theorem eArgs_length : ∀ {ms : List ME} {env : Env'} {S S1 : Store} {ds : List D}, eArgs ms env S = .ok ds S1 → ds.length = ms.length
  | [], env, S, S1, ds, h => by cases h; rfl
  | m :: ms, env, S, S1, ds, h => by
    have h' : ((m env S).binda fun d S1 => (eArgs ms env S1).cons d) = .ok ds S1 := h
    cases e : m env S with
    | ok d S2 fr =>
      rw [e] at h'
      have h2 : (eArgs ms env S2).cons d = .ok ds S1 := h'
      cases e2 : eArgs ms env S2 with
      | ok ds2 S3 => rw [e2] at h2; cases h2; simp [eArgs_length e2]
      | exc x S3 => rw [e2] at h2; cases h2
      | stuck => rw [e2] at h2; cases h2
    | exc x S2 => rw [e] at h'; cases h'
    | stuck => rw [e] at h'; cases h'
theorem tDA.bind {ms : List ME} {f : List D → Store → Res} {Q' : List V → Hp → Prop} (R : Rel G H pi rho S) (N : REnv G H pi rho σ env) (h : PostE G W σ H pi rho Q ((eArgs ms env S).bind f))
    (k : ∀ vs H1 ds pi1 S1, eArgs ms env S = .ok ds S1 → Rel G H1 pi1 rho S1 → RVs G H1 pi1 rho vs ds → Go H pi rho H1 pi1 → PostE G W σ H1 pi1 rho Q (f ds S1) → Q' vs H1) : tDA G W ms σ H Q' := by
  refine ⟨pi, rho, S, env, R, N, ?_⟩
  cases e : eArgs ms env S with
  | ok d S1 =>
    rw [e] at h
    intro v H1 pi1 R1 r g
    exact k v H1 d pi1 S1 e R1 r g (h.base g)
  | exc x S1 => rw [e] at h; exact h
  | stuck => rw [e] at h; exact h
end
section
variable {X : Cx} {c : Ctx} {W : WX} {e : Expr} {es : List Expr} {m : ME} {ms : List ME}
theorem da_nil : DA X c W [] [] := PA_weak pa_nil fun σ H Q ⟨pi, rho, S, env, R, N, h⟩ => h [] H pi R .nil .refl
theorem da_cons (he : DE X c W e m) (hr : DA X c W es ms) (hs : starEach (e :: es) X.env = (false, eval e X.env) :: starEach es X.env := by rfl) : DA X c W (e :: es) (m :: ms) := by
  refine PA_weak (pa_cons he hr hs) fun σ H Q ⟨pi, rho, S, env, R, N, h⟩ => ?_
  refine ⟨pi, rho, S, env, R, N, ?_⟩
  have h' : PostA (gm X c) W σ H pi rho Q ((m env S).binda fun d S1 => (eArgs ms env S1).cons d) := h
  cases e1 : m env S with
  | ok d S1 fr =>
    rw [e1] at h'
    intro v H1 pi1 R1 r g f1
    have h2 : PostA (gm X c) W σ H pi rho Q ((eArgs ms env S1).cons d) := h'
    refine ⟨pi1, rho, S1, env, R1, N.mono g.x, ?_⟩
    cases e2 : eArgs ms env S1 with
    | ok ds S2 =>
      rw [e2] at h2
      intro vs H2 pi2 R2 r2 g2
      exact h2 (v :: vs) H2 pi2 R2 (.cons (r.mono g2.x) r2) (g.trans g2)
    | exc x S2 =>
      rw [e2] at h2
      exact fun cls dx H2 pi2 R2 g2 q => h2 cls dx H2 pi2 R2 (g.trans g2) q
    | stuck => rw [e2] at h2; exact h2
  | exc x S1 => rw [e1] at h'; exact h'
  | stuck => rw [e1] at h'; exact h'
end

/-! ### plain expressions -/
def eVar (i : Nat) : ME := fun env S => match env[i]? with
  | some (.val d) => .ok d S false
  | _ => .stuck
def eC (d : D) : ME := fun _ S => .ok d S false
def eBin (f : D → D → Store → Res) (a b : ME) : ME := fun env S => (a env S).bind fun x S1 _ => (b env S1).bind fun y S2 _ => f x y S2
def eUn (f : D → Store → Res) (a : ME) : ME := fun env S => (a env S).bind fun x S1 _ => f x S1
def onB (x : D) (t u : Res) : Res := match x with
  | .bl true => t
  | .bl false => u
  | _ => .stuck
@[simp] theorem onB_t (t u : Res) : onB (.bl true) t u = t := rfl
@[simp] theorem onB_f (t u : Res) : onB (.bl false) t u = u := rfl
def eIfE (t a b : ME) : ME := fun env S => (t env S).bind fun x S1 _ => onB x (a env S1) (b env S1)
def eAnd (a b : ME) : ME := fun env S => (a env S).bind fun x S1 _ => onB x (b env S1) (.ok (.bl false) S1 false)
def eOr (a b : ME) : ME := fun env S => (a env S).bind fun x S1 _ => onB x (.ok (.bl true) S1 false) (b env S1)
def eNot (a : ME) : ME := fun env S => (a env S).bind fun x S1 _ => onB x (.ok (.bl false) S1 false) (.ok (.bl true) S1 false)
def eChain (f g : D → D → Store → Res) (a b c : ME) : ME := fun env S => (a env S).bind fun x S1 _ => (b env S1).bind fun y S2 _ => (f x y S2).bind fun z S3 _ => onB z ((c env S3).bind fun w S4 _ => g y w S4) (.ok (.bl false) S3 false)
/-- a new thing becomes one that changes; what changes already is left -/
def thawR (x : D) (S1 : Store) (fr : Bool) : Res := match x with
  | .ref n => .ok (.ref n) S1 false
  | x => if fr = true then (match toO x with
    | some o => .ok (.ref S1.length) (S1 ++ [o]) false
    | none => .stuck) else .stuck
def eThaw (a : ME) : ME := fun env S => (a env S).bind thawR
def eTup (ms : List ME) : ME := fun env S => (eArgs ms env S).bind fun ds S1 => .ok (.tup ds) S1 false
def eLst (ms : List ME) : ME := fun env S => (eArgs ms env S).bind fun ds S1 => .ok (.lst ds) S1 true
def eCallF (F : MF) (ms : List ME) : ME := fun env S => (eArgs ms env S).bind fun ds S1 => F ds S1

def OpS (G : Gam) (r : R2) (f : D → D → Store → Res) : Prop := ∀ (W : WX) (σ : St) (H : Hp) (pi rho : List Addr) (S : Store) (x y : V) (dx dy : D) (Q : VK), Rel G H pi rho S → RV G H pi rho x dx → RV G H pi rho y dy → PostE G W σ H pi rho Q (f dx dy S) → r x y H Q
def CallS (G : Gam) (r : List V → Hp → VK → Prop) (F : MF) : Prop := ∀ (W : WX) (σ : St) (H : Hp) (pi rho : List Addr) (S : Store) (xs : List V) (ds : List D) (Q : VK), Rel G H pi rho S → RVs G H pi rho xs ds → PostE G W σ H pi rho Q (F ds S) → r xs H Q

section
variable {X : Cx} {c : Ctx} {W : WX} {a b d e : Expr} {es : List Expr} {m ma mb mc md : ME} {ms : List ME} {pos : Pos}
theorem de_var (i : Nat) {x : Str} (hN : X.N[i]? = some x := by rfl) (hv : Vis X.env.scope x := by first | exact Or.inl rfl | exact Or.inr (Or.inl rfl) | exact Or.inr (Or.inr rfl)) (hd : (x == ("__debug__" : Str)) = false := by decide)
    (hcd : (x == ("__classdict__" : Str)) = false := by decide) : DE X c W (.Name x pos) (eVar i) := by
  refine PE_weak (pe_var hN hv hd hcd) fun σ H Q ⟨pi, rho, S, env, R, N, h⟩ => ?_
  unfold eVar at h
  split at h
  · rename_i dd e
    obtain ⟨v, ev, r⟩ := N.at_ i _ e
    exact ⟨v, ev, h.fin R r⟩
  · exact h.elim
theorem de_c {v : V} {dd : D} (he : PE X e (tC v)) (r : ∀ H pi rho, RV (gm X c) H pi rho v dd) : DE X c W e (eC dd) :=
  PE_weak he fun σ H Q ⟨pi, rho, S, env, R, N, h⟩ => h.fin R (r H pi rho)
theorem de_int {i : Int} {j : Nat} : DE X c W (.Constant (.int i) j pos) (eC (.int i)) := de_c pe_int fun _ _ _ => .int i
theorem de_bl {i : Bool} {j : Nat} : DE X c W (.Constant (.bool i) j pos) (eC (.bl i)) := de_c pe_bl fun _ _ _ => .bl i
theorem de_non {j : Nat} : DE X c W (.Constant .none j pos) (eC .non) := de_c pe_non fun _ _ _ => .non
theorem de_str {x : Str} {j : Nat} (h : PyData.strOk x = true := by decide +kernel) : DE X c W (.Constant (.str x) j pos) (eC (.str x)) := de_c pe_str fun _ _ _ => .str h
theorem de_gstr {x z : Str} {u : Value} (hg : Gl X x) (hm : X.mg x = some u) (r : RelV (.str z) u) (h : PyData.strOk z = true) (hd : (x == ("__debug__" : Str)) = false := by decide) : DE X c W (.Name x pos) (eC (.str z)) := de_c (pe_glob hg hm r hd) fun _ _ _ => .str h
theorem de_gint {x : Str} {z : Int} {u : Value} (hg : Gl X x) (hm : X.mg x = some u) (r : RelV (.int z) u) (hd : (x == ("__debug__" : Str)) = false := by decide) : DE X c W (.Name x pos) (eC (.int z)) := de_c (pe_glob hg hm r hd) fun _ _ _ => .int z
theorem de_bin {op : Operator} {r : R2} {f : D → D → Store → Res} (ho : OpR X (binaryOp op) r) (hs : OpS (gm X c) r f) (ha : DE X c W a ma) (hb : DE X c W b mb) : DE X c W (.BinOp a op b pos) (eBin f ma mb) :=
  PE_weak (pe_op ho ha hb) fun σ H Q ⟨pi, rho, S, env, R, N, h⟩ => tD.bind R N h fun x H1 dx pi1 S1 _ R1 r1 g1 _ h1 => tD.bind R1 (N.mono g1.x) h1 fun y H2 dy pi2 S2 _ R2 r2 g2 _ h2 => hs _ _ _ _ _ _ _ _ _ _ _ R2 (r1.mono g2.x) r2 h2
theorem de_cmp {op : CmpOp} {r : R2} {f : D → D → Store → Res} (ho : OpR X (compareOp op) r) (hs : OpS (gm X c) r f) (ha : DE X c W a ma) (hb : DE X c W b mb) (hm : behindInMarks op b = false) : DE X c W (.Compare a [op] [b] pos) (eBin f ma mb) :=
  PE_weak (pe_cmpR ho ha hb hm) fun σ H Q ⟨pi, rho, S, env, R, N, h⟩ => tD.bind R N h fun x H1 dx pi1 S1 _ R1 r1 g1 _ h1 => tD.bind R1 (N.mono g1.x) h1 fun y H2 dy pi2 S2 _ R2 r2 g2 _ h2 => hs _ _ _ _ _ _ _ _ _ _ _ R2 (r1.mono g2.x) r2 h2
theorem dt_cmp {op : CmpOp} {r : R2} {f : D → D → Store → Res} (ho : OpR X (compareOp op) r) (hs : OpS (gm X c) r f) (ha : DE X c W a ma) (hb : DE X c W b mb) (hm : behindInMarks op b = false) : DT X c W (.Compare a [op] [b] pos) (eBin f ma mb) :=
  PT_weak (pt_cmpR ho ha hb hm) fun σ H Q ⟨pi, rho, S, env, R, N, h⟩ => tD.bind R N h fun x H1 dx pi1 S1 _ R1 r1 g1 _ h1 => tD.bind R1 (N.mono g1.x) h1 fun y H2 dy pi2 S2 _ R2 r2 g2 _ h2 => hs _ _ _ _ _ _ _ _ _ _ _ R2 (r1.mono g2.x) r2 h2
/-- a reading's test -/
theorem bl_of {G : Gam} {H : Hp} {pi rho : List Addr} {x : V} {k : Bool} (r : RV G H pi rho x (.bl k)) : x = .bl k := by cases r; rfl
theorem chain_ok {r r' : R2} {f g : D → D → Store → Res} {Q : VK} {σ : St} {H : Hp} {pi rho : List Addr} {S : Store} {env : Env'} (hs : OpS (gm X c) r f) (hs' : OpS (gm X c) r' g) (R : Rel (gm X c) H pi rho S) (N : REnv (gm X c) H pi rho σ env)
    (h : PostE (gm X c) W σ H pi rho Q (eChain f g ma mb mc env S)) : tChain r r' (tD (gm X c) W ma) (tD (gm X c) W mb) (tD (gm X c) W mc) σ H Q := by
  refine tD.bind R N h fun x H1 dx pi1 S1 _ R1 r1 g1 _ h1 => tD.bind R1 (N.mono g1.x) h1 fun y H2 dy pi2 S2 _ R2 r2 g2 _ h2 => ?_
  have rx := r1.mono g2.x
  refine hs W σ _ _ _ S2 _ _ dx dy _ R2 rx r2 ?_
  cases e : f dx dy S2 with
  | ok z S3 fr =>
    rw [e] at h2
    intro v H3 pi3 R3 r3 g3 _
    have h3 := PostE.base g3 h2
    cases z with
    | bl k =>
      refine ⟨k, bl_of r3, ?_⟩
      cases k with
      | true =>
        rw [if_pos rfl]
        exact tD.bind R3 (N.mono ((g1.trans g2).trans g3).x) h3 fun w' H4 dw pi4 S4 _ R4 r4 g4 _ h4 => hs' _ _ _ _ _ _ _ _ _ _ _ R4 ((r2.mono g3.x).mono g4.x) r4 h4
      | false =>
        rw [if_neg Bool.false_ne_true]
        exact PostE.fin (S := S3) h3 R3 (.bl false)
    | _ => exact h3.elim
  | exc x S3 => rw [e] at h2; exact h2
  | stuck => rw [e] at h2; exact h2
theorem dt_chain {op op' : CmpOp} {r r' : R2} {f g : D → D → Store → Res} (ho : OpR X (compareOp op) r) (ho' : OpR X (compareOp op') r') (hs : OpS (gm X c) r f) (hs' : OpS (gm X c) r' g) (ha : DE X c W a ma) (hb : DE X c W b mb) (hc : DE X c W d mc)
    (hm : lastMarks [op, op'] [b, d] = false := by with_unfolding_all rfl) : DT X c W (.Compare a [op, op'] [b, d] pos) (eChain f g ma mb mc) :=
  PT_weak (pt_chain ho ho' ha hb hc hm) fun σ H Q ⟨pi, rho, S, env, R, N, h⟩ => chain_ok hs hs' R N h
theorem dt_val (he : DE X c W e m) (h : ∀ whole, isTrue e X.env whole = (do let v ← whole; standAt e.pos; holding [v] (truthy v)) := by intro _; rfl) : DT X c W e m := pt_val he h
theorem dt_of_w (h : DW X c W e m) : DT X c W e m := PW.pt h
theorem dw_and1 (h : DT X c W a m) : DW X c W (.BoolOp .And [a] pos) m := pw_and1 h
theorem dw_or1 (h : DT X c W a m) : DW X c W (.BoolOp .Or [a] pos) m := pw_or1 h
/-- a test's reading: by the answer -/
theorem onB_ok {G : Gam} {σ : St} {H : Hp} {pi rho : List Addr} {S : Store} {env : Env'} {t u : Store → Res} {Q : VK} {Q' : Bool → Hp → Prop} (R : Rel G H pi rho S) (N : REnv G H pi rho σ env) (h : PostE G W σ H pi rho Q ((ma env S).bind fun x S1 _ => onB x (t S1) (u S1)))
    (ht : ∀ H1 pi1 S1, Rel G H1 pi1 rho S1 → Go H pi rho H1 pi1 → PostE G W σ H1 pi1 rho Q (t S1) → Q' true H1) (hu : ∀ H1 pi1 S1, Rel G H1 pi1 rho S1 → Go H pi rho H1 pi1 → PostE G W σ H1 pi1 rho Q (u S1) → Q' false H1) : tB (tD G W ma) σ H Q' := by
  refine tD.bind R N h fun x H1 dx pi1 S1 _ R1 r1 g1 _ h1 => ?_
  cases dx with
  | bl k =>
    refine ⟨k, bl_of r1, ?_⟩
    cases k with
    | true => exact ht H1 pi1 S1 R1 g1 h1
    | false => exact hu H1 pi1 S1 R1 g1 h1
  | _ => exact h1.elim
theorem tB_of {G : Gam} {σ : St} {H : Hp} {pi rho : List Addr} {S : Store} {env : Env'} {Q : Bool → Hp → Prop} (R : Rel G H pi rho S) (N : REnv G H pi rho σ env) (h : PostE G W σ H pi rho (fun v H' => ∃ k, v = .bl k ∧ Q k H') (m env S)) : tB (tD G W m) σ H Q := ⟨pi, rho, S, env, R, N, h⟩
theorem dw_and {rest : List Expr} (ha : DT X c W a ma) (hb : DW X c W (.BoolOp .And (b :: rest) pos) mb) : DW X c W (.BoolOp .And (a :: b :: rest) pos) (eAnd ma mb) :=
  PW_weak (pw_and ha hb) fun σ H Q ⟨pi, rho, S, env, R, N, h⟩ => onB_ok R N h (fun H1 pi1 S1 R1 g1 h1 => by rw [if_pos rfl]; exact tB_of R1 (N.mono g1.x) h1) (fun H1 pi1 S1 R1 g1 h1 => by
    rw [if_neg Bool.false_ne_true]
    obtain ⟨k, e, q⟩ := PostE.fin h1 R1 (.bl false)
    cases e; exact q)
theorem dw_or {rest : List Expr} (ha : DT X c W a ma) (hb : DW X c W (.BoolOp .Or (b :: rest) pos) mb) : DW X c W (.BoolOp .Or (a :: b :: rest) pos) (eOr ma mb) :=
  PW_weak (pw_or ha hb) fun σ H Q ⟨pi, rho, S, env, R, N, h⟩ => onB_ok R N h (fun H1 pi1 S1 R1 g1 h1 => by
    rw [if_pos rfl]
    obtain ⟨k, e, q⟩ := PostE.fin h1 R1 (.bl true)
    cases e; exact q) (fun H1 pi1 S1 R1 g1 h1 => by rw [if_neg Bool.false_ne_true]; exact tB_of R1 (N.mono g1.x) h1)
theorem dt_not (ha : DT X c W a ma) : DT X c W (.UnaryOp .Not a pos) (eNot ma) :=
  PT_weak (pt_not ha) fun σ H Q ⟨pi, rho, S, env, R, N, h⟩ => onB_ok R N h (fun H1 pi1 S1 R1 g1 h1 => by
    obtain ⟨k, e, q⟩ := PostE.fin h1 R1 (.bl false)
    cases e; exact q) (fun H1 pi1 S1 R1 g1 h1 => by
    obtain ⟨k, e, q⟩ := PostE.fin h1 R1 (.bl true)
    cases e; exact q)
theorem de_one {op : BoolOp} (h : DE X c W a m) : DE X c W (.BoolOp op [a] pos) m := pe_one h
theorem de_and {rest : List Expr} (ha : DE X c W a ma) (hb : DE X c W (.BoolOp .And (b :: rest) pos) mb) : DE X c W (.BoolOp .And (a :: b :: rest) pos) (eAnd ma mb) :=
  PE_weak (pe_and ha hb) fun σ H Q ⟨pi, rho, S, env, R, N, h⟩ => by
    refine tD.bind R N h fun x H1 dx pi1 S1 _ R1 r1 g1 _ h1 => ?_
    cases dx with
    | bl k =>
      refine ⟨k, bl_of r1, ?_⟩
      cases k with
      | true => rw [if_pos rfl]; exact ⟨pi1, rho, S1, env, R1, N.mono g1.x, h1⟩
      | false => rw [if_neg Bool.false_ne_true]; exact PostE.fin h1 R1 (.bl false)
    | _ => exact h1.elim
theorem tD_thaw {G : Gam} {σ : St} {H : Hp} {Q : VK} (h : tD G W (eThaw ma) σ H Q) : tD G W ma σ H Q := by
  obtain ⟨pi, rho, S, env, R, N, h⟩ := h
  refine ⟨pi, rho, S, env, R, N, ?_⟩
  have h' : PostE G W σ H pi rho Q ((ma env S).bind thawR) := h
  cases e : ma env S with
  | ok d S1 fr =>
    rw [e] at h'
    intro v H1 pi1 R1 r1 g1 f1
    have h2 : PostE G W σ H pi rho Q (thawR d S1 fr) := h'
    have gen : PostE G W σ H pi rho Q (if fr = true then (match toO d with
      | some o => .ok (.ref S1.length) (S1 ++ [o]) false
      | none => .stuck) else .stuck) → Q v H1 := fun h' => by
      cases fr with
      | false => exact h'.elim
      | true =>
        obtain ⟨p, o, rfl, np, nr, eo, ro, Rr⟩ := f1 rfl
        rw [if_pos rfl, eo] at h'
        have R2 := Rr.push nr ro
        have hp : p ∉ pi1 := fun q => Rr.dis p q List.mem_cons_self
        refine h' (.ref p) H1 (pi1 ++ [p]) R2 (.ref (by rw [List.getElem?_append_right (by rw [R1.len]; exact Nat.le_refl _), R1.len, Nat.sub_self]; rfl)) ?_ fun z => by cases z
        refine ⟨⟨g1.x.tup, g1.x.frz, fun b u e n m => ?_, fun n b e => ?_, g1.x.dom⟩, g1.res, fun b hb nb => ?_⟩
        · obtain ⟨q1, q2, q3⟩ := g1.x.keep b u e n m
          refine ⟨q1, ?_, q3⟩
          rw [List.mem_append]; rintro (q | q)
          · exact q2 q
          · rw [List.mem_singleton] at q; subst q; rw [np] at e; cases e
        · have := g1.x.ref n b e
          rw [List.getElem?_append_left (List.getElem?_eq_some_iff.mp this).1]; exact this
        · rw [List.mem_append] at hb
          rcases hb with hb | hb
          · exact g1.new' b hb nb
          · rw [List.mem_singleton] at hb; subst hb; exact np
    cases d with
    | ref n => exact h2 v H1 pi1 R1 r1 g1 fun z => by cases z
    | _ => exact gen h2
  | exc x S1 => rw [e] at h'; exact h'
  | stuck => rw [e] at h'; exact h'
theorem de_thaw (ha : DE X c W a ma) : DE X c W a (eThaw ma) := PE_weak ha fun σ H Q h => tD_thaw h
theorem eC_tup {G : Gam} {H : Hp} {pi rho : List Addr} {S : Store} {σ : St} {Q : VK} {vs : List V} {ds : List D} {p : Addr} {b : Bool} (h : PostE G W σ H pi rho Q (.ok (.tup ds) S b)) (R : Rel G H pi rho S) (r : RVs G H pi rho vs ds) (hz : vs.length ≤ sizeLine) (hp : H p = none) (hb : b = false) :
    Q (.ref p) (upd H p (.tup vs)) := by
  subst hb
  exact h _ _ pi (R.new hp) (.tup upd_same hz (r.mono (Ext.new hp))) (Go.new hp) fun z => by cases z
theorem line1000 {n : Nat} (h : n ≤ 1000) : n ≤ sizeLine := by rw [sizeLine_eq]; omega
theorem de_tup {k : Nat} (ha : DA X c W es ms) (hn : ms.length ≤ 1000 := by decide) : DE X c W (.Tuple es k pos) (eTup ms) :=
  PE_weak (pe_tup ha) fun σ H Q ⟨pi, rho, S, env, R, N, h⟩ => tDA.bind R N h fun vs H1 ds pi1 S1 e R1 r1 g1 h1 => by
    have hz : vs.length ≤ sizeLine := by rw [r1.length, eArgs_length e]; exact line1000 hn
    exact ⟨hz, fun p hp => eC_tup h1 R1 r1 hz hp rfl⟩
theorem de_lst (ha : DA X c W es ms) (hn : ms.length ≤ 1000 := by decide) : DE X c W (.List es pos) (eLst ms) :=
  PE_weak (pe_lst ha) fun σ H Q ⟨pi, rho, S, env, R, N, h⟩ => tDA.bind R N h fun vs H1 ds pi1 S1 e R1 r1 g1 h1 => by
    have hz : vs.length ≤ sizeLine := by rw [r1.length, eArgs_length e]; exact line1000 hn
    exact ⟨hz, fun p hp => h1.newL R1 r1 hz hp⟩
/-- a built-in function -/
theorem de_callB {id : String} {r : List V → Hp → VK → Prop} {F : MF} {x : Str} {p : Pos} (hc : CallR X (.builtin id) r) (hs : CallS (gm X c) r F) (hg : Gl X x) (hm : X.mg x = none) (hv : bootBuiltins x = some (.builtin id)) (ha : DA X c W (e :: es) ms) (hn : x ≠ "__name__" := by decide) (hdb : (x == ("__debug__" : Str)) = false := by decide)
    (he : starEach (e :: es) X.env = (false, eval e X.env) :: starEach es X.env := by rfl) (hpl : (backTo pos (starEach es X.env)).any (·.1) = false := by rfl) : DE X c W (.Call (.Name x p) (e :: es) [] pos) (eCallF F ms) :=
  PE_weak (pe_callB hc hg hm hv ha hn hdb he hpl) fun σ H Q ⟨pi, rho, S, env, R, N, h⟩ => tDA.bind R N h fun vs H1 ds pi1 S1 e R1 r1 g1 h1 => hs _ _ _ _ _ _ _ _ _ R1 r1 h1
/-- a built-in class -/
theorem de_callTy {T : String} {r : List V → Hp → VK → Prop} {F : MF} {x : Str} {p : Pos} (hc : CallR X (.type T) r) (hs : CallS (gm X c) r F) (hg : Gl X x) (hm : X.mg x = none) (hv : bootBuiltins x = some (.type T)) (ha : DA X c W (e :: es) ms) (hn : x ≠ "__name__" := by decide) (hdb : (x == ("__debug__" : Str)) = false := by decide)
    (he : starEach (e :: es) X.env = (false, eval e X.env) :: starEach es X.env := by rfl) (hpl : (backTo pos (starEach es X.env)).any (·.1) = false := by rfl) : DE X c W (.Call (.Name x p) (e :: es) [] pos) (eCallF F ms) :=
  PE_weak (pe_callTy hc hg hm hv ha hn hdb he hpl) fun σ H Q ⟨pi, rho, S, env, R, N, h⟩ => tDA.bind R N h fun vs H1 ds pi1 S1 e R1 r1 g1 h1 => hs _ _ _ _ _ _ _ _ _ R1 r1 h1
end
end DL
namespace DL
open PySem L2

/-! ### operations on values -/
/-- a list's items -/
def lstOf (S : Store) : D → Option (List D)
  | .lst ds => some ds
  | .ref n => match S[n]? with
    | some (.lst ds) => some ds
    | _ => none
  | _ => none
/-- a list's or a tuple's items -/
def seqOf (S : Store) : D → Option (List D)
  | .tup ds => some ds
  | .ktup ds => some ds
  | .scr ns => some (ns.map .int)
  | d => lstOf S d
section
variable {G : Gam} {H : Hp} {pi rho : List Addr} {S : Store} {v : V} {d : D} {ds : List D}
theorem lst_ref {n : Nat} {S : Store} {ds : List D} (e : lstOf S (.ref n) = some ds) : S[n]? = some (.lst ds) := by
  have e' : (match S[n]? with
    | some (.lst ds) => some ds
    | _ => none) = some ds := e
  cases q : S[n]? with
  | none => rw [q] at e'; cases e'
  | some o =>
    rw [q] at e'
    cases o with
    | lst xs => cases e'; rfl
    | dct tk kvs => cases e'
    | ins c fs => cases e'
    | fz kvs => cases e'
theorem lstOf_ok (R : Rel G H pi rho S) (r : RV G H pi rho v d) (e : lstOf S d = some ds) : ∃ a vs, v = .ref a ∧ H a = some (.lst vs) ∧ vs.length ≤ sizeLine ∧ RVs G H pi rho vs ds := by
  cases r with
  | lst h n m z q =>
    have e : some _ = some ds := e
    cases e; exact ⟨_, _, rfl, h, z, q⟩
  | ref h =>
    obtain ⟨o, eo, ro⟩ := R.addr h
    rw [lst_ref e] at eo
    cases eo
    obtain ⟨vs, h1, z, q⟩ := ro
    exact ⟨_, _, rfl, h1, z, q⟩
  | _ => cases e
theorem ints_rv : ∀ ns : List Int, RVs G H pi rho (ns.map V.int) (ns.map D.int)
  | [] => .nil
  | n :: r => .cons (.int n) (ints_rv r)
theorem seqOf_ok (R : Rel G H pi rho S) (r : RV G H pi rho v d) (e : seqOf S d = some ds) : ∃ a vs, v = .ref a ∧ (SqL G.K H a vs ∨ SqT G.K H a vs) ∧ vs.length ≤ sizeLine ∧ RVs G H pi rho vs ds := by
  have gen : lstOf S d = some ds → ∃ a vs, v = .ref a ∧ (SqL G.K H a vs ∨ SqT G.K H a vs) ∧ vs.length ≤ sizeLine ∧ RVs G H pi rho vs ds := fun e => by
    obtain ⟨a, vs, e1, h, z, q⟩ := lstOf_ok R r e
    exact ⟨a, vs, e1, .inl (.inl (.inl h)), z, q⟩
  cases d with
  | tup xs =>
    cases e
    cases r with
    | tup h z q => exact ⟨_, _, rfl, .inr (SqT.of h), z, q⟩
  | ktup xs =>
    cases e
    cases r with
    | ktup h z q => exact ⟨_, _, rfl, .inr (.inr h), z, q⟩
  | scr ns =>
    cases e
    cases r with
    | scr h z => exact ⟨_, _, rfl, .inl h.sq, by simpa using z, ints_rv ns⟩
  | _ => exact gen e
end
def isTup : D → Bool
  | .tup _ => true
  | _ => false

def vAdd : D → D → Store → Res
  | .int i, .int j, S => .ok (.int (i + j)) S false
  | .str x, .str y, S => if x.length + y.length ≤ 16777216 then .ok (.str (x ++ y)) S false else .stuck
  | .tup xs, .tup ys, S => if xs.length + ys.length ≤ 16777216 then .ok (.tup (xs ++ ys)) S false else .stuck
  | x, y, S => match lstOf S x, lstOf S y with
    | some xs, some ys => if xs.length + ys.length ≤ 16777216 then .ok (.lst (xs ++ ys)) S true else .stuck
    | _, _ => .stuck
def rAddU (K : PySem.W.Frag) : R2 := fun x y H Q => rI0 (fun i j => .int (i + j)) x y H Q ∨ (∃ i j, x = .str i ∧ y = .str j ∧ i.length + j.length ≤ sizeLine ∧ Q (.str (i ++ j)) H) ∨ rCatA K x y H Q ∨ rCat x y H Q
theorem op_addU {X : Cx} : OpR X (binaryOp .Add) (rAddU X.K) := op_add.or (op_add_str.or (op_catA.or op_cat))
theorem strOk_append {x y : Str} (hx : PyData.strOk x = true) (hy : PyData.strOk y = true) : PyData.strOk (x ++ y) = true := by
  unfold PyData.strOk at *
  show (x.cps ++ y.cps).all _ = true
  rw [Array.all_append, hx, hy]; rfl
theorem vAdd_ok {G : Gam} : OpS G (rAddU G.K) vAdd := by
  intro W σ H pi rho S x y dx dy Q R rx ry h
  have lists : ∀ (xs ys : List D), lstOf S dx = some xs → lstOf S dy = some ys → PostE G W σ H pi rho Q (if xs.length + ys.length ≤ 16777216 then .ok (.lst (xs ++ ys)) S true else .stuck) → rAddU G.K x y H Q := fun xs ys e1 e2 h => by
    obtain ⟨a, vs, rfl, h1, z1, q1⟩ := lstOf_ok R rx e1
    obtain ⟨b, ws, rfl, h2, z2, q2⟩ := lstOf_ok R ry e2
    split at h
    · rename_i hz
      have hz' : vs.length + ws.length ≤ sizeLine := by rw [q1.length, q2.length, sizeLine_eq]; exact hz
      exact .inr (.inr (.inr ⟨a, b, vs, ws, rfl, rfl, h1, h2, hz', fun p hp => h.newL R (q1.append q2) (by rw [List.length_append]; exact hz') hp⟩))
    · exact h.elim
  unfold vAdd at h
  split at h
  · rename_i i j
    cases rx; cases ry
    exact .inl ⟨i, j, rfl, rfl, h.fin R (.int _)⟩
  · rename_i i j
    cases rx with | str hx =>
    cases ry with | str hy =>
    split at h
    · rename_i hz
      exact .inr (.inl ⟨i, j, rfl, rfl, by rw [sizeLine_eq]; exact hz, h.fin R (.str (strOk_append hx hy))⟩)
    · exact h.elim
  · rename_i xs ys
    cases rx with | tup h1 z1 q1 =>
    cases ry with | tup h2 z2 q2 =>
    rename_i a vs b ws
    split at h
    · rename_i hz
      have hz' : vs.length + ws.length ≤ sizeLine := by rw [q1.length, q2.length, sizeLine_eq]; exact hz
      refine .inr (.inr (.inl ⟨a, b, vs, ws, rfl, rfl, SqT.of h1, SqT.of h2, hz', fun e => ?_, fun _ e => ?_, fun _ _ p hp => ?_⟩))
      · subst e; cases q1
        exact h.fin R (.tup h2 z2 q2)
      · subst e; cases q2
        rw [List.append_nil] at h
        exact h.fin R (.tup h1 z1 q1)
      · exact eC_tup h R (q1.append q2) (by rw [List.length_append]; exact hz') hp rfl
    · exact h.elim
  · split at h
    · rename_i e1 e2
      exact lists _ _ e1 e2 h
    · exact h.elim
def vSub : D → D → Store → Res
  | .int i, .int j, S => .ok (.int (i - j)) S false
  | _, _, _ => .stuck
theorem vSub_ok {G : Gam} : OpS G (rI0 fun i j => .int (i - j)) vSub := by
  intro W σ H pi rho S x y dx dy Q R rx ry h
  unfold vSub at h
  split at h
  · cases rx; cases ry
    exact ⟨_, _, rfl, rfl, h.fin R (.int _)⟩
  · exact h.elim
/-- a product: both in size below 2^1000 -/
def vMul : D → D → Store → Res
  | .int i, .int j, S => if (-(2 ^ 64) < i ∧ i < 2 ^ 64) ∨ (-(2 ^ 64) < j ∧ j < 2 ^ 64) then .ok (.int (i * j)) S false else .stuck
  | x, .int k, S => match lstOf S x with
    | some xs => if -(2 ^ 63) ≤ k ∧ k < 2 ^ 63 ∧ xs.length * k.toNat ≤ 16777216 then .ok (.lst (List.replicate k.toNat xs).flatten) S true else .stuck
    | none => .stuck
  | _, _, _ => .stuck
theorem RVs.rep {G : Gam} {H : Hp} {pi rho : List Addr} {vs : List V} {ds : List D} (r : RVs G H pi rho vs ds) : ∀ k : Nat, RVs G H pi rho (List.replicate k vs).flatten (List.replicate k ds).flatten
  | 0 => .nil
  | k + 1 => by rw [List.replicate_succ, List.replicate_succ, List.flatten_cons, List.flatten_cons]; exact r.append (r.rep k)
theorem vMul_ok {G : Gam} : OpS G (fun x y H Q => rI CMul (fun i j => .int (i * j)) x y H Q ∨ rRep x y H Q) vMul := by
  intro W σ H pi rho S x y dx dy Q R rx ry h
  unfold vMul at h
  split at h
  · cases rx; cases ry
    split at h
    · rename_i hc
      exact .inl ⟨_, _, rfl, rfl, hc, h.fin R (.int _)⟩
    · exact h.elim
  · cases ry
    split at h
    · rename_i e
      obtain ⟨a, vs, rfl, h1, z1, q1⟩ := lstOf_ok R rx e
      split at h
      · rename_i hz
        have hz' := hz.2.2
        rw [← q1.length, ← sizeLine_eq] at hz'
        exact .inr ⟨a, _, vs, rfl, rfl, h1, hz.1, hz.2.1, hz', fun p hp => h.newL R (q1.rep _) (by simpa [List.length_flatten, Nat.mul_comm] using hz') hp⟩
      · exact h.elim
    · exact h.elim
  · exact h.elim
def vFdiv : D → D → Store → Res
  | .int i, .int j, S => if 0 < j ∧ j < 1000000000000000000000000000000 then .ok (.int (i / j)) S false else .stuck
  | _, _, _ => .stuck
theorem vFdiv_ok {G : Gam} : OpS G (rI CDivW fun i j => .int (i / j)) vFdiv := by
  intro W σ H pi rho S x y dx dy Q R rx ry h
  unfold vFdiv at h
  split at h
  · cases rx; cases ry
    split at h
    · rename_i hc
      exact ⟨_, _, rfl, rfl, wide_div hc.1 (b := 100) (by omega) (by decide) (by decide), h.fin R (.int _)⟩
    · exact h.elim
  · exact h.elim
def vMod : D → D → Store → Res
  | .int i, .int j, S => if 0 < j then .ok (.int (i % j)) S false else .stuck
  | _, _, _ => .stuck
theorem vMod_ok {G : Gam} : OpS G (rI (fun _ j => 0 < j) fun i j => .int (i % j)) vMod := by
  intro W σ H pi rho S x y dx dy Q R rx ry h
  unfold vMod at h
  split at h
  · cases rx; cases ry
    split at h
    · rename_i hc
      exact ⟨_, _, rfl, rfl, hc, h.fin R (.int _)⟩
    · exact h.elim
  · exact h.elim
def vPow : D → D → Store → Res
  | .int i, .int j, S => if 0 ≤ j ∧ j ≤ 1000 ∧ i.natAbs < 2 ^ 64 then .ok (.int (i ^ j.toNat)) S false else .stuck
  | _, _, _ => .stuck
def vNeg : D → Store → Res
  | .int i, S => .ok (.int (-i)) S false
  | _, _ => .stuck
end DL
namespace DL
open PySem L2

/-! ### data, equality -/
def allSome {α : Type} : List (Option α) → Option (List α)
  | [] => some []
  | some x :: r => (allSome r).map (x :: ·)
  | none :: _ => none
def snap : Nat → Store → D → Option PyData
  | 0, _, _ => none
  | k + 1, S, d => match d with
    | .non => some .none
    | .bl b => some (.bool b)
    | .int i => some (.int i)
    | .str s => some (.str s)
    | .tup xs => (allSome (xs.map (snap k S))).map .tuple
    | .ktup xs => (allSome (xs.map (snap k S))).map .tuple
    | .lst xs => (allSome (xs.map (snap k S))).map .list
    | .scr ns => some (.list (ns.map .int))
    | .ref n => match S[n]? with
      | some (.lst xs) => (allSome (xs.map (snap k S))).map .list
      | _ => none
    | _ => none
section
variable {G : Gam} {H : Hp} {pi rho : List Addr} {S : Store}
def SnapOk (G : Gam) (H : Hp) (v : V) (k : Nat) (p : PyData) : Prop := Dp G.K H v p ∧ p.canLay0 = true ∧ p.depth ≤ k
def SnapAll (G : Gam) (H : Hp) (vs : List V) (k : Nat) (ps : List PyData) : Prop := DpAll G.K H vs ps ∧ PyData.canLayAll0 ps = true ∧ PyData.depthAll ps ≤ k
theorem snapAll_of {k : Nat} (f : D → Option PyData) (h : ∀ v d p, RV G H pi rho v d → f d = some p → SnapOk G H v k p) :
    ∀ {vs : List V} {ds : List D} {ps : List PyData}, RVs G H pi rho vs ds → allSome (ds.map f) = some ps → SnapAll G H vs k ps
  | _, _, ps, .nil, e => by cases e; exact ⟨.nil, by simp [PyData.canLayAll0], by simp [PyData.depthAll]⟩
  | _, _, ps, .cons (d := d) (ds := ds) r rs, e => by
    rw [List.map_cons] at e
    cases e1 : f d with
    | none => rw [e1] at e; cases e
    | some p =>
      rw [e1] at e
      have e' : (allSome (ds.map f)).map (p :: ·) = some ps := e
      cases e2 : allSome (ds.map f) with
      | none => rw [e2] at e'; cases e'
      | some qs =>
        rw [e2] at e'
        cases e'
        obtain ⟨h1, h2, h3⟩ := h _ _ _ r e1
        obtain ⟨g1, g2, g3⟩ := snapAll_of f h rs e2
        exact ⟨.cons h1 g1, by simp [PyData.canLayAll0, h2, g2], by simp only [PyData.depthAll]; exact Nat.max_le.mpr ⟨h3, g3⟩⟩
theorem SnapAll.lst {vs : List V} {k : Nat} {ps : List PyData} {a : Addr} (h : SnapAll G H vs k ps) (hl : SqL G.K H a vs) : SnapOk G H (.ref a) (k + 1) (.list ps) := ⟨.lst hl h.1, by simp [PyData.canLay0, h.2.1], by simp only [PyData.depth]; exact Nat.succ_le_succ h.2.2⟩
theorem SnapAll.tup {vs : List V} {k : Nat} {ps : List PyData} {a : Addr} (h : SnapAll G H vs k ps) (hl : SqT G.K H a vs) : SnapOk G H (.ref a) (k + 1) (.tuple ps) := ⟨.tup hl h.1, by simp [PyData.canLay0, h.2.1], by simp only [PyData.depth]; exact Nat.succ_le_succ h.2.2⟩
theorem snap_scr {k : Nat} : ∀ ns : List Int, SnapAll G H (ns.map V.int) k (ns.map .int)
  | [] => ⟨.nil, by simp [PyData.canLayAll0], by simp [PyData.depthAll]⟩
  | n :: r => by
    obtain ⟨h1, h2, h3⟩ := snap_scr (k := k) r
    exact ⟨.cons (.int n) h1, by simp [PyData.canLayAll0, PyData.canLay0, h2], by simp only [List.map_cons, PyData.depthAll, PyData.depth]; exact Nat.max_le.mpr ⟨Nat.zero_le _, h3⟩⟩
theorem map_some {α β : Type} {o : Option α} {f : α → β} {b : β} (e : o.map f = some b) : ∃ a, o = some a ∧ f a = b := by
  cases o with
  | none => cases e
  | some a => cases e; exact ⟨a, rfl, rfl⟩
theorem snap_ok (R : Rel G H pi rho S) : ∀ (k : Nat) (v : V) (d : D) (p : PyData), RV G H pi rho v d → snap k S d = some p → SnapOk G H v k p
  | 0, _, _, _, _, e => by cases e
  | k + 1, v, d, p, r, e => by
    cases r with
    | non => cases e; exact ⟨.non, by simp [PyData.canLay0], by simp [PyData.depth]⟩
    | bl b => cases e; exact ⟨.bl b, by simp [PyData.canLay0], by simp [PyData.depth]⟩
    | int i => cases e; exact ⟨.int i, by simp [PyData.canLay0], by simp [PyData.depth]⟩
    | str h => cases e; exact ⟨.str _, by simp [PyData.canLay0, h], by simp [PyData.depth]⟩
    | tup h z q =>
      obtain ⟨ps, e1, rfl⟩ := map_some e
      exact (snapAll_of _ (fun v d p r e => snap_ok R k v d p r e) q e1).tup (SqT.of h)
    | ktup h z q =>
      obtain ⟨ps, e1, rfl⟩ := map_some e
      exact (snapAll_of _ (fun v d p r e => snap_ok R k v d p r e) q e1).tup (.inr h)
    | lst h n m z q =>
      obtain ⟨ps, e1, rfl⟩ := map_some e
      exact (snapAll_of _ (fun v d p r e => snap_ok R k v d p r e) q e1).lst (.inl (.inl h))
    | scr h z =>
      cases e
      exact (snap_scr (k := k) _).lst h.sq
    | ref h =>
      rename_i a n
      obtain ⟨o, eo, ro⟩ := R.addr h
      have e' : (match S[n]? with
        | some (.lst xs) => (allSome (xs.map (snap k S))).map PyData.list
        | _ => none) = some p := e
      rw [eo] at e'
      cases o with
      | lst xs =>
        obtain ⟨ps, e1, rfl⟩ := map_some e'
        obtain ⟨vs, h1, z, q⟩ := ro
        exact (snapAll_of _ (fun v d p r e => snap_ok R k v d p r e) q e1).lst (.inl (.inl h1))
      | dct tk kvs => cases e'
      | ins c fs => cases e'
      | fz kvs => cases e'
    | dct h n m z q => cases e
    | fdct h z q => cases e
    | obj h n m q => cases e
    | err h n m => cases e
theorem SnapOk.shaped {v : V} {k : Nat} {p : PyData} (h : SnapOk G H v k p) (hk : k ≤ 64) : SeqAt.shaped p = true := by
  unfold SeqAt.shaped
  rw [h.2.1, decide_eq_true (Nat.le_trans h.2.2 hk)]; rfl
end
def vEq (x y : D) (S : Store) : Res := match snap 60 S x, snap 60 S y with
  | some p, some q => .ok (.bl (PyData.eqv p q)) S false
  | _, _ => .stuck
def vNe (x y : D) (S : Store) : Res := match snap 60 S x, snap 60 S y with
  | some p, some q => .ok (.bl (!PyData.eqv p q)) S false
  | _, _ => .stuck
theorem vEq_ok {G : Gam} : OpS G (rEqD G.K) vEq := by
  intro W σ H pi rho S x y dx dy Q R rx ry h
  unfold vEq at h
  split at h
  · rename_i p q e1 e2
    have s1 := snap_ok R _ _ _ _ rx e1
    have s2 := snap_ok R _ _ _ _ ry e2
    exact ⟨p, q, s1.1, s2.1, s1.shaped (by decide), s2.shaped (by decide), h.fin R (.bl _)⟩
  · exact h.elim
theorem vNe_ok {G : Gam} : OpS G (rNeD G.K) vNe := by
  intro W σ H pi rho S x y dx dy Q R rx ry h
  unfold vNe at h
  split at h
  · rename_i p q e1 e2
    have s1 := snap_ok R _ _ _ _ rx e1
    have s2 := snap_ok R _ _ _ _ ry e2
    exact ⟨p, q, s1.1, s2.1, s1.shaped (by decide), s2.shaped (by decide), h.fin R (.bl _)⟩
  · exact h.elim
/-! ### is -/
def vIs : D → D → Store → Res
  | x, .non, S => .ok (.bl (decide (x = .non))) S false
  | .bl a, .bl b, S => .ok (.bl (decide (a = b))) S false
  | _, _, _ => .stuck
def vIsNot : D → D → Store → Res
  | x, .non, S => .ok (.bl (!decide (x = .non))) S false
  | .bl a, .bl b, S => .ok (.bl (!decide (a = b))) S false
  | _, _, _ => .stuck
def rIsNotU : R2 := fun x y H Q => (y = .non ∧ Q (.bl (!decide (x = .non))) H) ∨ rNotB x y H Q
theorem op_isNotU {X : Cx} : OpR X (compareOp .IsNot) rIsNotU := op_notN.or op_notBl
theorem non_iff {G : Gam} {H : Hp} {pi rho : List Addr} {v : V} {d : D} (r : RV G H pi rho v d) : decide (v = .non) = decide (d = .non) := by
  cases r <;> simp
theorem vIsNot_ok {G : Gam} : OpS G rIsNotU vIsNot := by
  intro W σ H pi rho S x y dx dy Q R rx ry h
  unfold vIsNot at h
  split at h
  · cases ry
    rw [← non_iff rx] at h
    exact .inl ⟨rfl, h.fin R (.bl _)⟩
  · cases rx; cases ry
    exact .inr ⟨_, _, rfl, rfl, h.fin R (.bl _)⟩
  · exact h.elim
/-! ### order of ints and texts -/
def vLt : D → D → Store → Res
  | .int i, .int j, S => .ok (.bl (decide (i < j))) S false
  | .str x, .str y, S => .ok (.bl (decide (x.cps.toList < y.cps.toList))) S false
  | _, _, _ => .stuck
def vLe : D → D → Store → Res
  | .int i, .int j, S => .ok (.bl (decide (i ≤ j))) S false
  | _, _, _ => .stuck
def vGt : D → D → Store → Res
  | .int i, .int j, S => .ok (.bl (decide (j < i))) S false
  | _, _, _ => .stuck
def vGe : D → D → Store → Res
  | .int i, .int j, S => .ok (.bl (decide (j ≤ i))) S false
  | _, _, _ => .stuck
theorem vLe_ok {G : Gam} : OpS G (rI0 fun i j => .bl (decide (i ≤ j))) vLe := by
  intro W σ H pi rho S x y dx dy Q R rx ry h
  unfold vLe at h
  split at h
  · cases rx; cases ry
    exact ⟨_, _, rfl, rfl, h.fin R (.bl _)⟩
  · exact h.elim
theorem vGt_ok {G : Gam} : OpS G (rI0 fun i j => .bl (decide (j < i))) vGt := by
  intro W σ H pi rho S x y dx dy Q R rx ry h
  unfold vGt at h
  split at h
  · cases rx; cases ry
    exact ⟨_, _, rfl, rfl, h.fin R (.bl _)⟩
  · exact h.elim

/-! ### dicts by key -/
/-- a dict's kind and pairs -/
def dctOf (S : Store) : D → Option (Bool × List (D × D))
  | .dct kvs => some (false, kvs)
  | .fdct kvs => some (false, kvs)
  | .ref n => match S[n]? with
    | some (.dct tk kvs) => some (tk, kvs)
    | _ => none
  | _ => none
/-- a dict that is read -/
def RdO (G : Gam) (H : Hp) (pi rho : List Addr) (a : Addr) : Bool → List (D × D) → Prop
  | false, kvs => ∃ ks, Rd H a (.dK ks) ∧ ks.length ≤ sizeLine ∧ RKs G H pi rho ks kvs
  | true, kvs => ∃ ks, H a = some (.dT ks) ∧ ks.length ≤ sizeLine ∧ RTs G H pi rho ks kvs
theorem RO.rd {G : Gam} {H : Hp} {pi rho : List Addr} {a : Addr} : ∀ {tk : Bool} {kvs : List (D × D)}, RO G H pi rho a (.dct tk kvs) → RdO G H pi rho a tk kvs
  | false, _, ⟨ks, h, z, r⟩ => ⟨ks, .inl h, z, r⟩
  | true, _, ⟨ks, h, z, r⟩ => ⟨ks, h, z, r⟩
def dval (kvs : List (D × D)) (k : D) : Option D := (kvs.find? fun p => decide (p.1 = k)).map (·.2)
def isKey (tk : Bool) (k : D) : Bool := if tk = true then (tkeyOf k).isSome else (keyOf k).isSome
theorem keyOf_inj {a b : D} {k : Key} (ha : keyOf a = some k) (hb : keyOf b = some k) : a = b := by
  cases a <;> cases b <;> simp [keyOf] at ha hb
  · subst ha; simp_all
  · obtain ⟨_, hb⟩ := hb; rw [← ha] at hb; cases hb
  · obtain ⟨_, ha⟩ := ha; rw [← hb] at ha; cases ha
  · obtain ⟨_, ha⟩ := ha; obtain ⟨_, hb⟩ := hb; rw [← ha] at hb; cases hb; rfl
theorem keysOf_inj : ∀ {a b : List D} {k : List Key}, keysOf a = some k → keysOf b = some k → a = b
  | [], [], _, _, _ => rfl
  | [], y :: b, k, ha, hb => by
    cases ha
    unfold keysOf at hb
    split at hb
    · cases hb
    · cases hb
  | x :: a, [], k, ha, hb => by
    cases hb
    unfold keysOf at ha
    split at ha
    · cases ha
    · cases ha
  | x :: a, y :: b, k, ha, hb => by
    unfold keysOf at ha hb
    split at ha
    · rename_i k1 ks1 e1 e2
      split at hb
      · rename_i k2 ks2 e3 e4
        cases ha
        cases hb
        rw [keyOf_inj e1 e3, keysOf_inj e2 e4]
      · cases hb
    · cases ha
theorem tkeyOf_inj {a b : D} {k : List Key} (ha : tkeyOf a = some k) (hb : tkeyOf b = some k) : a = b := by
  cases a <;> cases b <;> simp [tkeyOf] at ha hb
  rw [keysOf_inj ha hb]
section
variable {G : Gam} {H : Hp} {pi rho : List Addr} {S : Store} {v : V} {d : D}
theorem key_rv {x : V} {k : Key} (r : RV G H pi rho x d) (e : keyOf d = some k) : x = kV k := by
  cases r <;> simp [keyOf] at e
  · subst e; rfl
  · obtain ⟨_, e⟩ := e; subst e; rfl
theorem keys_rv : ∀ {xs : List V} {ds : List D} {ks : List Key}, RVs G H pi rho xs ds → keysOf ds = some ks → xs = ks.map kV
  | _, _, ks, .nil, e => by cases e; rfl
  | _, _, ks, .cons r rs, e => by
    unfold keysOf at e
    split at e
    · rename_i e1 e2
      cases e
      rw [key_rv r e1, keys_rv rs e2]; rfl
    · cases e
theorem RKs.val {kd : D} {k : Key} (ek : keyOf kd = some k) : ∀ {ks : List (Key × V)} {kvs : List (D × D)}, RKs G H pi rho ks kvs →
    (∃ v d, valV ks k = some v ∧ dval kvs kd = some d ∧ RV G H pi rho v d) ∨ (valV ks k = none ∧ dval kvs kd = none)
  | _, _, .nil => .inr ⟨rfl, rfl⟩
  | _, _, .cons (k := k') (kd := kd') e r rs => by
    by_cases h : kd' = kd
    · subst h
      have : k' = k := by rw [e] at ek; exact Option.some.inj ek
      subst this
      exact .inl ⟨_, _, valV_pos rfl, by simp [dval], r⟩
    · have h2 : ¬ k' = k := fun q => h (keyOf_inj e (q ▸ ek))
      rw [valV_neg (p := (k', _)) h2]
      have : ∀ (z : D) (l : List (D × D)), dval ((kd', z) :: l) kd = dval l kd := fun z l => by simp [dval, h]
      rw [this]
      exact RKs.val ek rs
theorem RTs.val {kd : D} {k : List Key} (ek : tkeyOf kd = some k) : ∀ {ks : List (List Key × V)} {kvs : List (D × D)}, RTs G H pi rho ks kvs →
    (∃ v d, valV ks k = some v ∧ dval kvs kd = some d ∧ RV G H pi rho v d) ∨ (valV ks k = none ∧ dval kvs kd = none)
  | _, _, .nil => .inr ⟨rfl, rfl⟩
  | _, _, .cons (k := k') (kd := kd') e r rs => by
    by_cases h : kd' = kd
    · subst h
      have : k' = k := by rw [e] at ek; exact Option.some.inj ek
      subst this
      exact .inl ⟨_, _, valV_pos rfl, by simp [dval], r⟩
    · have h2 : ¬ k' = k := fun q => h (tkeyOf_inj e (q ▸ ek))
      rw [valV_neg (p := (k', _)) h2]
      have : ∀ (z : D) (l : List (D × D)), dval ((kd', z) :: l) kd = dval l kd := fun z l => by simp [dval, h]
      rw [this]
      exact RTs.val ek rs
/-- the tuple of a tuple key stands tracked -/
theorem tkey_rv {x : V} {k : List Key} (r : RV G H pi rho x d) (e : tkeyOf d = some k) : ∃ b, x = .ref b ∧ H b = some (.tup (k.map kV)) := by
  cases r with
  | tup h z q =>
    have := keys_rv q e
    subst this
    exact ⟨_, rfl, h⟩
  | _ => cases e
theorem dctRef {n : Nat} {tk : Bool} {kvs : List (D × D)} (e : dctOf S (.ref n) = some (tk, kvs)) : S[n]? = some (.dct tk kvs) := by
  have e' : (match S[n]? with
    | some (.dct tk kvs) => some (tk, kvs)
    | _ => none) = some (tk, kvs) := e
  cases q : S[n]? with
  | none => rw [q] at e'; cases e'
  | some o =>
    rw [q] at e'
    cases o with
    | dct tk kvs => cases e'; rfl
    | lst xs => cases e'
    | ins c fs => cases e'
    | fz kvs => cases e'
theorem dctOf_ok {tk : Bool} {kvs : List (D × D)} (R : Rel G H pi rho S) (r : RV G H pi rho v d) (e : dctOf S d = some (tk, kvs)) :
    ∃ a, v = .ref a ∧ RdO G H pi rho a tk kvs := by
  cases r with
  | dct h n m z q =>
    have e : some (false, _) = some (tk, kvs) := e
    cases e; exact ⟨_, rfl, _, .inl h, z, q⟩
  | fdct h z q =>
    have e : some (false, _) = some (tk, kvs) := e
    cases e; exact ⟨_, rfl, _, .inr ⟨_, h⟩, z, q⟩
  | ref h =>
    obtain ⟨o, eo, ro⟩ := R.addr h
    rw [dctRef e] at eo
    cases eo
    exact ⟨_, rfl, ro.rd⟩
  | _ => cases e
/-- what a dict holds at a key. -/
theorem dget_ok {tk : Bool} {kvs : List (D × D)} {a : Addr} {y : V} {dk : D} (ro : RdO G H pi rho a tk kvs) (ry : RV G H pi rho y dk) (hk : isKey tk dk = true) :
    (∃ v d, DGet H a y (some v) ∧ dval kvs dk = some d ∧ RV G H pi rho v d) ∨ (DGet H a y none ∧ dval kvs dk = none) := by
  cases tk with
  | false =>
    obtain ⟨ks, h, z, q⟩ := ro
    obtain ⟨k, ek⟩ : ∃ k, keyOf dk = some k := Option.isSome_iff_exists.mp hk
    have := key_rv ry ek
    subst this
    rcases RKs.val ek q with ⟨v, d, e1, e2, r⟩ | ⟨e1, e2⟩
    · exact .inl ⟨v, d, .inl ⟨_, k, h, rfl, e1.symm⟩, e2, r⟩
    · exact .inr ⟨.inl ⟨_, k, h, rfl, e1.symm⟩, e2⟩
  | true =>
    obtain ⟨ks, h, z, q⟩ := ro
    obtain ⟨k, ek⟩ : ∃ k, tkeyOf dk = some k := Option.isSome_iff_exists.mp hk
    obtain ⟨b, rfl, hb⟩ := tkey_rv ry ek
    rcases RTs.val ek q with ⟨v, d, e1, e2, r⟩ | ⟨e1, e2⟩
    · exact .inl ⟨v, d, e1 ▸ DGet.t h hb, e2, r⟩
    · exact .inr ⟨e1 ▸ DGet.t h hb, e2⟩
end
end DL
namespace DL
open PySem L2

/-! ### in -/
def flatD : D → Bool
  | .non => true
  | .bl _ => true
  | .int _ => true
  | .str _ => true
  | _ => false
def eqFlat : D → D → Bool
  | .non, .non => true
  | .bl a, .bl b => a == b
  | .bl a, .int b => (if a then 1 else 0) == b
  | .int a, .bl b => a == (if b then 1 else 0)
  | .int a, .int b => a == b
  | .str a, .str b => a == b
  | _, _ => false
theorem flat_rv {G : Gam} {H : Hp} {pi rho : List Addr} {v : V} {d : D} (r : RV G H pi rho v d) (f : flatD d = true) : flatV v = true := by
  cases r <;> first | rfl | cases f
theorem eqFlat_rv {G : Gam} {H : Hp} {pi rho : List Addr} {v w : V} {d e : D} (r : RV G H pi rho v d) (q : RV G H pi rho w e) (f : flatD d = true) (g : flatD e = true) : eqV v w = eqFlat d e := by
  cases r <;> cases q <;> first | rfl | cases f | cases g
theorem flats_rv {G : Gam} {H : Hp} {pi rho : List Addr} : ∀ {vs : List V} {ds : List D}, RVs G H pi rho vs ds → ds.all flatD = true → vs.all flatV = true
  | _, _, .nil, _ => rfl
  | _, _, .cons r rs, f => by
    rw [List.all_cons, Bool.and_eq_true] at f
    rw [List.all_cons, flat_rv r f.1, flats_rv rs f.2]; rfl
theorem anyFlat_rv {G : Gam} {H : Hp} {pi rho : List Addr} {x : V} {dx : D} (rx : RV G H pi rho x dx) (fx : flatD dx = true) : ∀ {vs : List V} {ds : List D}, RVs G H pi rho vs ds → ds.all flatD = true → inV x vs = ds.any fun y => eqFlat y dx
  | _, _, .nil, _ => rfl
  | _, _, .cons r rs, f => by
    rw [List.all_cons, Bool.and_eq_true] at f
    have ih := anyFlat_rv rx fx rs f.2
    unfold inV at ih ⊢
    rw [List.any_cons, List.any_cons, eqFlat_rv r rx f.1 fx, ih]
def inRes (neg : Bool) (b : Bool) (S : Store) : Res := .ok (.bl (if neg then !b else b)) S false
def vIn (neg : Bool) (x y : D) (S : Store) : Res := match y with
  | .str z => (match x with
    | .str w => inRes neg (!(Builtin.Str.occurrences z w 0 z.length 1).isEmpty) S
    | _ => .stuck)
  | .tup ys => if flatD x && ys.all flatD then inRes neg (ys.any fun y => eqFlat y x) S else .stuck
  | .ktup ys => if flatD x && ys.all flatD then inRes neg (ys.any fun y => eqFlat y x) S else .stuck
  | y => match dctOf S y with
    | some (tk, kvs) => if isKey tk x then inRes neg (dval kvs x).isSome S else .stuck
    | none => match lstOf S y with
      | some ys => (match snap 60 S x, allSome (ys.map (snap 60 S)) with
        | some p, some qs => inRes neg (qs.any fun z => PyData.eqv z p) S
        | _, _ => .stuck)
      | none => .stuck
def rInDct (neg : Bool) : R2 := fun x y H Q => ∃ a o, y = .ref a ∧ DGet H a x o ∧ Q (.bl (if neg then !o.isSome else o.isSome)) H
theorem op_inDct {X : Cx} (hu : X.A.units + 1 < cLine) : OpR X (compareOp .In) (rInDct false) := by
  intro pins s σ H x y v u Q I rx ry ⟨a, o, e, g, q⟩
  subst e
  cases ry
  exact d_in hu I g rx fun s' I' => ⟨.bl _, H, I', rfl, q⟩
def rInStr (neg : Bool) : R2 := fun x y H Q => ∃ i j, x = .str i ∧ y = .str j ∧ Q (.bl (if neg then !(!(Builtin.Str.occurrences j i 0 j.length 1).isEmpty) else !(Builtin.Str.occurrences j i 0 j.length 1).isEmpty)) H
def rInDd (K : PySem.W.Frag) (neg : Bool) : R2 := fun x y H Q => ∃ d ds, Dp K H x d ∧ Dp K H y (.list ds) ∧ SeqAt.shaped d = true ∧ SeqAt.shaped (.list ds) = true ∧ Q (.bl (if neg then !(ds.any fun z => PyData.eqv z d) else (ds.any fun z => PyData.eqv z d))) H
def rInU (K : PySem.W.Frag) (neg : Bool) : R2 := fun x y H Q => rInStr neg x y H Q ∨ rIn K neg x y H Q ∨ rInDct neg x y H Q ∨ rInDd K neg x y H Q
theorem op_inU {X : Cx} (hu : X.A.units + 65 < cLine) : OpR X (compareOp .In) (rInU X.K false) := op_in_str.or (op_in_seq.or ((op_inDct (by omega)).or (op_inD hu)))
theorem vIn_ok {G : Gam} {neg : Bool} : OpS G (rInU G.K neg) (vIn neg) := by
  intro W σ H pi rho S x y dx dy Q R rx ry h
  unfold vIn at h
  have tups : ∀ ys, seqOf S dy = some ys → PostE G W σ H pi rho Q (if flatD dx && ys.all flatD then inRes neg (ys.any fun y => eqFlat y dx) S else .stuck) → rInU G.K neg x y H Q := fun ys e h => by
    split at h
    · rename_i hf
      rw [Bool.and_eq_true] at hf
      obtain ⟨a, vs, rfl, hs, z, q⟩ := seqOf_ok R ry e
      refine .inr (.inl ⟨a, vs, rfl, hs, flat_rv rx hf.1, flats_rv q hf.2, ?_⟩)
      have := PostE.fin h R (.bl _)
      rw [anyFlat_rv rx hf.1 q hf.2]
      exact this
    · exact h.elim
  split at h
  · split at h
    · cases rx; cases ry
      exact .inl ⟨_, _, rfl, rfl, PostE.fin h R (.bl _)⟩
    · exact h.elim
  · exact tups _ rfl h
  · exact tups _ rfl h
  · split at h
    · rename_i tk kvs e
      split at h
      · rename_i hk
        obtain ⟨a, rfl, ro⟩ := dctOf_ok R ry e
        rcases dget_ok ro rx hk with ⟨v, d, g, e2, r⟩ | ⟨g, e2⟩
        · rw [e2] at h
          exact .inr (.inr (.inl ⟨a, _, rfl, g, PostE.fin h R (.bl _)⟩))
        · rw [e2] at h
          exact .inr (.inr (.inl ⟨a, _, rfl, g, PostE.fin h R (.bl _)⟩))
      · exact h.elim
    · split at h
      · rename_i ys e
        split at h
        · rename_i p qs e1 e2
          obtain ⟨a, vs, rfl, hs, z, q⟩ := lstOf_ok R ry e
          have s1 := snap_ok R _ _ _ _ rx e1
          have s2 := (snapAll_of _ (fun v d p r e => snap_ok R 60 v d p r e) q e2).lst (.inl (.inl hs))
          exact .inr (.inr (.inr ⟨p, qs, s1.1, s2.1, s1.shaped (by decide), s2.shaped (by decide), PostE.fin h R (.bl _)⟩))
        · exact h.elim
      · exact h.elim

/-! ### a[b] -/
def vIdx (x y : D) (S : Store) : Res := match x with
  | .str z => (match y with
    | .int i => (match atI z.cps.toList i with
      | some c => if z.length ≤ 16777216 then .ok (.str ⟨#[c]⟩) S false else .stuck
      | none => .stuck)
    | _ => .stuck)
  | x => match dctOf S x with
    | some (tk, kvs) => if isKey tk y then (match dval kvs y with
      | some d => .ok d S false
      | none => .stuck) else .stuck
    | none => match seqOf S x with
      | some xs => (match y with
        | .int i => (match atI xs i with
          | some d => .ok d S false
          | none => .stuck)
        | _ => .stuck)
      | none => .stuck
theorem RVs.atI {G : Gam} {H : Hp} {pi rho : List Addr} {vs : List V} {ds : List D} {i : Int} {d : D} (r : RVs G H pi rho vs ds) (h : L2.atI ds i = some d) : ∃ v, L2.atI vs i = some v ∧ RV G H pi rho v d := by
  unfold L2.atI at h ⊢
  rw [r.length]
  cases e : ixN ds.length i with
  | none => rw [e] at h; cases h
  | some j =>
    rw [e] at h
    exact r.get h
theorem strOk_at {z : Str} {i : Int} {c : Nat} (h : PyData.strOk z = true) (e : L2.atI z.cps.toList i = some c) : PyData.strOk ⟨#[c]⟩ = true := by
  obtain ⟨j, _, h2, _⟩ := atI_get e
  have hm : c ∈ z.cps.toList := List.mem_of_getElem? h2
  unfold PyData.strOk at h ⊢
  rw [Array.all_eq_true'] at h
  have := h c (by simpa using hm)
  simpa using this
def rIxDct : R2 := fun x y H Q => ∃ a v, x = .ref a ∧ DGet H a y (some v) ∧ Q v H
theorem ix_dct {X : Cx} (hu : X.A.units + 1 < cLine) : IxR X rIxDct := by
  intro value slice pins s σ H x y v u Q I rx ry h hs
  obtain ⟨a, z, rfl, g, q⟩ := h
  cases rx
  exact PyProof.Rows.tail_any (dict_typeIs I g) PySem.F.slot_dict_getitem.lookup (d_getItem hu I g ry fun w' s' I' r' => ⟨z, H, I', r', q⟩) hs
def rIxU (K : PySem.W.Frag) : R2 := fun x y H Q => rIxDct x y H Q ∨ rIx K x y H Q
theorem ix_U {X : Cx} (hu : X.A.units + 1 < cLine) : IxR X (rIxU X.K) := (ix_dct hu).or ix_seq
theorem vIdx_ok {G : Gam} : OpS G (rIxU G.K) vIdx := by
  intro W σ H pi rho S x y dx dy Q R rx ry h
  unfold vIdx at h
  split at h
  · split at h
    · split at h
      · rename_i e
        split at h
        · rename_i hz
          cases ry
          cases rx with | str ho =>
          exact .inr (.inr (.inr ⟨_, _, _, rfl, rfl, by rw [sizeLine_eq]; exact hz, e, h.fin R (.str (strOk_at ho e))⟩))
        · exact h.elim
      · exact h.elim
    · exact h.elim
  · split at h
    · rename_i tk kvs e
      split at h
      · rename_i hk
        split at h
        · rename_i d e2
          obtain ⟨a, rfl, ro⟩ := dctOf_ok R rx e
          rcases dget_ok ro ry hk with ⟨v, d', g, e3, r⟩ | ⟨g, e3⟩
          · rw [e2] at e3
            cases e3
            exact .inl ⟨a, v, rfl, g, h.fin R r⟩
          · rw [e2] at e3; cases e3
        · exact h.elim
      · exact h.elim
    · split at h
      · rename_i xs e
        split at h
        · split at h
          · rename_i i d e2
            cases ry
            obtain ⟨a, vs, rfl, hs, z, q⟩ := seqOf_ok R rx e
            obtain ⟨v, ev, r⟩ := q.atI e2
            rcases hs with hs | hs
            · exact .inr (.inl ⟨a, vs, _, v, rfl, rfl, hs, ev, h.fin R r⟩)
            · exact .inr (.inr (.inl ⟨a, vs, _, v, rfl, rfl, hs, ev, h.fin R r⟩))
          · exact h.elim
        · exact h.elim
      · exact h.elim

/-! ### slices -/
def cutD (xs : List D) (lo hi : Option Int) : List D := (xs.drop (HT.sIx xs.length 0 lo)).take (HT.sIx xs.length xs.length hi - HT.sIx xs.length 0 lo)
def vSlice (x : D) (lo hi : Option Int) (S : Store) : Res := match x with
  | .str z => if z.length ≤ 16777216 then .ok (.str (cutS z lo hi)) S false else .stuck
  | .tup xs => .ok (.tup (cutD xs lo hi)) S false
  | .scr ns => .ok (.lst (cutD (ns.map .int) lo hi)) S true
  | x => match lstOf S x with
    | some xs => .ok (.lst (cutD xs lo hi)) S true
    | none => .stuck
theorem RVs.cut {G : Gam} {H : Hp} {pi rho : List Addr} {vs : List V} {ds : List D} (r : RVs G H pi rho vs ds) (lo hi : Option Int) : RVs G H pi rho (cutV vs lo hi) (cutD ds lo hi) := by
  unfold cutV cutD
  rw [r.length]
  exact (r.drop _).take _
theorem strOk_mem {z : Str} (h : PyData.strOk z = true) : ∀ c ∈ z.cps.toList, c < 0x110000 := by
  unfold PyData.strOk at h
  rw [Array.all_eq_true'] at h
  intro c hc
  simpa using h c (by simpa using hc)
theorem strOk_of {z : Str} (h : ∀ c ∈ z.cps.toList, c < 0x110000) : PyData.strOk z = true := by
  unfold PyData.strOk
  rw [Array.all_eq_true']
  intro c hc
  simpa using h c (by simpa using hc)
theorem strOk_cut {z : Str} (h : PyData.strOk z = true) (lo hi : Option Int) : PyData.strOk (cutS z lo hi) = true := by
  refine strOk_of fun c hc => strOk_mem h c ?_
  unfold cutS at hc
  exact List.mem_of_mem_drop (List.mem_of_mem_take (by simpa using hc))
def rSlU (K : PySem.W.Frag) : V → Option Int → Option Int → Hp → VK → Prop := fun x lo hi H Q => rSlS x lo hi H Q ∨ rSlA K x lo hi H Q ∨ rSlL K x lo hi H Q
theorem sl_U {X : Cx} : SlR X (rSlU X.K) := sl_str.or (sl_tupA.or sl_list)
theorem vSlice_ok {G : Gam} {W : WX} {σ : St} {H : Hp} {pi rho : List Addr} {S : Store} {x : V} {dx : D} {Q : VK} (lo hi : Option Int) (R : Rel G H pi rho S) (rx : RV G H pi rho x dx) (h : PostE G W σ H pi rho Q (vSlice dx lo hi S)) : rSlU G.K x lo hi H Q := by
  have lists : ∀ xs, seqOf S dx = some xs → (∀ ys, dx ≠ .tup ys) → (∀ ys, dx ≠ .ktup ys) → PostE G W σ H pi rho Q (.ok (.lst (cutD xs lo hi)) S true) → rSlU G.K x lo hi H Q := fun xs e n1 n2 h => by
    have gen : ∃ a vs, x = .ref a ∧ SqL G.K H a vs ∧ vs.length ≤ sizeLine ∧ RVs G H pi rho vs xs := by
      cases dx with
      | tup ys => exact (n1 ys rfl).elim
      | ktup ys => exact (n2 ys rfl).elim
      | scr ns => cases e; cases rx with | scr h z => exact ⟨_, _, rfl, h.sq, by simpa using z, ints_rv ns⟩
      | _ =>
        obtain ⟨a, vs, e1, h1, z, q⟩ := lstOf_ok R rx e
        exact ⟨a, vs, e1, .inl (.inl h1), z, q⟩
    obtain ⟨a, vs, rfl, hs, z, q⟩ := gen
    exact .inr (.inr ⟨a, vs, rfl, hs, fun p hp => h.newL R (q.cut lo hi) (Nat.le_trans (cutV_length _ _ _) z) hp⟩)
  unfold vSlice at h
  split at h
  · split at h
    · rename_i hz
      cases rx with | str ho =>
      exact .inl ⟨_, rfl, by rw [sizeLine_eq]; exact hz, h.fin R (.str (strOk_cut ho _ _))⟩
    · exact h.elim
  · cases rx with | tup h1 z q =>
    refine .inr (.inl ⟨_, _, rfl, SqT.of h1, fun hw => ?_, fun hn p hp => eC_tup h R (q.cut lo hi) (Nat.le_trans (cutV_length _ _ _) z) hp rfl⟩)
    have e : ∀ xs : List D, HT.sIx xs.length 0 lo = 0 → HT.sIx xs.length xs.length hi = xs.length → cutD xs lo hi = xs := fun xs a b => by
      unfold cutD; rw [a, b]; simp
    rw [q.length] at hw
    rw [e _ hw.1 hw.2] at h
    exact h.fin R (.tup h1 z q)
  · exact lists _ rfl (fun _ e => by cases e) (fun _ e => by cases e) h
  · rename_i n1 n2 n3
    split at h
    · rename_i xs e
      refine lists xs ?_ n2 ?_ h
      · cases dx with
        | tup ys => exact (n2 ys rfl).elim
        | scr ys => exact (n3 ys rfl).elim
        | ktup ys => cases e
        | _ => exact e
      · intro ys q; subst q; cases e
    · exact h.elim

def ePart (o : Option ME) (env : Env') (S : Store) (f : Option Int → Store → Res) : Res := match o with
  | none => f none S
  | some m => (m env S).bind fun x S1 _ => match x with
    | .int i => f (some i) S1
    | _ => .stuck
def eSlice (a : ME) (lo hi : Option ME) : ME := fun env S => (a env S).bind fun x S1 _ => ePart lo env S1 fun l S2 => ePart hi env S2 fun u S3 => vSlice x l u S3
/-- a slice's part -/
inductive DO (X : Cx) (c : Ctx) (W : WX) : Option Expr → Option ME → Prop
  | none : DO X c W none none
  | some {e : Expr} {m : ME} (h : DE X c W e m) : DO X c W (some e) (some m)
section
variable {X : Cx} {c : Ctx} {W : WX} {a b e : Expr} {ma mb : ME} {pos : Pos}
theorem part_ok {e : Option Expr} {m : Option ME} (h : DO X c W e m) : ∃ t, PO X e t ∧ ∀ {σ : St} {H : Hp} {pi rho : List Addr} {S : Store} {env : Env'} {Q : VK} {f : Option Int → Store → Res} {Q' : Option Int → Hp → Prop}, Rel (gm X c) H pi rho S → REnv (gm X c) H pi rho σ env →
    PostE (gm X c) W σ H pi rho Q (ePart m env S f) → (∀ o H1 pi1 S1, Rel (gm X c) H1 pi1 rho S1 → Go H pi rho H1 pi1 → PostE (gm X c) W σ H1 pi1 rho Q (f o S1) → Q' o H1) → t σ H Q' := by
  cases h with
  | none => exact ⟨_, po_none, fun R N h k => k _ _ _ _ R .refl h⟩
  | some he =>
    refine ⟨_, po_some he, fun R N h k => tD.bind R N h fun v H1 d pi1 S1 fr R1 r1 g1 _ h1 => ?_⟩
    cases d with
    | int i => cases r1; exact ⟨i, rfl, k _ _ _ _ R1 g1 h1⟩
    | _ => exact h1.elim
theorem de_slice {lo hi : Option Expr} {ml mh : Option ME} {p2 : Pos} (ha : DE X c W a ma) (hl : DO X c W lo ml) (hh : DO X c W hi mh) : DE X c W (.Subscript a (.Slice lo hi none p2) pos) (eSlice ma ml mh) := by
  obtain ⟨tl, pl, kl⟩ := part_ok hl
  obtain ⟨th, ph, kh⟩ := part_ok hh
  exact PE_weak (pe_slice sl_U ha pl ph) fun σ H Q ⟨pi, rho, S, env, R, N, h⟩ => tD.bind R N h fun x H1 dx pi1 S1 _ R1 r1 g1 _ h1 => kl R1 (N.mono g1.x) h1 fun l H2 pi2 S2 R2 g2 h2 => kh R2 (N.mono (g1.trans g2).x) h2 fun u H3 pi3 S3 R3 g3 h3 => vSlice_ok l u R3 (r1.mono (g2.trans g3).x) h3
theorem de_ix (hu : X.A.units + 1 < cLine) (ha : DE X c W a ma) (hb : DE X c W b mb) (hs : PlainIx b := by intro _ _; rfl) : DE X c W (.Subscript a b pos) (eBin vIdx ma mb) :=
  PE_weak (pe_ix (ix_U hu) ha hb hs) fun σ H Q ⟨pi, rho, S, env, R, N, h⟩ => tD.bind R N h fun x H1 dx pi1 S1 _ R1 r1 g1 _ h1 => tD.bind R1 (N.mono g1.x) h1 fun y H2 dy pi2 S2 _ R2 r2 g2 _ h2 => vIdx_ok _ _ _ _ _ _ _ _ _ _ _ R2 (r1.mono g2.x) r2 h2
end
end DL
namespace DL
open PySem L2

/-! ### built-in functions -/
def vLen : MF
  | [x], S => match x with
    | .str z => if z.length ≤ 16777216 then .ok (.int z.length) S false else .stuck
    | x => match dctOf S x with
      | some (false, kvs) => .ok (.int kvs.length) S false
      | some (true, _) => .stuck
      | none => match seqOf S x with
        | some xs => .ok (.int xs.length) S false
        | none => .stuck
  | _, _ => .stuck
def rLenU (K : PySem.W.Frag) : List V → Hp → VK → Prop := fun xs H Q => (∃ x n, xs = [x] ∧ LenV K x H n ∧ Q (.int n) H) ∨ (∃ a kvs, xs = [V.ref a] ∧ Rd H a (.dK kvs) ∧ Q (.int kvs.length) H)
theorem call_lenR {X : Cx} : CallR X (.builtin "len") (fun xs H Q => ∃ a kvs, xs = [V.ref a] ∧ Rd H a (.dK kvs) ∧ Q (.int kvs.length) H) := by
  intro pins s σ H xs us Q I r h
  obtain ⟨a, kvs, rfl, ha, q⟩ := h
  obtain ⟨u, rfl, ru⟩ := vals1 r
  cases ru
  exact d_len I ha fun t s' I' => ⟨.int kvs.length, H, I', ⟨t, rfl⟩, q⟩
theorem call_lenU {X : Cx} : CallR X (.builtin "len") (rLenU X.K) := CallR.or call_len call_lenR
theorem RVs.one {G : Gam} {H : Hp} {pi rho : List Addr} {xs : List V} {d : D} (r : RVs G H pi rho xs [d]) : ∃ x, xs = [x] ∧ RV G H pi rho x d := by
  cases r with | cons r q => cases q; exact ⟨_, rfl, r⟩
theorem RKs.length {G : Gam} {H : Hp} {pi rho : List Addr} : ∀ {ks : List (Key × V)} {kvs : List (D × D)}, RKs G H pi rho ks kvs → ks.length = kvs.length
  | _, _, .nil => rfl
  | _, _, .cons _ _ r => by simp [RKs.length r]
theorem vLen_ok {G : Gam} : CallS G (rLenU G.K) vLen := by
  intro W σ H pi rho S xs ds Q R rx h
  unfold vLen at h
  split at h
  · obtain ⟨x, rfl, r⟩ := rx.one
    split at h
    · split at h
      · rename_i hz
        cases r
        exact .inl ⟨_, _, rfl, ⟨by rw [sizeLine_eq]; exact hz, rfl⟩, h.fin R (.int _)⟩
      · exact h.elim
    · split at h
      · rename_i kvs e
        obtain ⟨a, rfl, ks, h1, z, q⟩ := dctOf_ok R r e
        rw [← q.length] at h
        exact .inr ⟨a, ks, rfl, h1, h.fin R (.int _)⟩
      · exact h.elim
      · split at h
        · rename_i xs e
          obtain ⟨a, vs, rfl, hs, z, q⟩ := seqOf_ok R r e
          rw [← q.length] at h
          exact .inl ⟨_, _, rfl, hs.elim (fun hs => .inl ⟨vs, hs, rfl⟩) (fun hs => .inr ⟨vs, hs, rfl⟩), h.fin R (.int _)⟩
        · exact h.elim
  · exact h.elim
def vInt : MF
  | [.int i], S => .ok (.int i) S false
  | [.bl b], S => .ok (.int (if b then 1 else 0)) S false
  | _, _ => .stuck
/-- the bools of a list of bools -/
def blsOf : List D → Option (List Bool)
  | [] => some []
  | .bl b :: r => (blsOf r).map (b :: ·)
  | _ :: _ => none
theorem bls_rv {G : Gam} {H : Hp} {pi rho : List Addr} : ∀ {vs : List V} {ds : List D} {bs : List Bool}, RVs G H pi rho vs ds → blsOf ds = some bs → vs = bs.map V.bl
  | _, _, bs, .nil, e => by cases e; rfl
  | _, _, bs, .cons (d := d) (ds := ds) r rs, e => by
    cases d with
    | bl b =>
      obtain ⟨bs', e1, rfl⟩ := map_some (show (blsOf ds).map (b :: ·) = some bs from e)
      cases r
      rw [bls_rv rs e1]; rfl
    | _ => cases e
def vAll : MF
  | [x], S => match lstOf S x with
    | some xs => (match blsOf xs with
      | some bs => .ok (.bl (bs.all id)) S false
      | none => .stuck)
    | none => .stuck
  | _, _ => .stuck
theorem vAll_ok {G : Gam} : CallS G (rAll G.K) vAll := by
  intro W σ H pi rho S xs ds Q R rx h
  unfold vAll at h
  split at h
  · split at h
    · rename_i xs e
      split at h
      · rename_i bs e2
        obtain ⟨x, rfl, r⟩ := rx.one
        obtain ⟨a, vs, rfl, h1, z, q⟩ := lstOf_ok R r e
        have := bls_rv q e2
        subst this
        exact ⟨a, bs, rfl, .inl (.inl h1), h.fin R (.bl _)⟩
      · exact h.elim
    · exact h.elim
  · exact h.elim
def vList : MF
  | [x], S => match seqOf S x with
    | some xs => .ok (.lst xs) S true
    | none => match dctOf S x with
      | some (false, kvs) => .ok (.lst (kvs.map (·.1))) S true
      | _ => .stuck
  | _, _ => .stuck
def rListU (K : PySem.W.Frag) : List V → Hp → VK → Prop := fun xs H Q => (∃ p ys, xs = [.ref p] ∧ (SqL K H p ys ∨ SqT K H p ys) ∧ ∀ l, H l = none → Q (.ref l) (upd H l (.lst ys))) ∨
  (∃ (a : Addr) (kvs : List (Key × V)), xs = [.ref a] ∧ Rd H a (.dK kvs) ∧ ∀ p, H p = none → Q (.ref p) (upd H p (.lst (kvs.map fun kv => kV kv.1))))
theorem call_listU {X : Cx} (hc : X.calm = true) : CallR X (.type "list") (rListU X.K) := CallR.or call_list_of (call_listD hc)
theorem kV_rv {G : Gam} {H : Hp} {pi rho : List Addr} : ∀ {ks : List (Key × V)} {kvs : List (D × D)}, RKs G H pi rho ks kvs → RVs G H pi rho (ks.map fun kv => kV kv.1) (kvs.map (·.1))
  | _, _, .nil => .nil
  | _, _, .cons (k := k) (kd := kd) e r rs => by
    refine .cons ?_ (kV_rv rs)
    cases kd with
    | int i => cases e; exact .int i
    | str s =>
      have e : (if PyData.strOk s = true then some (Sum.inr s : Key) else none) = some k := e
      split at e
      · rename_i h; cases e; exact .str h
      · cases e
    | _ => cases e
theorem vList_ok {G : Gam} : CallS G (rListU G.K) vList := by
  intro W σ H pi rho S xs ds Q R rx h
  unfold vList at h
  split at h
  · obtain ⟨x, rfl, r⟩ := rx.one
    split at h
    · rename_i xs e
      obtain ⟨a, vs, rfl, hs, z, q⟩ := seqOf_ok R r e
      exact .inl ⟨a, vs, rfl, hs, fun p hp => h.newL R q z hp⟩
    · split at h
      · rename_i kvs e
        obtain ⟨a, rfl, ks, h1, z, q⟩ := dctOf_ok R r e
        exact .inr ⟨a, ks, rfl, h1, fun p hp => h.newL R (kV_rv q) (by simpa using z) hp⟩
      · exact h.elim
  · exact h.elim
/-! ### isinstance -/
inductive Tag where
  | non | bl | int | str | tup | lst | dct
  deriving DecidableEq
def Tag.nm : Tag → String
  | .non => "NoneType" | .bl => "bool" | .int => "int" | .str => "str" | .tup => "tuple" | .lst => "list" | .dct => "dict"
def tagOf (S : Store) : D → Option Tag
  | .non => some .non
  | .bl _ => some .bl
  | .int _ => some .int
  | .str _ => some .str
  | .tup _ => some .tup
  | .ktup _ => some .tup
  | .lst _ => some .lst
  | .scr _ => some .lst
  | .dct _ => some .dct
  | .ref n => match S[n]? with
    | some (.lst _) => some .lst
    | some (.dct _ _) => some .dct
    | _ => none
  | .obj _ _ => none
  | .fdct _ => none
  | .err _ => none
def isTag (t c : Tag) : Bool := t == c || (t == .bl && c == .int)
theorem kit_tag : ∀ t c : Tag, kitB t.nm c.nm = some (isTag t c) := by
  intro t c; cases t <;> cases c <;> decide +kernel
theorem ty_rv {G : Gam} {H : Hp} {pi rho : List Addr} {S : Store} {v : V} {d : D} {t : Tag} (R : Rel G H pi rho S) (r : RV G H pi rho v d) (e : tagOf S d = some t) : TyX G.K H v (.type t.nm) := by
  cases r with
  | non => cases e; exact .base .non
  | bl b => cases e; exact .base (.bl b)
  | int i => cases e; exact .base (.int i)
  | str h => cases e; exact .base (.str _)
  | tup h z q => cases e; exact .base (.tup h)
  | ktup h z q =>
    cases e
    obtain ⟨o, its, n, h1, h2, _⟩ := h
    exact .kTuple h1 h2
  | lst h n m z q => cases e; exact .base (.lst h)
  | scr h z =>
    cases e
    rcases h with ⟨o, h⟩ | ⟨o, its, n, h1, h2, _⟩
    · exact .base (.frz h)
    · exact .kList h1 h2
  | dct h n m z q => cases e; exact .base (.dK h)
  | fdct h z q => cases e
  | obj h n m q => cases e
  | err h n m => cases e
  | ref h =>
    obtain ⟨o, eo, ro⟩ := R.addr h
    have e' : (match (some o : Option O) with
      | some (.lst _) => some Tag.lst
      | some (.dct _ _) => some .dct
      | _ => none) = some t := by rw [← eo]; exact e
    cases o with
    | lst xs => cases e'; obtain ⟨vs, h1, _⟩ := ro; exact .base (.lst h1)
    | dct tk kvs =>
      cases e'
      cases tk with
      | false => obtain ⟨ks, h1, _⟩ := ro; exact .base (.dK h1)
      | true => obtain ⟨ks, h1, _⟩ := ro; exact .base (.dT h1)
    | ins c fs => cases e'
    | fz kvs => cases e'
def vIsi (c : Tag) (x : D) (S : Store) : Res := match tagOf S x with
  | some t => .ok (.bl (isTag t c)) S false
  | none => .stuck
/-- isinstance(x, (c1, c2, ..)) -/
def vIsiT (cs : List Tag) (x : D) (S : Store) : Res := match tagOf S x with
  | some t => .ok (.bl (cs.any fun c => isTag t c)) S false
  | none => .stuck
theorem kit_any {K : PySem.W.Frag} {t : Tag} : ∀ cs : List Tag, PySem.W.kitAny K (.type t.nm) (cs.map fun c => Value.type c.nm) = some (cs.any fun c => isTag t c)
  | [] => kitAny_nil
  | c :: cs => by
    rw [List.map_cons, List.any_cons]
    refine kitAny_cons (b := isTag t c) (kit_ty (kit_tag t c)) (fun e => ?_) (fun e => ?_)
    · rw [e, Bool.false_or]; exact kit_any cs
    · rw [e, Bool.true_or]
/-- a built-in class's name as an expression -/
def TyNm (X : Cx) (e : Expr) (c : Tag) : Prop := PE X e (tC (.ty c.nm))
theorem tyNm {X : Cx} {x : Str} {c : Tag} {pos : Pos} (hg : Gl X x) (hm : X.mg x = none) (hv : bootBuiltins x = some (.type c.nm)) (hn : x ≠ "__name__" := by decide) (hd : (x == ("__debug__" : Str)) = false := by decide) : TyNm X (.Name x pos) c :=
  pe_bltn hg hm hv rfl hn hd
inductive TyNms (X : Cx) : List Expr → List Tag → Prop
  | nil : TyNms X [] []
  | cons {e : Expr} {es : List Expr} {c : Tag} {cs : List Tag} (h : TyNm X e c) (r : TyNms X es cs) (hs : starEach (e :: es) X.env = (false, eval e X.env) :: starEach es X.env := by rfl) : TyNms X (e :: es) (c :: cs)
theorem TyNms.pa {X : Cx} {es : List Expr} {cs : List Tag} (h : TyNms X es cs) : PA X es (fun _ H Q => Q (cs.map fun c => V.ty c.nm) H) := by
  induction h with
  | nil => exact pa_nil
  | cons h r hs ih => exact PA_weak (pa_cons h ih hs) fun σ H Q q => q
section
variable {X : Cx} {c : Ctx} {W : WX} {a b e : Expr} {es : List Expr} {ma mb : ME} {pos : Pos}
theorem de_isi {p : Pos} {k : Tag} (hg : Gl X "isinstance") (hm : X.mg "isinstance" = none) (hv : bootBuiltins "isinstance" = some (.builtin "isinstance")) (ha : DE X c W a ma) (hb : TyNm X b k)
    (hs : starEach [a, b] X.env = (false, eval a X.env) :: starEach [b] X.env := by rfl) (hs2 : starEach [b] X.env = (false, eval b X.env) :: starEach [] X.env := by rfl) (hpl : (backTo pos (starEach [b] X.env)).any (·.1) = false := by rfl) :
    DE X c W (.Call (.Name "isinstance" p) [a, b] [] pos) (eUn (vIsi k) ma) :=
  PE_weak (pe_callB call_isi hg hm hv (pa_cons ha (pa_cons hb pa_nil hs2) hs) (by decide) (by decide) hs hpl) fun σ H Q ⟨pi, rho, S, env, R, N, h⟩ => tD.bind R N h fun x H1 dx pi1 S1 _ R1 r1 g1 _ h1 => by
    unfold vIsi at h1
    split at h1
    · rename_i t e
      exact ⟨x, _, _, _, _, rfl, .ty _, ty_rv R1 r1 e, kit_ty (kit_tag t k), PostE.fin h1 R1 (.bl _)⟩
    · exact h1.elim
theorem clsV_all : ∀ cs : List Tag, Paired ClsV (cs.map fun c => V.ty c.nm) (cs.map fun c => Value.type c.nm)
  | [] => .nil
  | c :: cs => .cons (.ty _) (clsV_all cs)
theorem de_isiT {p tp : Pos} {k : Nat} {cs : List Tag} (hg : Gl X "isinstance") (hm : X.mg "isinstance" = none) (hv : bootBuiltins "isinstance" = some (.builtin "isinstance")) (ha : DE X c W a ma) (hb : TyNms X es cs) (hn : cs.length ≤ 1000)
    (hs : starEach [a, .Tuple es k tp] X.env = (false, eval a X.env) :: starEach [.Tuple es k tp] X.env := by rfl) (hs2 : starEach [.Tuple es k tp] X.env = (false, eval (.Tuple es k tp) X.env) :: starEach [] X.env := by rfl) (hpl : (backTo pos (starEach [.Tuple es k tp] X.env)).any (·.1) = false := by rfl) :
    DE X c W (.Call (.Name "isinstance" p) [a, .Tuple es k tp] [] pos) (eUn (vIsiT cs) ma) :=
  PE_weak (pe_callB call_isiT hg hm hv (pa_cons ha (pa_cons (pe_tup hb.pa) pa_nil hs2) hs) (by decide) (by decide) hs hpl) fun σ H Q ⟨pi, rho, S, env, R, N, h⟩ => tD.bind R N h fun x H1 dx pi1 S1 _ R1 r1 g1 _ h1 => by
    unfold vIsiT at h1
    split at h1
    · rename_i t e
      refine ⟨by simpa using line1000 hn, fun q hq => ⟨x, q, _, _, _, _, rfl, upd_same, clsV_all cs, ty_rv (R1.new hq) (r1.mono (Ext.new hq)) e, kit_any cs, ?_⟩⟩
      exact PostE.fin (PostE.base (Go.new hq) h1) (R1.new hq) (.bl _)
    · exact h1.elim
end
/-! ### texts -/
def strsOf : List D → Option (List Str)
  | [] => some []
  | .str s :: r => (strsOf r).map (s :: ·)
  | _ :: _ => none
theorem strs_rv {G : Gam} {H : Hp} {pi rho : List Addr} : ∀ {vs : List V} {ds : List D} {bs : List Str}, RVs G H pi rho vs ds → strsOf ds = some bs → vs = bs.map V.str ∧ ∀ s ∈ bs, PyData.strOk s = true
  | _, _, bs, .nil, e => by cases e; exact ⟨rfl, fun _ h => by cases h⟩
  | _, _, bs, .cons (d := d) (ds := ds) r rs, e => by
    cases d with
    | str b =>
      obtain ⟨bs', e1, rfl⟩ := map_some (show (strsOf ds).map (b :: ·) = some bs from e)
      cases r with | str ho =>
      obtain ⟨e2, h2⟩ := strs_rv rs e1
      rw [e2]
      exact ⟨rfl, fun s hs => by
        rw [List.mem_cons] at hs
        rcases hs with rfl | hs
        · exact ho
        · exact h2 s hs⟩
    | _ => cases e
theorem strOk_tl {z : Str} : PyData.strOk z = true ↔ ∀ c ∈ TL.tl z, c < 0x110000 := ⟨strOk_mem, strOk_of⟩
theorem joinL_mem {S : List Nat} : ∀ {ps : List (List Nat)} {c : Nat}, c ∈ TL.joinL S ps → c ∈ S ∨ ∃ p ∈ ps, c ∈ p
  | [], c, h => by cases h
  | [p], c, h => .inr ⟨p, List.mem_cons_self, h⟩
  | p :: q :: r, c, h => by
    have h' : c ∈ p ++ (S ++ TL.joinL S (q :: r)) := h
    rw [List.mem_append, List.mem_append] at h'
    rcases h' with h' | h' | h'
    · exact .inr ⟨p, List.mem_cons_self, h'⟩
    · exact .inl h'
    · rcases joinL_mem h' with h2 | ⟨z, hz, h2⟩
      · exact .inl h2
      · exact .inr ⟨z, List.mem_cons_of_mem _ hz, h2⟩
theorem strOk_join {a : Str} {ys : List Str} (ha : PyData.strOk a = true) (hy : ∀ s ∈ ys, PyData.strOk s = true) : PyData.strOk (Txt.join a ys) = true := by
  rw [strOk_tl, TL.join_eq, TL.tl_join]
  intro c hc
  rcases joinL_mem hc with h | ⟨p, hp, h⟩
  · exact strOk_tl.mp ha c h
  · rw [List.mem_map] at hp
    obtain ⟨s, hs, rfl⟩ := hp
    exact strOk_tl.mp (hy s hs) c h
/-- a method of a built-in type, by values: the receiver's type is seen first -/
def eBM (ok : D → Store → Bool) (F : D → List D → Store → Res) (a : ME) (ms : List ME) : ME := fun env S => (a env S).bind fun x S1 _ => if ok x S1 = true then (eArgs ms env S1).bind fun ds S2 => F x ds S2 else .stuck
def isStrD : D → Store → Bool
  | .str _, _ => true
  | _, _ => false
def isLstD (x : D) (S : Store) : Bool := (lstOf S x).isSome
def MtS (G : Gam) (r : V → List V → Hp → VK → Prop) (F : D → List D → Store → Res) : Prop := ∀ (W : WX) (σ : St) (H : Hp) (pi rho : List Addr) (S : Store) (x : V) (xs : List V) (dx : D) (ds : List D) (Q : VK), Rel G H pi rho S → RV G H pi rho x dx → RVs G H pi rho xs ds → PostE G W σ H pi rho Q (F dx ds S) → r x xs H Q
def TyS (G : Gam) (T : String) (ok : D → Store → Bool) : Prop := ∀ (H : Hp) (pi rho : List Addr) (S : Store) (x : V) (dx : D), Rel G H pi rho S → RV G H pi rho x dx → ok dx S = true → tyV G.K T x H
theorem ty_str {G : Gam} : TyS G "str" isStrD := by
  intro H pi rho S x dx R r e
  cases r <;> first | rfl | cases e
theorem ty_lst {G : Gam} : TyS G "list" isLstD := by
  intro H pi rho S x dx R r e
  obtain ⟨ds, e⟩ := Option.isSome_iff_exists.mp e
  obtain ⟨a, vs, rfl, h, z, q⟩ := lstOf_ok R r e
  exact .inl ⟨rfl, vs, .inl (.inl h)⟩
section
variable {X : Cx} {c : Ctx} {W : WX} {o e : Expr} {es : List Expr} {mo : ME} {ms : List ME} {name : Str} {apos cpos : Pos} {T id : String} {r : V → List V → Hp → VK → Prop} {F : D → List D → Store → Res} {ok : D → Store → Bool}
theorem de_bm (pa : PlainAttrs T) (slot : Slot T name id) (hty : typeOf (.builtin id) = pure (.type "method_descriptor")) (hm : MtR X id r) (ty : TyS (gm X c) T ok) (hF : MtS (gm X c) r F) (ho : DE X c W o mo) (ha : DA X c W (e :: es) ms)
    (hbase : attributeBase o name X.env (eval o X.env) = eval o X.env := by rfl)
    (hfew : ((backTo cpos (starEach (e :: es) X.env)).all (fun x => !x.1) && (backToKw cpos (keywordEach [] X.env)).all (fun x => x.1.isSome)
      && decide ((e :: es).length + ([] : List Keyword).length + (if ([] : List Keyword).isEmpty then 0 else 1) < 30)) = true := by rfl)
    (hline : (apos.endLine == cpos.line) = true := by rfl) (hs : starEach (e :: es) X.env = (false, eval e X.env) :: starEach es X.env := by rfl) (hplain : (backTo cpos (starEach es X.env)).any (·.1) = false := by rfl) :
    DE X c W (.Call (.Attribute o name apos) (e :: es) [] cpos) (eBM ok F mo ms) :=
  PE_weak (pe_bm pa slot hty hm ho ha hbase hfew hline hs hplain) fun σ H Q ⟨pi, rho, S, env, R, N, h⟩ => tD.bind R N h fun x H1 dx pi1 S1 _ R1 r1 g1 _ h1 => by
    split at h1
    · rename_i hk
      exact ⟨ty _ _ _ _ _ _ R1 r1 hk, tDA.bind R1 (N.mono g1.x) h1 fun vs H2 ds pi2 S2 e R2 r2 g2 h2 => hF _ _ _ _ _ _ _ _ _ _ _ R2 (r1.mono g2.x) r2 h2⟩
    · exact h1.elim
end
def vJoin : D → List D → Store → Res
  | .str a, [x], S => match seqOf S x with
    | some xs => (match strsOf xs with
      | some ys => if (ys.map (·.length)).sum + ys.length * a.length ≤ 16777216 then .ok (.str (Txt.join a ys)) S false else .stuck
      | none => .stuck)
    | none => .stuck
  | _, _, _ => .stuck
theorem vJoin_ok {G : Gam} : MtS G (fun x xs H Q => ∃ a p, ∃ ys : List Str, x = .str a ∧ xs = [.ref p] ∧ (SqL G.K H p (ys.map V.str) ∨ SqT G.K H p (ys.map V.str)) ∧ (ys.map (·.length)).sum + ys.length * a.length ≤ 16777216 ∧ Q (.str (Txt.join a ys)) H) vJoin := by
  intro W σ H pi rho S x xs dx ds Q R rx rs h
  unfold vJoin at h
  split at h
  · split at h
    · rename_i zs e
      split at h
      · rename_i ys e2
        split at h
        · rename_i hz
          obtain ⟨y, rfl, ry⟩ := rs.one
          obtain ⟨p, vs, rfl, hs, z, q⟩ := seqOf_ok R ry e
          obtain ⟨e3, h3⟩ := strs_rv q e2
          subst e3
          cases rx with | str ho =>
          exact ⟨_, p, ys, rfl, rfl, hs, hz, h.fin R (.str (strOk_join ho h3))⟩
        · exact h.elim
      · exact h.elim
    · exact h.elim
  · exact h.elim
def vUpper : D → List D → Store → Res
  | .str a, [], S => if a.length ≤ 5592405 ∧ PyData.strOk (Txt.upper a) = true then .ok (.str (Txt.upper a)) S false else .stuck
  | _, _, _ => .stuck
/-! ### lists that change -/
/-- a list of the store changes -/
theorem lset_ok {G : Gam} {W : WX} {σ : St} {H : Hp} {pi rho : List Addr} {S : Store} {Q : VK} {n : Nat} {l : Addr} {ws : List V} {ys : List D} {v : V} {d : D} (R : Rel G H pi rho S) (hl : pi[n]? = some l) (q : RVs G H pi rho ws ys) (hz : ws.length ≤ sizeLine)
    (mu : ∃ ho, H l = some ho ∧ Muta ho) (r : RV G H pi rho v d) (h : PostE G W σ H pi rho Q (.ok d (S.set n (.lst ys)) false)) : Q v (upd H l (.lst ws)) := by
  have x : Ext H pi rho (upd H l (.lst ws)) pi rho := Ext.set R hl mu
  exact h _ _ _ (R.set hl mu ⟨ws, upd_same, hz, q.mono x⟩) (r.mono x) (Go.set R hl mu) fun e => by cases e
theorem lref_ok {G : Gam} {H : Hp} {pi rho : List Addr} {S : Store} {v : V} {n : Nat} {xs : List D} (R : Rel G H pi rho S) (r : RV G H pi rho v (.ref n)) (e : S[n]? = some (.lst xs)) : ∃ l ws, v = .ref l ∧ pi[n]? = some l ∧ H l = some (.lst ws) ∧ ws.length ≤ sizeLine ∧ RVs G H pi rho ws xs := by
  cases r with | ref h =>
  obtain ⟨o, eo, ro⟩ := R.addr h
  rw [e] at eo
  cases eo
  obtain ⟨ws, h1, z, q⟩ := ro
  exact ⟨_, ws, rfl, h, h1, z, q⟩
def vAppend : D → List D → Store → Res
  | .ref n, [y], S => match S[n]? with
    | some (.lst xs) => if xs.length < 16777216 then .ok .non (S.set n (.lst (xs ++ [y]))) false else .stuck
    | _ => .stuck
  | _, _, _ => .stuck
theorem vAppend_ok {G : Gam} : MtS G rAppend vAppend := by
  intro W σ H pi rho S x xs dx ds Q R rx rs h
  unfold vAppend at h
  split at h
  · split at h
    · rename_i e
      split at h
      · rename_i hz
        obtain ⟨y, rfl, ry⟩ := rs.one
        obtain ⟨l, ws, rfl, hl, h1, z, q⟩ := lref_ok R rx e
        have hz' : ws.length < sizeLine := by rw [q.length, sizeLine_eq]; exact hz
        exact ⟨l, ws, y, rfl, rfl, h1, hz', lset_ok R hl (q.append (.cons ry .nil)) (by rw [List.length_append]; exact hz') ⟨_, h1, trivial⟩ .non h⟩
      · exact h.elim
    · exact h.elim
  · exact h.elim
end DL
namespace DL
open PySem L2

/-! ### statements -/
def PostS (G : Gam) (W : WX) (D : Ends) (H : Hp) (pi rho : List Addr) : FR → Prop
  | .nx env' S' => ∀ σ' H' pi', Rel G H' pi' rho S' → REnv G H' pi' rho σ' env' → Go H pi rho H' pi' → D.nx σ' H'
  | .bk env' S' => ∀ σ' H' pi', Rel G H' pi' rho S' → REnv G H' pi' rho σ' env' → Go H pi rho H' pi' → D.bk σ' H'
  | .ct env' S' => ∀ σ' H' pi', Rel G H' pi' rho S' → REnv G H' pi' rho σ' env' → Go H pi rho H' pi' → D.ct σ' H'
  | .rt d S' fr => ∀ v H' pi', Rel G H' pi' rho S' → RV G H' pi' rho v d → Go H pi rho H' pi' → (fr = true → Frsh G H H' pi' rho v d S') → D.rt v H'
  | .exc e env' S' => ∀ σ' cls dx H' pi', Rel G H' pi' rho S' → REnv G H' pi' rho σ' env' → Go H pi rho H' pi' → RExc G H' rho e cls dx → W cls dx σ' H'
  | .stuck => False
def tS (G : Gam) (W : WX) (m : MS) : TS := fun D σ H => ∃ pi rho S env, Rel G H pi rho S ∧ REnv G H pi rho σ env ∧ PostS G W D H pi rho (m env S)
def DS (X : Cx) (c : Ctx) (W : WX) (st : Stmt) (m : MS) : Prop := PS X st (tS (gm X c) W m)
def DSs (X : Cx) (c : Ctx) (W : WX) (st : List Stmt) (m : MS) : Prop := PSs X st (tS (gm X c) W m)
def Res.bindS (r : Res) (env : Env') (k : D → Store → Bool → FR) : FR := match r with
  | .ok d S fr => k d S fr
  | .exc e S => .exc e env S
  | .stuck => .stuck
@[simp] theorem Res.bindS_ok (d : D) (S : Store) (fr : Bool) (env : Env') (k : D → Store → Bool → FR) : (Res.ok d S fr).bindS env k = k d S fr := rfl
@[simp] theorem Res.bindS_exc (e : Exc) (S : Store) (env : Env') (k : D → Store → Bool → FR) : (Res.exc e S).bindS env k = .exc e env S := rfl
@[simp] theorem Res.bindS_stuck (env : Env') (k : D → Store → Bool → FR) : Res.stuck.bindS env k = .stuck := rfl
section
variable {G : Gam} {W : WX} {H H1 H' : Hp} {pi pi1 pi' rho : List Addr} {σ σ' : St} {env env' : Env'} {S S' : Store} {D : Ends}
theorem PostS.base (g : Go H pi rho H1 pi1) : ∀ {r : FR}, PostS G W D H pi rho r → PostS G W D H1 pi1 rho r
  | .nx _ _, h => fun σ' H' pi' R N g' => h σ' H' pi' R N (g.trans g')
  | .bk _ _, h => fun σ' H' pi' R N g' => h σ' H' pi' R N (g.trans g')
  | .ct _ _, h => fun σ' H' pi' R N g' => h σ' H' pi' R N (g.trans g')
  | .rt _ _ _, h => fun v H' pi' R r g' f => h v H' pi' R r (g.trans g') fun e => (f e).base g
  | .exc _ _ _, h => fun σ' c d H' pi' R N g' r => h σ' c d H' pi' R N (g.trans g') r
  | .stuck, h => h
theorem tD.bindS {m : ME} {k : DL.D → Store → Bool → FR} {Q' : VK} (R : Rel G H pi rho S) (N : REnv G H pi rho σ env) (h : PostS G W D H pi rho ((m env S).bindS env k))
    (kk : ∀ v H1 d pi1 S1 fr, Rel G H1 pi1 rho S1 → RV G H1 pi1 rho v d → Go H pi rho H1 pi1 → (fr = true → Frsh G H H1 pi1 rho v d S1) → PostS G W D H pi rho (k d S1 fr) → Q' v H1) : tD G W m σ H Q' := by
  refine ⟨pi, rho, S, env, R, N, ?_⟩
  cases e : m env S with
  | ok d S1 fr =>
    rw [e] at h
    intro v H1 pi1 R1 r g f1
    exact kk v H1 d pi1 S1 fr R1 r g f1 h
  | exc x S1 =>
    rw [e] at h
    exact fun cls dx H1 pi1 R1 g q => h σ cls dx H1 pi1 R1 (N.mono g.x) g q
  | stuck => rw [e] at h; exact h
theorem PostS.fin (h : PostS G W D H pi rho (.nx env S)) (R : Rel G H pi rho S) (N : REnv G H pi rho σ env) : D.nx σ H := h σ H pi R N .refl
end

def sSeq (a b : MS) : MS := fun env S => match a env S with
  | .nx env' S' => b env' S'
  | r => r
def sPass : MS := fun env S => .nx env S
def sRet (m : ME) : MS := fun env S => (m env S).bindS env fun d S1 fr => .rt d S1 fr
def sRetN : MS := fun env S => .rt .non S false
def sExpr (m : ME) : MS := fun env S => (m env S).bindS env fun _ S1 _ => .nx env S1
def sSet (i : Nat) (m : ME) : MS := fun env S => (m env S).bindS env fun d S1 _ => .nx (env.set i (.val d)) S1
def onS (x : D) (t u : FR) : FR := match x with
  | .bl true => t
  | .bl false => u
  | _ => .stuck
@[simp] theorem onS_t (t u : FR) : onS (.bl true) t u = t := rfl
@[simp] theorem onS_f (t u : FR) : onS (.bl false) t u = u := rfl
def sIf (c : ME) (a b : MS) : MS := fun env S => (c env S).bindS env fun x S1 _ => onS x (a env S1) (b env S1)
def sBrk : MS := fun env S => .bk env S
def sCt : MS := fun env S => .ct env S
section
variable {X : Cx} {c : Ctx} {W : WX} {st : Stmt} {sts : List Stmt} {e : Expr} {m : ME} {a b : MS} {pos : Pos}
theorem dss_nil : DSs X c W [] sPass := PSs_weak pss_nil fun D σ H ⟨pi, rho, S, env, R, N, h⟩ => h.fin R N
theorem dss_one (h : DS X c W st a) : DSs X c W [st] a := pss_one h
theorem dss_cons (h : DS X c W st a) (h2 : DSs X c W sts b) : DSs X c W (st :: sts) (sSeq a b) :=
  PSs_weak (pss_cons h h2) fun D σ H ⟨pi, rho, S, env, R, N, h⟩ => by
    refine ⟨pi, rho, S, env, R, N, ?_⟩
    unfold sSeq at h
    cases e : a env S with
    | nx env' S' =>
      rw [e] at h
      intro σ' H' pi' R' N' g
      exact ⟨pi', rho, S', env', R', N', PostS.base g h⟩
    | rt d S' fr => rw [e] at h; exact h
    | bk env' S' => rw [e] at h; exact h
    | ct env' S' => rw [e] at h; exact h
    | exc x env' S' => rw [e] at h; exact h
    | stuck => rw [e] at h; exact h
theorem ds_expr (he : DE X c W e m) (hs : swapsWith e none pos.line X.env = pure false := by rfl) : DS X c W (.Expr e pos) (sExpr m) :=
  PS_weak (ps_expr he hs) fun D σ H ⟨pi, rho, S, env, R, N, h⟩ => tD.bindS R N h fun v H1 d pi1 S1 fr R1 r1 g1 _ h1 => h1 σ H1 pi1 R1 (N.mono g1.x) g1
theorem ds_ret (he : DE X c W e m) : DS X c W (.Return (some e) pos) (sRet m) :=
  PS_weak (ps_ret he) fun D σ H ⟨pi, rho, S, env, R, N, h⟩ => tD.bindS R N h fun v H1 d pi1 S1 fr R1 r1 g1 f1 h1 => h1 v H1 pi1 R1 r1 g1 f1
theorem ds_set (i : Nat) {x : Str} {pos' : Pos} (hN : X.N.Nodup) (he : DE X c W e m) (hi : X.N[i]? = some x := by rfl) (hx : Loc X.env.scope x := by first | exact Or.inl rfl | exact Or.inr rfl) (hs : swapsWith e (some (.Name x pos')) pos.line X.env = pure false := by rfl)
    (hf : X.fn x = true ∨ X.env.scope.names.lookup x = some .local := by first | exact .inl rfl | exact .inr rfl) : DS X c W (.Assign [.Name x pos'] e pos) (sSet i m) :=
  PS_weak (ps_set hN hi hx he hs hf) fun D σ H ⟨pi, rho, S, env, R, N, h⟩ => tD.bindS R N h fun v H1 d pi1 S1 fr R1 r1 g1 _ h1 => h1 _ H1 pi1 R1 ((N.mono g1.x).set r1 i) g1
theorem ds_if {t : Expr} {p q : List Stmt} {mt : ME} (ht : DT X c W t mt) (ha : DSs X c W p a) (hb : DSs X c W q b) : DS X c W (.If t p q pos) (sIf mt a b) :=
  PS_weak (ps_if ht ha hb) fun D σ H ⟨pi, rho, S, env, R, N, h⟩ => tD.bindS R N h fun v H1 d pi1 S1 fr R1 r1 g1 _ h1 => by
    cases d with
    | bl k =>
      refine ⟨k, bl_of r1, ?_⟩
      cases k with
      | true => rw [if_pos rfl]; exact ⟨pi1, rho, S1, env, R1, N.mono g1.x, PostS.base g1 h1⟩
      | false => rw [if_neg Bool.false_ne_true]; exact ⟨pi1, rho, S1, env, R1, N.mono g1.x, PostS.base g1 h1⟩
    | _ => exact h1.elim
end

/-! ### targets -/
abbrev MG := D → Env' → Store → Option Env'
def gN (i : Nat) : MG := fun d env _ => some (env.set i (.val d))
def gAll : List MG → List D → Env' → Store → Option Env'
  | [], [], env, _ => some env
  | g :: gs, d :: ds, env, S => (g d env S).bind fun env1 => gAll gs ds env1 S
  | _, _, _, _ => none
def gT (gs : List MG) : MG := fun d env S => (seqOf S d).bind fun ds => gAll gs ds env S
theorem wipe_get (σ : St) : ∀ (vs : List Nat) (j : Nat), (wipe σ vs)[j]? = if j ∈ vs ∧ j < σ.length then some none else σ[j]?
  | [], j => by simp [wipe]
  | v :: vs, j => by
    unfold wipe
    by_cases hj : j = v
    · subst hj
      by_cases hl : j < σ.length
      · rw [List.getElem?_set_self (by rw [wipe_length]; exact hl), if_pos ⟨List.mem_cons_self, hl⟩]
      · rw [if_neg (fun q => hl q.2), List.getElem?_eq_none (by rw [List.length_set, wipe_length]; omega), List.getElem?_eq_none (by omega)]
    · rw [List.getElem?_set_ne (Ne.symm hj), wipe_get σ vs j]
      simp [hj]
theorem wipe_set (σ : St) {vs : List Nat} {i : Nat} (x : Option V) (h : i ∈ vs) : wipe (σ.set i x) vs = wipe σ vs := by
  apply List.ext_getElem?
  intro j
  rw [wipe_get, wipe_get, List.length_set]
  by_cases hj : j ∈ vs ∧ j < σ.length
  · rw [if_pos hj, if_pos hj]
  · rw [if_neg hj, if_neg hj]
    by_cases hi : j = i
    · subst hi
      have hl : ¬ j < σ.length := fun q => hj ⟨h, q⟩
      rw [List.getElem?_eq_none (by rw [List.length_set]; omega), List.getElem?_eq_none (by omega)]
    · rw [List.getElem?_set_ne (Ne.symm hi)]
/-- σ' is σ but for the slots is -/
def WipeAs (σ' σ : St) (is : List Nat) : Prop := ∀ vs : List Nat, (∀ i ∈ is, i ∈ vs) → wipe σ' vs = wipe σ vs
def DG (X : Cx) (c : Ctx) (tg : Expr) (g : MG) (is : List Nat) : Prop := PG X tg fun v σ H Q => ∃ pi rho S env d env', Rel (gm X c) H pi rho S ∧ REnv (gm X c) H pi rho σ env ∧ RV (gm X c) H pi rho v d ∧ g d env S = some env' ∧ ∀ σ', REnv (gm X c) H pi rho σ' env' → WipeAs σ' σ is → Q σ' H
theorem PG_weak {X : Cx} {e : Expr} {t t' : TG} (h : PG X e t) (f : ∀ v σ H Q, t' v σ H Q → t v σ H Q) : PG X e t' := ⟨fun pins s σ H v u Q I r q => h.run pins s σ H v u Q I r (f v σ H Q q)⟩
section
variable {X : Cx} {c : Ctx} {W : WX} {e : Expr} {es : List Expr} {g : MG} {gs : List MG} {m : ME} {is js : List Nat} {pos : Pos}
theorem dg_name (i : Nat) {x : Str} (hN : X.N.Nodup) (hi : X.N[i]? = some x := by rfl) (hx : Loc X.env.scope x := by first | exact Or.inl rfl | exact Or.inr rfl) (hf : X.fn x = true ∨ X.env.scope.names.lookup x = some .local := by first | exact .inl rfl | exact .inr rfl) : DG X c (.Name x pos) (gN i) [i] :=
  PG_weak (pg_name hN hi hx hf) fun v σ H Q ⟨pi, rho, S, env, d, env', R, N, r, e, k⟩ => by
    cases e
    exact k _ (N.set r i) fun vs h => wipe_set σ _ (h i List.mem_cons_self)
end
def sAsg (g : MG) (m : ME) : MS := fun env S => (m env S).bindS env fun d S1 _ => match g d env S1 with
  | some env' => .nx env' S1
  | none => .stuck
section
variable {X : Cx} {c : Ctx} {W : WX} {e tg : Expr} {es : List Expr} {g : MG} {m : ME} {is : List Nat} {pos : Pos}
end
/-! ### o[i] = v -/
def dput (kvs : List (D × D)) (k v : D) : List (D × D) := if (kvs.any fun p => decide (p.1 = k)) = true then kvs.map (fun p => if p.1 = k then (p.1, v) else p) else kvs ++ [(k, v)]
def vSetItem (o i v : D) (S : Store) : Option Store := match o with
  | .ref n => (match S[n]? with
    | some (.lst xs) => (match i with
      | .int k => (match ixN xs.length k with
        | some j => some (S.set n (.lst (xs.set j v)))
        | none => none)
      | _ => none)
    | some (.dct tk kvs) => if isKey tk i = true ∧ kvs.length < 16777216 then some (S.set n (.dct tk (dput kvs i v))) else none
    | _ => none)
  | _ => none
def rSetDct : V → V → V → Hp → (Hp → Prop) → Prop := fun o i v H Q => ∃ a H', o = .ref a ∧ DPut H a i v H' ∧ Q H'
theorem set_dct {X : Cx} (hu : X.A.units + 1 < cLine) : PSet X rSetDct := by
  intro pins s σ H o i v ov iv u Q I ro ri rv ⟨a, H', e, g, q⟩
  subst e
  cases ro
  exact d_setItem hu I g ri rv fun s' I' => ⟨H', I', q⟩
theorem PSet_or {X : Cx} {t t' : TSet} (h : PSet X t) (h' : PSet X t') : PSet X (fun o i v H Q => t o i v H Q ∨ t' o i v H Q) := fun pins s σ H o i v ov iv u Q I ro ri rv q =>
  q.elim (fun q => h pins s σ H o i v ov iv u Q I ro ri rv q) fun q => h' pins s σ H o i v ov iv u Q I ro ri rv q
section
variable {G : Gam} {H : Hp} {pi rho : List Addr} {S : Store}
theorem RKs.any {kd : D} {k : Key} (ek : keyOf kd = some k) : ∀ {ks : List (Key × V)} {kvs : List (D × D)}, RKs G H pi rho ks kvs → (ks.any fun p => decide (p.1 = k)) = (kvs.any fun p => decide (p.1 = kd))
  | _, _, .nil => rfl
  | _, _, .cons (k := k') (kd := kd') e r rs => by
    rw [List.any_cons, List.any_cons, RKs.any ek rs]
    congr 1
    by_cases h : kd' = kd
    · subst h
      rw [e] at ek
      simp [Option.some.inj ek]
    · have h2 : ¬ k' = k := fun q => h (keyOf_inj e (q ▸ ek))
      simp [h, h2]
theorem RKs.append : ∀ {ks ks' : List (Key × V)} {kvs kvs' : List (D × D)}, RKs G H pi rho ks kvs → RKs G H pi rho ks' kvs' → RKs G H pi rho (ks ++ ks') (kvs ++ kvs')
  | _, _, _, _, .nil, q => q
  | _, _, _, _, .cons e r rs, q => .cons e r (RKs.append rs q)
theorem RKs.repl {kd : D} {k : Key} (ek : keyOf kd = some k) {v : V} {d : D} (r0 : RV G H pi rho v d) : ∀ {ks : List (Key × V)} {kvs : List (D × D)}, RKs G H pi rho ks kvs → RKs G H pi rho (ks.map fun p => if p.1 = k then (p.1, v) else p) (kvs.map fun p => if p.1 = kd then (p.1, d) else p)
  | _, _, .nil => .nil
  | _, _, .cons (k := k') (kd := kd') e r rs => by
    rw [List.map_cons, List.map_cons]
    by_cases h : kd' = kd
    · subst h
      have : k' = k := by rw [e] at ek; exact Option.some.inj ek
      subst this
      simp only [if_true]
      exact .cons e r0 (RKs.repl ek r0 rs)
    · have h2 : ¬ k' = k := fun q => h (keyOf_inj e (q ▸ ek))
      simp only [h, h2, if_false]
      exact .cons e r (RKs.repl ek r0 rs)
theorem RKs.put {kd : D} {k : Key} (ek : keyOf kd = some k) {v : V} {d : D} (r0 : RV G H pi rho v d) {ks : List (Key × V)} {kvs : List (D × D)} (q : RKs G H pi rho ks kvs) : RKs G H pi rho (putK ks k v) (dput kvs kd d) := by
  unfold putK dput
  rw [q.any ek]
  split
  · exact q.repl ek r0
  · exact q.append (.cons ek r0 .nil)
theorem RTs.any {kd : D} {k : List Key} (ek : tkeyOf kd = some k) : ∀ {ks : List (List Key × V)} {kvs : List (D × D)}, RTs G H pi rho ks kvs → (ks.any fun p => decide (p.1 = k)) = (kvs.any fun p => decide (p.1 = kd))
  | _, _, .nil => rfl
  | _, _, .cons (k := k') (kd := kd') e r rs => by
    rw [List.any_cons, List.any_cons, RTs.any ek rs]
    congr 1
    by_cases h : kd' = kd
    · subst h
      rw [e] at ek
      simp [Option.some.inj ek]
    · have h2 : ¬ k' = k := fun q => h (tkeyOf_inj e (q ▸ ek))
      simp [h, h2]
theorem RTs.append : ∀ {ks ks' : List (List Key × V)} {kvs kvs' : List (D × D)}, RTs G H pi rho ks kvs → RTs G H pi rho ks' kvs' → RTs G H pi rho (ks ++ ks') (kvs ++ kvs')
  | _, _, _, _, .nil, q => q
  | _, _, _, _, .cons e r rs, q => .cons e r (RTs.append rs q)
theorem RTs.repl {kd : D} {k : List Key} (ek : tkeyOf kd = some k) {v : V} {d : D} (r0 : RV G H pi rho v d) : ∀ {ks : List (List Key × V)} {kvs : List (D × D)}, RTs G H pi rho ks kvs → RTs G H pi rho (ks.map fun p => if p.1 = k then (p.1, v) else p) (kvs.map fun p => if p.1 = kd then (p.1, d) else p)
  | _, _, .nil => .nil
  | _, _, .cons (k := k') (kd := kd') e r rs => by
    rw [List.map_cons, List.map_cons]
    by_cases h : kd' = kd
    · subst h
      have : k' = k := by rw [e] at ek; exact Option.some.inj ek
      subst this
      simp only [if_true]
      exact .cons e r0 (RTs.repl ek r0 rs)
    · have h2 : ¬ k' = k := fun q => h (tkeyOf_inj e (q ▸ ek))
      simp only [h, h2, if_false]
      exact .cons e r (RTs.repl ek r0 rs)
theorem RTs.put {kd : D} {k : List Key} (ek : tkeyOf kd = some k) {v : V} {d : D} (r0 : RV G H pi rho v d) {ks : List (List Key × V)} {kvs : List (D × D)} (q : RTs G H pi rho ks kvs) : RTs G H pi rho (putK ks k v) (dput kvs kd d) := by
  unfold putK dput
  rw [q.any ek]
  split
  · exact q.repl ek r0
  · exact q.append (.cons ek r0 .nil)
theorem RTs.length : ∀ {ks : List (List Key × V)} {kvs : List (D × D)}, RTs G H pi rho ks kvs → ks.length = kvs.length
  | _, _, .nil => rfl
  | _, _, .cons _ _ r => by simp [RTs.length r]
/-- a thing of the store changes: Rel and Go behind it -/
theorem Rel.upd (R : Rel G H pi rho S) {n : Nat} {a : Addr} {ho : HO} {u : O} (h : pi[n]? = some a) (mu : ∃ ho, H a = some ho ∧ Muta ho) (r : RO G (L2.upd H a ho) pi rho a u) : Rel G (L2.upd H a ho) pi rho (S.set n u) ∧ Go H pi rho (L2.upd H a ho) pi := ⟨R.set h mu r, Go.set R h mu⟩
theorem vSetItem_ok {x y v : V} {dx dy d : D} {S' : Store} {Q : Hp → Prop} (R : Rel G H pi rho S) (rx : RV G H pi rho x dx) (ry : RV G H pi rho y dy) (rv : RV G H pi rho v d) (e : vSetItem dx dy d S = some S') (k : ∀ H', Rel G H' pi rho S' → Go H pi rho H' pi → Q H') :
    rSetL x y v H Q ∨ rSetDct x y v H Q := by
  unfold vSetItem at e
  split at e
  · rename_i n
    cases rx with | ref hn =>
    rename_i a
    obtain ⟨o, eo, ro⟩ := R.addr hn
    rw [eo] at e
    cases o with
    | lst xs =>
      dsimp only at e
      split at e
      · rename_i kk
        split at e
        · rename_i j ej
          cases e
          cases ry
          obtain ⟨ws, h1, z, q⟩ := ro
          have x := Ext.set (o := .lst (ws.set j v)) R hn ⟨_, h1, trivial⟩
          obtain ⟨R2, g2⟩ := R.upd (ho := .lst (ws.set j v)) (u := .lst (xs.set j d)) hn ⟨_, h1, trivial⟩ ⟨_, upd_same, by simpa using z, (q.set j rv).mono x⟩
          exact .inl ⟨a, ws, kk, j, rfl, rfl, h1, by rw [q.length]; exact ej, k _ R2 g2⟩
        · cases e
      · cases e
    | dct tk kvs =>
      dsimp only at e
      split at e
      · rename_i hk
        cases e
        cases tk with
        | false =>
          obtain ⟨ks, h1, z, q⟩ := ro
          obtain ⟨key, ek⟩ : ∃ key, keyOf dy = some key := Option.isSome_iff_exists.mp hk.1
          have := key_rv ry ek
          subst this
          have hz : ks.length < sizeLine := by rw [q.length, sizeLine_eq]; exact hk.2
          have x := Ext.set (o := .dK (putK ks key v)) R hn ⟨_, h1, trivial⟩
          obtain ⟨R2, g2⟩ := R.upd (ho := .dK (putK ks key v)) (u := .dct false (dput kvs dy d)) hn ⟨_, h1, trivial⟩ ⟨_, upd_same, Nat.le_trans (length_putK _ _ _) hz, (q.put ek rv).mono x⟩
          exact .inr ⟨a, _, rfl, DPut.k h1 hz, k _ R2 g2⟩
        | true =>
          obtain ⟨ks, h1, z, q⟩ := ro
          obtain ⟨key, ek⟩ : ∃ key, tkeyOf dy = some key := Option.isSome_iff_exists.mp hk.1
          obtain ⟨b, rfl, hb⟩ := tkey_rv ry ek
          have hz : ks.length < sizeLine := by rw [q.length, sizeLine_eq]; exact hk.2
          have x := Ext.set (o := .dT (putK ks key v)) R hn ⟨_, h1, trivial⟩
          obtain ⟨R2, g2⟩ := R.upd (ho := .dT (putK ks key v)) (u := .dct true (dput kvs dy d)) hn ⟨_, h1, trivial⟩ ⟨_, upd_same, Nat.le_trans (length_putK _ _ _) hz, (q.put ek rv).mono x⟩
          exact .inr ⟨a, _, rfl, DPut.t h1 hb hz, k _ R2 g2⟩
      · cases e
    | ins cc fs => cases e
    | fz kvs => cases e
  · cases e
end
def sItem (o i m : ME) : MS := fun env S => (m env S).bindS env fun d S1 _ => (o env S1).bindS env fun x S2 _ => (i env S2).bindS env fun y S3 _ => match vSetItem x y d S3 with
  | some S4 => .nx env S4
  | none => .stuck
section
variable {X : Cx} {c : Ctx} {W : WX} {e o i : Expr} {m mo mi : ME} {pos pos' : Pos}
theorem ds_item (hu : X.A.units + 1 < cLine) (ho : DE X c W o mo) (hi : DE X c W i mi) (he : DE X c W e m)
    (ha : ∀ v, assign (.Subscript o i pos') X.env v = (do
      let ov ← holding [v] (eval o X.env)
      let iv ← holding [v, ov] (eval i X.env)
      standAt pos'
      holding [v, ov, iv] (setItem ov iv v)
      release [v, ov, iv] []) := by intro _; rfl)
    (hs : swapsWithSole [.Subscript o i pos'] e pos.line X.env = pure false := by rfl) (hw : swappedStores [.Subscript o i pos'] e X.env = pure none := by rfl)
    (h1 : (assignEach [.Subscript o i pos'] X.env).map (·.2) = [assign (.Subscript o i pos') X.env] := by rfl) : DS X c W (.Assign [.Subscript o i pos'] e pos) (sItem mo mi m) :=
  PS_weak (ps_asg he (pg_sub ho hi (PSet_or set_list (set_dct hu)) ha) hs hw h1) fun D σ H ⟨pi, rho, S, env, R, N, h⟩ => tD.bindS R N h fun v H1 d pi1 S1 fr R1 r1 g1 _ h1 =>
    tD.bindS R1 (N.mono g1.x) (PostS.base g1 h1) fun x H2 dx pi2 S2 _ R2 r2 g2 _ h2 => tD.bindS R2 (N.mono (g1.trans g2).x) (PostS.base g2 h2) fun y H3 dy pi3 S3 _ R3 r3 g3 _ h3 => by
      have h3 := PostS.base g3 h3
      split at h3
      · rename_i S4 e4
        exact vSetItem_ok R3 (r2.mono g3.x) r3 (r1.mono (g2.trans g3).x) e4 fun H4 R4 g4 => h3 σ H4 pi3 R4 (N.mono (((g1.trans g2).trans g3).trans g4).x) g4
      · exact h3.elim
end
/-! ### fields -/
/-- what is asked of a class for its field f -/
structure ClF (K : PySem.W.Frag) (C : Addr) (f : Str) : Prop where
  cl : Cls K C
  no : NoAttr K C f
/-- an instance's fields -/
def insOf (S : Store) (cn : Nat) : D → Option (List (Str × D))
  | .obj c fs => if c = cn then some fs else none
  | .ref n => match S[n]? with
    | some (.ins c fs) => if c = cn then some fs else none
    | _ => none
  | _ => none
def vFld (cn : Nat) (f : Str) (x : D) (S : Store) : Res := match insOf S cn x with
  | some fs => (match fs.lookup f with
    | some d => .ok d S false
    | none => .stuck)
  | none => .stuck
section
variable {G : Gam} {H : Hp} {pi rho : List Addr} {S : Store}
theorem insRef {n cn : Nat} {fs : List (Str × D)} (e : insOf S cn (.ref n) = some fs) : S[n]? = some (.ins cn fs) := by
  have e' : (match S[n]? with
    | some (.ins c fs) => if c = cn then some fs else none
    | _ => none) = some fs := e
  cases q : S[n]? with
  | none => rw [q] at e'; cases e'
  | some o =>
    rw [q] at e'
    cases o with
    | fz kvs => cases e'
    | ins c fs =>
      dsimp only at e'
      split at e'
      · rename_i h; subst h; cases e'; rfl
      · cases e'
    | lst xs => cases e'
    | dct tk kvs => cases e'
theorem insOf_ok {cn : Nat} {fs : List (Str × D)} {v : V} {d : D} (R : Rel G H pi rho S) (r : RV G H pi rho v d) (e : insOf S cn d = some fs) : ∃ a dx fs', v = .ref a ∧ H a = some (.ins (G.cl cn) dx fs') ∧ RFs G H pi rho fs' fs := by
  cases r with
  | obj h n m q =>
    rename_i cc fs' ds
    have e : (if cc = cn then some ds else none) = some fs := e
    by_cases hc : cc = cn
    · rw [if_pos hc] at e
      cases e; subst hc; exact ⟨_, _, _, rfl, h, q⟩
    · rw [if_neg hc] at e; cases e
  | ref h =>
    obtain ⟨o, eo, ro⟩ := R.addr h
    rw [insRef e] at eo
    cases eo
    obtain ⟨dx, fs', h1, q⟩ := ro
    exact ⟨_, dx, fs', rfl, h1, q⟩
  | _ => cases e
theorem RFs.look {f : Str} : ∀ {fs : List (Str × V)} {ds : List (Str × D)}, RFs G H pi rho fs ds → (∃ v d, fs.lookup f = some v ∧ ds.lookup f = some d ∧ RV G H pi rho v d) ∨ (fs.lookup f = none ∧ ds.lookup f = none)
  | _, _, .nil => .inr ⟨rfl, rfl⟩
  | _, _, .cons (f := g) r rs => by
    cases e : (f == g) with
    | true => exact .inl ⟨_, _, by rw [List.lookup_cons, e], by rw [List.lookup_cons, e], r⟩
    | false => rw [List.lookup_cons, List.lookup_cons, e]; exact RFs.look rs
end
def putD (f : Str) (v : D) : List (Str × D) → List (Str × D)
  | [] => [(f, v)]
  | (g, x) :: r => if g = f then (g, v) :: r else (g, x) :: putD f v r
theorem RFs.put {G : Gam} {H : Hp} {pi rho : List Addr} {f : Str} {v : V} {d : D} (r0 : RV G H pi rho v d) : ∀ {fs : List (Str × V)} {ds : List (Str × D)}, RFs G H pi rho fs ds → RFs G H pi rho (putF f v fs) (putD f d ds)
  | _, _, .nil => .cons r0 .nil
  | _, _, .cons (f := g) r rs => by
    unfold putF putD
    by_cases h : g = f
    · rw [if_pos h, if_pos h]; exact .cons r0 rs
    · rw [if_neg h, if_neg h]; exact .cons r (RFs.put r0 rs)
theorem RFs.length {G : Gam} {H : Hp} {pi rho : List Addr} : ∀ {fs : List (Str × V)} {ds : List (Str × D)}, RFs G H pi rho fs ds → fs.length = ds.length
  | _, _, .nil => rfl
  | _, _, .cons _ r => by simp [RFs.length r]
def eFld (cn : Nat) (f : Str) (a : ME) : ME := eUn (vFld cn f) a
def sFldM (cn : Nat) (f : Str) (o m : ME) : MS := fun env S => (m env S).bindS env fun d S1 _ => (o env S1).bindS env fun x S2 _ => match x with
  | .ref n => (match S2[n]? with
    | some (.ins k fs) => if k = cn ∧ fs.length < 1000 then .nx env (S2.set n (.ins cn (putD f d fs))) else .stuck
    | _ => .stuck)
  | _ => .stuck
section
variable {X : Cx} {c : Ctx} {W : WX} {e o : Expr} {m mo : ME} {f : Str} {cn : Nat} {pos pos' : Pos}
theorem de_fld (C : ClF X.K (c.1 cn) f) (he : DE X c W e m) (hb : attributeBase e f X.env (eval e X.env) = eval e X.env := by rfl) : DE X c W (.Attribute e f pos) (eFld cn f m) :=
  PE_weak (pe_fld he hb) fun σ H Q ⟨pi, rho, S, env, R, N, h⟩ => tD.bind R N h fun x H1 dx pi1 S1 _ R1 r1 g1 _ h1 => by
    unfold vFld at h1
    split at h1
    · rename_i fs e
      split at h1
      · rename_i d e2
        obtain ⟨a, dx', fs', rfl, h2, q⟩ := insOf_ok R1 r1 e
        rcases q.look (f := f) with ⟨v, d', e3, e4, r⟩ | ⟨_, e4⟩
        · rw [e2] at e4; cases e4
          exact ⟨a, _, dx', fs', v, rfl, h2, C.cl, C.no, e3, h1.fin R1 r⟩
        · rw [e2] at e4; cases e4
      · exact h1.elim
    · exact h1.elim
theorem ds_fld (C : ClF X.K (c.1 cn) f) (ho : DE X c W o mo) (he : DE X c W e m) (hs : swapsWith e (some (.Attribute o f pos')) pos.line X.env = pure false := by rfl) : DS X c W (.Assign [.Attribute o f pos'] e pos) (sFldM cn f mo m) :=
  PS_weak (ps_fld ho he hs) fun D σ H ⟨pi, rho, S, env, R, N, h⟩ => tD.bindS R N h fun v H1 d pi1 S1 fr R1 r1 g1 _ h1 => tD.bindS R1 (N.mono g1.x) (PostS.base g1 h1) fun x H2 dx pi2 S2 _ R2 r2 g2 _ h2 => by
    have h2 := PostS.base g2 h2
    split at h2
    · split at h2
      · rename_i n _ k fs e
        split at h2
        · rename_i hk
          obtain ⟨rfl, hl⟩ := hk
          cases r2 with | ref hn =>
          obtain ⟨o, eo, ro⟩ := R2.addr hn
          rw [e] at eo
          cases eo
          obtain ⟨dx', fs', h3, q⟩ := ro
          have x := Ext.set (o := .ins (c.1 k) dx' (putF f v fs')) R2 hn ⟨_, h3, trivial⟩
          obtain ⟨R3, g3⟩ := R2.upd (ho := .ins (c.1 k) dx' (putF f v fs')) (u := .ins k (putD f d fs)) hn ⟨_, h3, trivial⟩ ⟨dx', _, upd_same, (q.put (r1.mono g2.x)).mono x⟩
          exact ⟨_, _, dx', fs', rfl, h3, C.cl, C.no, by rw [q.length]; exact hl, h2 σ _ pi2 R3 (N.mono ((g1.trans g2).trans g3).x) g3⟩
        · exact h2.elim
      · exact h2.elim
    · exact h2.elim
end
end DL
namespace DL
open PySem PySem.Spec PyProof.Rows L2

/-! ### a def's end: what it made for itself alone is dropped -/
mutual
def D.lo (k : Nat) : D → Bool
  | .tup xs => D.loL k xs
  | .ktup xs => D.loL k xs
  | .fdct kvs => D.loK k kvs
  | .lst xs => D.loL k xs
  | .dct kvs => D.loK k kvs
  | .obj _ fs => D.loF k fs
  | .ref n => decide (n < k)
  | _ => true
def D.loL (k : Nat) : List D → Bool
  | [] => true
  | d :: r => D.lo k d && D.loL k r
def D.loK (k : Nat) : List (D × D) → Bool
  | [] => true
  | (_, d) :: r => D.lo k d && D.loK k r
def D.loF (k : Nat) : List (Str × D) → Bool
  | [] => true
  | (_, d) :: r => D.lo k d && D.loF k r
end
def O.lo (k : Nat) : O → Bool
  | .lst xs => D.loL k xs
  | .dct _ kvs => D.loK k kvs
  | .ins _ fs => D.loF k fs
  | .fz kvs => D.loK k kvs
/-- the first k things lean on no later ones (or are as they were) -/
def okDrop (S S' : Store) : Bool := (List.range S.length).all fun n => decide (S'[n]? = S[n]?) || match S'[n]? with
  | some o => o.lo S.length
  | none => true
def trunc (S S' : Store) : Store := if okDrop S S' = true then S'.take S.length else S'
def frzD (b : Bool) (k : Nat) (S' : Store) (d : D) : D × Bool := match d with
  | .ref n => if n < k then (d, false) else (match S'[n]? with
    | some (.lst ds) => (.lst ds, true)
    | some (.dct false kvs) => (.dct kvs, true)
    | some (.ins c fs) => if b = true then (.obj c fs, true) else (d, false)
    | _ => (d, false))
  | d => (d, false)
def finR (b : Bool) (S : Store) (d : D) (S' : Store) (fr : Bool) : Res :=
  if S'.length = S.length then .ok d S' fr else
    if (frzD b S.length S' d).1.lo S.length = true ∧ okDrop S S' = true then .ok (frzD b S.length S' d).1 (S'.take S.length) ((frzD b S.length S' d).2 || fr) else .ok d S' fr
section
variable {G : Gam} {H H1 H' : Hp} {pi pi1 pi' rho rho' : List Addr} {S S' : Store}
/-- a part of the mutable things alone -/
structure Sub (k : Nat) (pi pi' rho rho' : List Addr) : Prop where
  len : pi.length = k
  pre : ∀ n, n < k → pi[n]? = pi'[n]?
  out : ∀ a, a ∉ pi' → a ∉ rho' → a ∉ pi ∧ a ∉ rho
theorem mem_pre {k : Nat} (hl : pi.length = k) (pre : ∀ n, n < k → pi[n]? = pi'[n]?) {a : Addr} (h : a ∈ pi) : a ∈ pi' := by
  obtain ⟨n, hn⟩ := List.getElem?_of_mem h
  have : n < k := hl ▸ (List.getElem?_eq_some_iff.mp hn).1
  rw [pre n this] at hn
  exact List.mem_of_getElem? hn
mutual
theorem RV.sub {k : Nat} (s : Sub k pi pi' rho rho') : ∀ {v : V} {d : D}, RV G H pi' rho' v d → d.lo k = true → RV G H pi rho v d
  | _, _, .non, _ => .non
  | _, _, .bl b, _ => .bl b
  | _, _, .int i, _ => .int i
  | _, _, .str h, _ => .str h
  | _, _, .scr h z, _ => .scr h z
  | _, _, .err h n m, _ => .err h (s.out _ n m).1 (s.out _ n m).2
  | _, _, .tup h z r, b => .tup h z (RVs.sub s r (by simpa [D.lo] using b))
  | _, _, .ktup h z r, b => .ktup h z (RVs.sub s r (by simpa [D.lo] using b))
  | _, _, .fdct h z r, b => .fdct h z (RKs.sub s r (by simpa [D.lo] using b))
  | _, _, .lst h n m z r, b => .lst h (s.out _ n m).1 (s.out _ n m).2 z (RVs.sub s r (by simpa [D.lo] using b))
  | _, _, .dct h n m z r, b => .dct h (s.out _ n m).1 (s.out _ n m).2 z (RKs.sub s r (by simpa [D.lo] using b))
  | _, _, .obj h n m r, b => .obj h (s.out _ n m).1 (s.out _ n m).2 (RFs.sub s r (by simpa [D.lo] using b))
  | _, _, .ref h, b => .ref ((s.pre _ (by simpa [D.lo] using b)).trans h)
theorem RVs.sub {k : Nat} (s : Sub k pi pi' rho rho') : ∀ {v : List V} {d : List D}, RVs G H pi' rho' v d → D.loL k d = true → RVs G H pi rho v d
  | _, _, .nil, _ => .nil
  | _, _, .cons h r, b => by
    rw [D.loL, Bool.and_eq_true] at b
    exact .cons (RV.sub s h b.1) (RVs.sub s r b.2)
theorem RKs.sub {k : Nat} (s : Sub k pi pi' rho rho') : ∀ {v : List (Key × V)} {d : List (D × D)}, RKs G H pi' rho' v d → D.loK k d = true → RKs G H pi rho v d
  | _, _, .nil, _ => .nil
  | _, _, .cons e h r, b => by
    rw [D.loK, Bool.and_eq_true] at b
    exact .cons e (RV.sub s h b.1) (RKs.sub s r b.2)
theorem RFs.sub {k : Nat} (s : Sub k pi pi' rho rho') : ∀ {v : List (Str × V)} {d : List (Str × D)}, RFs G H pi' rho' v d → D.loF k d = true → RFs G H pi rho v d
  | _, _, .nil, _ => .nil
  | _, _, .cons h r, b => by
    rw [D.loF, Bool.and_eq_true] at b
    exact .cons (RV.sub s h b.1) (RFs.sub s r b.2)
end
theorem RTs.sub {k : Nat} (s : Sub k pi pi' rho rho') : ∀ {v : List (List Key × V)} {d : List (D × D)}, RTs G H pi' rho' v d → D.loK k d = true → RTs G H pi rho v d
  | _, _, .nil, _ => .nil
  | _, _, .cons e h r, b => by
    rw [D.loK, Bool.and_eq_true] at b
    exact .cons e (RV.sub s h b.1) (RTs.sub s r b.2)
theorem RO.sub {k : Nat} {a : Addr} (s : Sub k pi pi' rho rho') : ∀ {o : O}, RO G H pi' rho' a o → o.lo k = true → RO G H pi rho a o
  | .lst _, ⟨vs, h, z, r⟩, b => ⟨vs, h, z, r.sub s b⟩
  | .dct false _, ⟨vs, h, z, r⟩, b => ⟨vs, h, z, r.sub s b⟩
  | .dct true _, ⟨vs, h, z, r⟩, b => ⟨vs, h, z, r.sub s b⟩
  | .ins _ _, ⟨dx, vs, h, r⟩, b => ⟨dx, vs, h, r.sub s b⟩
  | .fz _, ⟨od, vs, h, z, r⟩, b => ⟨od, vs, h, z, r.sub s b⟩
mutual
theorem RV.lo : ∀ {v : V} {d : D}, RV G H pi rho v d → d.lo pi.length = true
  | _, _, .non => by simp [D.lo]
  | _, _, .bl b => by simp [D.lo]
  | _, _, .int i => by simp [D.lo]
  | _, _, .str h => by simp [D.lo]
  | _, _, .scr h z => by simp [D.lo]
  | _, _, .err h n m => by simp [D.lo]
  | _, _, .tup h z r => by simp [D.lo, RVs.lo r]
  | _, _, .ktup h z r => by simp [D.lo, RVs.lo r]
  | _, _, .fdct h z r => by simp [D.lo, RKs.lo r]
  | _, _, .lst h n m z r => by simp [D.lo, RVs.lo r]
  | _, _, .dct h n m z r => by simp [D.lo, RKs.lo r]
  | _, _, .obj h n m r => by simp [D.lo, RFs.lo r]
  | _, _, .ref h => by simp [D.lo, (List.getElem?_eq_some_iff.mp h).1]
theorem RVs.lo : ∀ {v : List V} {d : List D}, RVs G H pi rho v d → D.loL pi.length d = true
  | _, _, .nil => by simp [D.loL]
  | _, _, .cons h r => by simp [D.loL, RV.lo h, RVs.lo r]
theorem RKs.lo : ∀ {v : List (Key × V)} {d : List (D × D)}, RKs G H pi rho v d → D.loK pi.length d = true
  | _, _, .nil => by simp [D.loK]
  | _, _, .cons e h r => by simp [D.loK, RV.lo h, RKs.lo r]
theorem RFs.lo : ∀ {v : List (Str × V)} {d : List (Str × D)}, RFs G H pi rho v d → D.loF pi.length d = true
  | _, _, .nil => by simp [D.loF]
  | _, _, .cons h r => by simp [D.loF, RV.lo h, RFs.lo r]
end
theorem RTs.lo : ∀ {v : List (List Key × V)} {d : List (D × D)}, RTs G H pi rho v d → D.loK pi.length d = true
  | _, _, .nil => by simp [D.loK]
  | _, _, .cons e h r => by simp [D.loK, RV.lo h, RTs.lo r]
theorem RO.lo {a : Addr} : ∀ {o : O}, RO G H pi rho a o → o.lo pi.length = true
  | .lst _, ⟨_, _, _, r⟩ => r.lo
  | .dct false _, ⟨_, _, _, r⟩ => r.lo
  | .dct true _, ⟨_, _, _, r⟩ => r.lo
  | .ins _ _, ⟨_, _, _, r⟩ => r.lo
  | .fz _, ⟨_, _, _, _, r⟩ => r.lo
theorem Go.pre (g : Go H pi rho H' pi') {n : Nat} (h : n < pi.length) : pi[n]? = pi'[n]? := by
  have e : pi[n]? = some pi[n] := List.getElem?_eq_getElem h
  rw [e]; exact (g.x.ref _ _ e).symm
theorem Go.le (R : Rel G H pi rho S) (g : Go H pi rho H' pi') (hl : pi'.length = S'.length) : S.length ≤ S'.length := by
  rw [← R.len, ← hl]
  by_cases h : pi.length = 0
  · omega
  · have e : pi[pi.length - 1]? = some pi[pi.length - 1] := List.getElem?_eq_getElem (by omega)
    have := (List.getElem?_eq_some_iff.mp (g.x.ref _ _ e)).1
    omega
/-- the later things are dropped -/
theorem Rel.cut (R : Rel G H pi rho S) (g : Go H pi rho H' pi') {rho1 rho2 : List Addr} (R' : Rel G H' pi' rho1 S') (s : Sub S.length pi pi' rho2 rho1) (hd : ∀ a ∈ pi, a ∉ rho2) (ht : ∀ a ∈ rho2, H' a ≠ none) (h : okDrop S S' = true) : Rel G H' pi rho2 (S'.take S.length) := by
  have hl : S.length ≤ S'.length := g.le R R'.len
  refine ⟨by rw [R.len, List.length_take]; omega, R.nd, hd, ht, fun n o e => ?_⟩
  have hn : n < S.length := by
    have := (List.getElem?_eq_some_iff.mp e).1
    rw [List.length_take] at this; omega
  rw [List.getElem?_take_of_lt hn] at e
  obtain ⟨a, ha, ro⟩ := R'.at_ n o e
  refine ⟨a, (s.pre n hn).trans ha, ro.sub s ?_⟩
  unfold okDrop at h
  rw [List.all_eq_true] at h
  have hh := h n (List.mem_range.mpr hn)
  rw [Bool.or_eq_true] at hh
  rcases hh with hh | hh
  · have e2 : S[n]? = some o := (of_decide_eq_true hh).symm.trans e
    obtain ⟨b, _, rb⟩ := R.at_ n o e2
    have := rb.lo
    rw [R.len] at this
    exact this
  · rw [e] at hh; exact hh
theorem Go.cut (R : Rel G H pi rho S) (g : Go H pi rho H' pi') : Go H pi rho H' pi :=
  ⟨⟨g.x.tup, g.x.frz, fun a o e n m => ⟨(g.x.keep a o e n m).1, n, (g.x.keep a o e n m).2.2⟩, fun _ _ e => e, g.x.dom⟩, g.res, fun _ h n => (n h).elim⟩
end
section
variable {G : Gam} {W : WX} {σ : L2.St} {H : Hp} {pi rho : List Addr} {S S' : Store} {Q : VK}
theorem RO.toO_below {k : Nat} {d : D} {o : O} (e : toO d = some o) (h : d.lo k = true) : o.lo k = true := by
  cases d <;> simp [toO] at e <;> subst e <;> simpa [D.lo, O.lo] using h
/-- the end of a def: what is handed back -/
theorem finR_ok {b : Bool} (R : Rel G H pi rho S) {d : D} {fr : Bool} (h : PostE G W σ H pi rho Q (finR b S d S' fr)) {v : V} {H' : Hp} {pi' : List Addr} (R' : Rel G H' pi' rho S') (r : RV G H' pi' rho v d) (g : Go H pi rho H' pi') (f : fr = true → Frsh G H H' pi' rho v d S') : Q v H' := by
  unfold finR at h
  split at h
  · exact h v H' pi' R' r g f
  · split at h
    · rename_i hne hb
      obtain ⟨hb, hd⟩ := hb
      have hpre : ∀ n, n < S.length → pi[n]? = pi'[n]? := fun n hn => g.pre (by rw [R.len]; exact hn)
      have hm : ∀ a, a ∈ pi → a ∈ pi' := fun a => mem_pre R.len hpre
      have s : ∀ rho, Sub S.length pi pi' rho rho := fun rho => ⟨R.len, hpre, fun a n m => ⟨fun q => n (hm a q), m⟩⟩
      have R2 := R.cut g R' (s rho) R.dis R'.trk hd
      have keepCase : frzD b S.length S' d = (d, false) → Q v H' := fun e => by
        rw [e] at h hb
        refine h v H' pi R2 (r.sub (s rho) hb) (g.cut R) fun e => ?_
        obtain ⟨p, o, e1, np, nr, eo, ro, Rr⟩ := f (by simpa using e)
        exact ⟨p, o, e1, np, nr, eo, ro.sub (s _) (RO.toO_below eo hb), R.cut g Rr (s _) (fun a h => Rr.dis a (hm a h)) Rr.trk hd⟩
      cases d with
      | ref n =>
        by_cases hn : n < S.length
        · exact keepCase (by simp [frzD, hn])
        · have r0 := r
          cases r with | ref hp =>
          rename_i p
          obtain ⟨o, eo, ro⟩ := R'.addr hp
          have hpi : p ∉ pi := fun q => by
            obtain ⟨m, hm⟩ := List.getElem?_of_mem q
            have hm' : m < S.length := R.len ▸ (List.getElem?_eq_some_iff.mp hm).1
            rw [hpre m hm'] at hm
            have := R'.inj hm hp
            omega
          have hpm : p ∈ pi' := List.mem_of_getElem? hp
          have hrho : p ∉ rho := R'.dis p hpm
          have np : H p = none := g.new' p hpm hpi
          have s2 : Sub S.length pi pi' (p :: rho) rho := ⟨R.len, hpre, fun a n m => ⟨fun q => n (hm a q), fun q => by
            rw [List.mem_cons] at q
            rcases q with q | q
            · exact n (q ▸ hpm)
            · exact m q⟩⟩
          have dis2 : ∀ a ∈ pi, a ∉ p :: rho := fun a h q => by
            rw [List.mem_cons] at q
            rcases q with q | q
            · exact hpi (q ▸ h)
            · exact R.dis a h q
          have trk2 : ∀ a ∈ p :: rho, H' a ≠ none := fun a q => by
            rw [List.mem_cons] at q
            rcases q with q | q
            · obtain ⟨ho, e⟩ := ro.there
              rw [q, e]; exact fun z => by cases z
            · exact R'.trk a q
          have R3 := R.cut g R' s2 dis2 trk2 hd
          cases o with
          | lst ds =>
            have e : frzD b S.length S' (.ref n) = (.lst ds, true) := by simp [frzD, hn, eo]
            rw [e] at h hb
            obtain ⟨vs, h1, z, q⟩ := ro
            have lo : D.loL S.length ds = true := by simpa [D.lo] using hb
            exact h (.ref p) H' pi R2 (.lst h1 hpi hrho z (q.sub (s rho) lo)) (g.cut R) fun _ => ⟨p, _, rfl, np, hrho, rfl, ⟨vs, h1, z, q.sub s2 lo⟩, R3⟩
          | dct tk kvs =>
            cases tk with
            | false =>
              have e : frzD b S.length S' (.ref n) = (.dct kvs, true) := by simp [frzD, hn, eo]
              rw [e] at h hb
              obtain ⟨vs, h1, z, q⟩ := ro
              have lo : D.loK S.length kvs = true := by simpa [D.lo] using hb
              exact h (.ref p) H' pi R2 (.dct h1 hpi hrho z (q.sub (s rho) lo)) (g.cut R) fun _ => ⟨p, _, rfl, np, hrho, rfl, ⟨vs, h1, z, q.sub s2 lo⟩, R3⟩
            | true => exact keepCase (by simp [frzD, hn, eo])
          | fz kvs => exact keepCase (by simp [frzD, hn, eo])
          | ins c fs =>
            cases b with
            | false => exact keepCase (by simp [frzD, hn, eo])
            | true =>
              have e : frzD true S.length S' (.ref n) = (.obj c fs, true) := by simp [frzD, hn, eo]
              rw [e] at h hb
              obtain ⟨dx, vs, h1, q⟩ := ro
              have lo : D.loF S.length fs = true := by simpa [D.lo] using hb
              exact h (.ref p) H' pi R2 (.obj h1 hpi hrho (q.sub (s rho) lo)) (g.cut R) fun _ => ⟨p, _, rfl, np, hrho, rfl, ⟨dx, vs, h1, q.sub s2 lo⟩, R3⟩
      | _ => exact keepCase rfl
    · exact h v H' pi' R' r g f
theorem trunc_ok (R : Rel G H pi rho S) {e : Exc} (h : PostE G W σ H pi rho Q (.exc e (trunc S S'))) {cls : Value} {dx : Option Addr} {H' : Hp} {pi' : List Addr} (R' : Rel G H' pi' rho S') (g : Go H pi rho H' pi') (x : RExc G H' rho e cls dx) : W cls dx σ H' := by
  unfold trunc at h
  split at h
  · rename_i hd
    have hpre : ∀ n, n < S.length → pi[n]? = pi'[n]? := fun n hn => g.pre (by rw [R.len]; exact hn)
    have s : Sub S.length pi pi' rho rho := ⟨R.len, hpre, fun a n m => ⟨fun q => n (mem_pre R.len hpre q), m⟩⟩
    exact h cls dx H' pi (R.cut g R' s R.dis R'.trk hd) (g.cut R) x
  · exact h cls dx H' pi' R' g x
end
/-- a def by its body: nl further names behind the parameters -/
def dDef (nl : Nat) (body : MS) : MF := fun ds S => match body (ds.map .val ++ List.replicate nl .no) S with
  | .rt d S' fr => finR false S d S' fr
  | .nx _ S' => finR false S .non S' false
  | .exc e _ S' => .exc e (trunc S S')
  | _ => .stuck
abbrev PostC (G : Gam) (H : Hp) (pi rho : List Addr) (Q : VK) (E : XK) : Res → Prop := PostE G (fun cls dx _ H' => E cls dx H') [] H pi rho Q
/-- a def's promise: what F reckons -/
def spD (G : Gam) (n : Nat) (F : MF) : Sp := fun vs H Q E => ∃ pi rho S ds, Rel G H pi rho S ∧ RVs G H pi rho vs ds ∧ ds.length = n ∧ PostC G H pi rho Q E (F ds S)
section
variable {P : Program} {w : World} {K : PySem.W.Frag} {mg : Str → Option Value} {base : Heap} {cl : Nat → Addr}
/-- a def over its body, its errors bearing no context -/
theorem fun_n {x qual : Str} {st : Stmt} {f : Addr} {fd : FuncData} {N ps : List Str} {k : Nat} {sp : Sp} (F : Fun K x qual st f fd) (S : FnScope N ps (defScope st)) (len : ∀ vs H Q E, sp vs H Q E → vs.length = ps.length)
    (body : ∀ (cdv : Value) (A : Around) (outer : List Env) (s : Shared) (H : Hp) (vs : List V) (Q : VK) (E : XK), Room k (A.deeper (envOfC qual (defScope st) s.heap.objs.size f cdv)) → sp vs H Q E → ∃ t, PSs (cxOf (L2N.CX P w) P w K mg base N qual (defScope st) f cdv A outer s H E) (defBody st) t ∧ t { nx := fun _ H' => Q .non H', rt := Q } (L2.start N vs) H) :
    FnOk P w K mg base (L2N.CX P w) (k + 1) f fd ps sp := by
  rcases F.ex with ⟨_, _, _, _, _, _, c0, _, _, rfl, h1, h2⟩
  exact fn_of h1 h2 S len fun A o s H vs Q E r q => body c0 A o s H vs Q E r q
theorem def_ok {x qual : Str} {st : Stmt} {f : Addr} {fd : FuncData} {N ps : List Str} {k n nl : Nat} {body : MS} (F : Fun K x qual st f fd) (S : FnScope N ps (defScope st)) (hn : ps.length = n) (hl : N.length = n + nl)
    (hb : ∀ (cdv : Value) (A : Around) (outer : List Env) (s : Shared) (H : Hp) (E : XK), Room k (A.deeper (envOfC qual (defScope st) s.heap.objs.size f cdv)) →
      DSs (cxOf (L2N.CX P w) P w K mg base N qual (defScope st) f cdv A outer s H E) (cl, none) (fun cls dx _ H' => E cls dx H') (defBody st) body) :
    FnOk P w K mg base (L2N.CX P w) (k + 1) f fd ps (spD ⟨K, cl, none⟩ n (dDef nl body)) := by
  refine fun_n F S (fun vs H Q E h => ?_) (fun cdv A outer s H vs Q E hr h => ⟨_, hb cdv A outer s H E hr, ?_⟩)
  · obtain ⟨pi, rho, S, ds, R, r, e, _⟩ := h
    rw [r.length, e, hn]
  · obtain ⟨pi, rho, Sx, ds, R, r, e, h⟩ := h
    refine ⟨pi, rho, Sx, _, R, REnv.start r N, ?_⟩
    have enl : N.length - ds.length = nl := by omega
    rw [enl]
    unfold dDef at h
    cases eb : body (ds.map Sl.val ++ List.replicate nl Sl.no) Sx with
    | nx env' S' =>
      rw [eb] at h
      have h : PostC ⟨K, cl, none⟩ H pi rho Q E (finR false Sx .non S' false) := h
      exact fun σ' H' pi' R' N' g => finR_ok R h R' .non g fun z => by cases z
    | rt d S' fr =>
      rw [eb] at h
      have h : PostC ⟨K, cl, none⟩ H pi rho Q E (finR false Sx d S' fr) := h
      exact fun v H' pi' R' r' g f => finR_ok R h R' r' g f
    | exc x env' S' =>
      rw [eb] at h
      have h : PostC ⟨K, cl, none⟩ H pi rho Q E (.exc x (trunc Sx S')) := h
      exact fun σ' cls dx H' pi' R' N' g q => trunc_ok (σ := []) R h R' g q
    | bk env' S' => rw [eb] at h; exact h.elim
    | ct env' S' => rw [eb] at h; exact h.elim
    | stuck => rw [eb] at h; exact h.elim
end
/-! ### calls -/
/-- the def called x keeps F, by at most level k -/
def DefOk (P : Program) (w : World) (K : PySem.W.Frag) (mg : Str → Option Value) (base : Heap) (cl : Nat → Addr) (k : Nat) (x : Str) (n : Nat) (F : MF) : Prop :=
  ∃ f fd ps, FnOk P w K mg base (L2N.CX P w) k f fd ps (spD ⟨K, cl, none⟩ n F) ∧ mg x = some (.ref f) ∧ PySem.W.keepIn K (.ref f) = true ∧ Binds K fd ps []
def MethOk (P : Program) (w : World) (K : PySem.W.Frag) (mg : Str → Option Value) (base : Heap) (cl : Nat → Addr) (k : Nat) (cn : Nat) (m : Str) (n : Nat) (F : MF) : Prop :=
  ∃ f fd ps, FnOk P w K mg base (L2N.CX P w) k f fd ps (spD ⟨K, cl, none⟩ n F) ∧ Meth K (cl cn) m f ∧ Cls K (cl cn) ∧ Binds K fd ps []
def InitOk (P : Program) (w : World) (K : PySem.W.Frag) (mg : Str → Option Value) (base : Heap) (cl : Nat → Addr) (k : Nat) (x : Str) (cn : Nat) (n : Nat) (F : MF) : Prop :=
  ∃ f fd ps, FnOk P w K mg base (L2N.CX P w) k f fd ps (spD ⟨K, cl, none⟩ n F) ∧ mg x = some (.ref (cl cn)) ∧ Mk K (cl cn) f ∧ Binds K fd ps []
/-- o.m(..) -/
def eMeth (cn : Nat) (m : Str) (F : MF) (o : ME) (ms : List ME) : ME := fun env S => (o env S).bind fun x S1 _ => match insOf S1 cn x with
  | some fs => if (fs.lookup m).isNone = true then (eArgs ms env S1).bind fun ds S2 => F (x :: ds) S2 else .stuck
  | none => .stuck
/-- C(..) -/
def eNew (cn : Nat) (F : MF) (ms : List ME) : ME := fun env S => (eArgs ms env S).bind fun ds S1 => match F (.ref S1.length :: ds) (S1 ++ [.ins cn []]) with
  | .ok .non S2 _ => .ok (.ref S1.length) S2 false
  | .exc e S2 => .exc e (trunc S1 S2)
  | _ => .stuck
section
variable {X : Cx} {cl : Nat → Addr} {W : WX} {k j n cn : Nat} {x m : Str} {F : MF} {o e : Expr} {es : List Expr} {mo : ME} {ms : List ME} {p pos apos : Pos} {ta : TE} {t : TA} {CX : CXT} {f C : Addr} {fd : FuncData} {ps : List Str} {sp : Sp} {E : L2.St → XK}
theorem pe_callS0 (F : FnOk X.prog X.w X.K X.mg X.base CX k f fd ps sp) (hr : Room k X.A) (hg : Gl X x) (hm : X.mg x = some (.ref f)) (hk : PySem.W.keepIn X.K (.ref f) = true) (hb : Binds X.K fd ps []) (hx : ∀ σ, PassesAt CX X σ (E σ))
    (hdb : (x == ("__debug__" : Str)) = false := by decide) : PE X (.Call (.Name x p) [] [] pos) (tCallS sp E tNil) := by
  refine ⟨fun pins s σ H Q I h => ?_⟩
  refine wpAny_Call_Name_kw (ld_glob I hg hm ?_ hdb)
  exact PySem.W.callWith_K0 I.kIn hk (run_fnS (us := []) F hr hb (hx σ) I .nil h)
def tMethS (C : Addr) (m : Str) (sp : Sp) (E : L2.St → XK) (ta : TE) (t : TA) : TE := fun σ H Q => ta σ H fun x H1 => ∃ a dx fs, x = .ref a ∧ H1 a = some (.ins C dx fs) ∧ fs.lookup m = none ∧ t σ H1 fun vs H2 => sp (x :: vs) H2 Q (E σ)
theorem pe_methS {pl : Sem Bool} (he : PE X o ta) (c : Cls X.K C) (hm : Meth X.K C m f) (F : FnOk X.prog X.w X.K X.mg X.base CX k f fd ps sp) (hr : Room k X.A) (hb : Binds X.K fd ps []) (hx : ∀ σ, PassesAt CX X σ (E σ)) (ha : PA X (e :: es) t)
    (hst : starEach (e :: es) X.env = (false, eval e X.env) :: starEach es X.env := by rfl) (hpl : (backTo pos (starEach es X.env)).any (·.1) = false := by rfl)
    (ht : eval (.Call (.Attribute o m apos) (e :: es) [] pos) X.env = (do
      let ov ← eval o X.env
      standAt apos.atName
      let (f, first) ← holding [ov] (getMethod ov m pl)
      callWith pos f first (backTo pos (starEach (e :: es) X.env)) (backToKw pos (keywordEach [] X.env))) := by rfl) :
    PE X (.Call (.Attribute o m apos) (e :: es) [] pos) (tMethS C m sp E ta t) := by
  refine ⟨fun pins s σ H Q I h => ?_⟩
  refine PySem.W.methodCall_KW (pl := pl) (thn (he.run pins s σ H _ I h) fun u s1 ⟨x, H1, I1, rx, a, dx, fs, ex, ea, l, q⟩ => ?_) ht
  subst ex
  obtain rfl : u = Value.ref a := rx
  refine getmeth_ok I1 ea c hm l ?_
  refine PySem.W.callWith_K (first := [.ref a]) (h₀ := X.base) I.ok.mod.kin hm.kp (thn (ha.run pos pins s1 σ H1 _ I1 q) fun us s2 ⟨vs, H2, I2, r, q2⟩ => ⟨I2.kIn, ?_⟩) hst hpl
  exact run_fnS (us := .ref a :: us) (vs := .ref a :: vs) F hr hb (hx σ) I2 (.cons rfl r) q2
theorem pe_methS0 {pl : Sem Bool} (he : PE X o ta) (c : Cls X.K C) (hm : Meth X.K C m f) (F : FnOk X.prog X.w X.K X.mg X.base CX k f fd ps sp) (hr : Room k X.A) (hb : Binds X.K fd ps []) (hx : ∀ σ, PassesAt CX X σ (E σ))
    (ht : eval (.Call (.Attribute o m apos) [] [] pos) X.env = (do
      let ov ← eval o X.env
      standAt apos.atName
      let (f, first) ← holding [ov] (getMethod ov m pl)
      callWith pos f first (backTo pos (starEach [] X.env)) (backToKw pos (keywordEach [] X.env))) := by rfl) :
    PE X (.Call (.Attribute o m apos) [] [] pos) (tMethS C m sp E ta tNil) := by
  refine ⟨fun pins s σ H Q I h => ?_⟩
  refine PySem.W.methodCall_KW (pl := pl) (thn (he.run pins s σ H _ I h) fun u s1 ⟨x, H1, I1, rx, a, dx, fs, ex, ea, l, q⟩ => ?_) ht
  subst ex
  obtain rfl : u = Value.ref a := rx
  refine getmeth_ok I1 ea c hm l ?_
  exact PySem.W.callWith_K0 (first := [.ref a]) I1.kIn hm.kp (run_fnS (us := [.ref a]) (vs := [.ref a]) F hr hb (hx σ) I1 (.cons rfl .nil) q)
def tMakeS (C : Addr) (sp : Sp) (E : L2.St → XK) (t : TA) : TE := fun σ H Q => t σ H fun vs H1 => ∀ x dx, H1 x = none → H1 dx = none → dx ≠ x →
  sp (.ref x :: vs) (upd (upd H1 dx (.own x)) x (.ins C dx [])) (fun v H2 => v = .non ∧ Q (.ref x) H2) (E σ)
theorem run_makeS {pins : List (Addr × Obj)} {σ : L2.St} {H : Hp} {s : Shared} {Q : VK} {us : List Value} {vs : List V} (M : Mk X.K C f) (F : FnOk X.prog X.w X.K X.mg X.base CX k f fd ps sp) (hr : Room (k + 1) X.A) (hb : Binds X.K fd ps [])
    (hx : PassesAt CX X σ (E σ)) (I : Inv X pins σ H s) (r : Vals vs us)
    (h : ∀ x dx, H x = none → H dx = none → dx ≠ x → sp (.ref x :: vs) (upd (upd H dx (.own x)) x (.ins C dx [])) (fun v H2 => v = .non ∧ Q (.ref x) H2) (E σ)) :
    wpAny (model X.prog X.w) X.A (call (.ref C) us) (EP X pins σ Q) X.xe s := by
  have hq := h (s.heap.objs.size + 1) s.heap.objs.size (I.hok.fresh (Nat.le_succ _)) (I.hok.fresh (Nat.le_refl _)) (Nat.ne_of_lt (Nat.lt_succ_self _))
  have I2 := Inv.made (C := C) I
  have r2 : Vals (V.ref (s.heap.objs.size + 1) :: vs) (Value.ref (s.heap.objs.size + 1) :: us) := .cons rfl r
  have hl : (Value.ref (s.heap.objs.size + 1) :: us).length = ps.length := by
    have e := r2.length
    rw [F.len _ _ _ _ hq] at e
    exact e.symm
  have hb2 := hb _ (Value.ref (s.heap.objs.size + 1) :: us) I2.kIn (by rw [List.append_nil]; exact hl)
  rw [List.append_nil] at hb2
  refine wpAny_call (make_map (f := f) I.kIn M.makes M.init (beq_iff_eq.mp M.fn) (codeAny_mono (F.run _ X.stack _ _ ⟨Value.ref (s.heap.objs.size + 1) :: us, []⟩ (Value.ref (s.heap.objs.size + 1) :: us) _ _ (E σ) (hr.make C us [])
    (I2.env0.make C us []) hb2 r2 hq) fun r s' hq' => ?_))
  cases r with
  | error e => exact hx pins _ _ e s' I2 hq'
  | ok fl =>
    cases fl with
    | ret u =>
      obtain ⟨v, H', I3, rv, ev, q3⟩ := I2.after hq'
      subst ev
      exact ⟨rv, ⟨V.ref (s.heap.objs.size + 1), H', I3, rfl, q3⟩⟩
    | next => exact False.elim hq'
    | brk => exact False.elim hq'
    | cont => exact False.elim hq'
theorem pe_makeS (M : Mk X.K C f) (F : FnOk X.prog X.w X.K X.mg X.base CX k f fd ps sp) (hr : Room (k + 1) X.A) (hg : Gl X x) (hm : X.mg x = some (.ref C)) (hb : Binds X.K fd ps []) (hx : ∀ σ, PassesAt CX X σ (E σ))
    (ha : PA X (e :: es) t) (hdb : (x == ("__debug__" : Str)) = false := by decide) (he : starEach (e :: es) X.env = (false, eval e X.env) :: starEach es X.env := by rfl) (hpl : (backTo pos (starEach es X.env)).any (·.1) = false := by rfl) :
    PE X (.Call (.Name x p) (e :: es) [] pos) (tMakeS C sp E t) := by
  refine ⟨fun pins s σ H Q I h => ?_⟩
  refine wpAny_Call_Name_kw (ld_glob I hg hm ?_ hdb)
  refine PySem.W.callWith_K (h₀ := X.base) I.ok.mod.kin M.kp (thn (ha.run pos pins s σ H _ I h) fun us s1 ⟨vs, H1, I1, r, q⟩ => ⟨I1.kIn, ?_⟩) he hpl
  exact run_makeS M F hr hb (hx σ) I1 r q

/-- a callee's wish out of the caller's -/
theorem PostE.toC {G : Gam} {σ : L2.St} {H : Hp} {pi rho : List Addr} {Q : VK} : ∀ {r : Res}, PostE G W σ H pi rho Q r → PostC G H pi rho Q (WE W σ) r
  | .ok _ _ _, h => h
  | .exc _ _, h => h
  | .stuck, h => h
theorem de_call (T : DefOk X.prog X.w X.K X.mg X.base cl k x n F) (hr : Room j X.A) (hk : k ≤ j) (tk : L2N.Takes X W) (ha : DA X (cl, none) W (e :: es) ms) (hn : ms.length = n := by rfl) (hg : Gl X x := by rfl) (hdb : (x == ("__debug__" : Str)) = false := by decide)
    (he : starEach (e :: es) X.env = (false, eval e X.env) :: starEach es X.env := by rfl) (hpl : (backTo pos (starEach es X.env)).any (·.1) = false := by rfl) : DE X (cl, none) W (.Call (.Name x p) (e :: es) [] pos) (eCallF F ms) := by
  obtain ⟨f, fd, ps, T, hm, hkp, hb⟩ := T
  exact PE_weak (pe_callS T (hr.mono hk) hg hm hkp hb (fun σ => L2N.passAt tk σ) ha hdb he hpl) fun σ H Q ⟨pi, rho, S, env, R, N, h⟩ => tDA.bind R N h fun vs H1 ds pi1 S1 e R1 r1 g1 h1 =>
    ⟨pi1, rho, S1, ds, R1, r1, by rw [eArgs_length e]; exact hn, h1.toC⟩
theorem de_call0 (T : DefOk X.prog X.w X.K X.mg X.base cl k x 0 F) (hr : Room j X.A) (hk : k ≤ j) (tk : L2N.Takes X W) (hg : Gl X x := by rfl) (hdb : (x == ("__debug__" : Str)) = false := by decide) : DE X (cl, none) W (.Call (.Name x p) [] [] pos) (eCallF F []) := by
  obtain ⟨f, fd, ps, T, hm, hkp, hb⟩ := T
  exact PE_weak (pe_callS0 T (hr.mono hk) hg hm hkp hb (fun σ => L2N.passAt tk σ) hdb) fun σ H Q ⟨pi, rho, S, env, R, N, h⟩ => ⟨pi, rho, S, [], R, .nil, rfl, PostE.toC h⟩
theorem de_meth0 {pl : Sem Bool} (T : MethOk X.prog X.w X.K X.mg X.base cl k cn m 1 F) (hr : Room j X.A) (hk : k ≤ j) (tk : L2N.Takes X W) (ho : DE X (cl, none) W o mo)
    (ht : eval (.Call (.Attribute o m apos) [] [] pos) X.env = (do
      let ov ← eval o X.env
      standAt apos.atName
      let (f, first) ← holding [ov] (getMethod ov m pl)
      callWith pos f first (backTo pos (starEach [] X.env)) (backToKw pos (keywordEach [] X.env))) := by rfl) : DE X (cl, none) W (.Call (.Attribute o m apos) [] [] pos) (eMeth cn m F mo []) := by
  obtain ⟨f, fd, ps, T, hm, c, hb⟩ := T
  exact PE_weak (pe_methS0 ho c hm T (hr.mono hk) hb (fun σ => L2N.passAt tk σ) ht) fun σ H Q ⟨pi, rho, S, env, R, N, h⟩ => tD.bind R N h fun v H1 d pi1 S1 _ R1 r1 g1 _ h1 => by
    split at h1
    · rename_i fs ei
      split at h1
      · rename_i hl
        obtain ⟨a, dx, fs', rfl, h2, q⟩ := insOf_ok R1 r1 ei
        refine ⟨a, dx, fs', rfl, h2, ?_, ⟨pi1, rho, S1, [d], R1, .cons r1 .nil, rfl, PostE.toC h1⟩⟩
        rcases q.look (f := m) with ⟨v, d', e3, e4, _⟩ | ⟨e3, _⟩
        · rw [e4] at hl; cases hl
        · exact e3
      · exact h1.elim
    · exact h1.elim
theorem new_ok {G : Gam} {σ : L2.St} {H : Hp} {pi rho : List Addr} {S : Store} {Q : VK} {vs : List V} {ds : List D} (R : Rel G H pi rho S) (r : RVs G H pi rho vs ds) (hn : ds.length + 1 = n)
    (h : PostE G W σ H pi rho Q (match F (.ref S.length :: ds) (S ++ [.ins cn []]) with
      | .ok .non S2 _ => .ok (.ref S.length) S2 false
      | .exc e S2 => .exc e (trunc S S2)
      | _ => .stuck)) : ∀ x dx, H x = none → H dx = none → dx ≠ x → spD G n F (.ref x :: vs) (upd (upd H dx (.own x)) x (.ins (G.cl cn) dx [])) (fun v H2 => v = .non ∧ Q (.ref x) H2) (WE W σ) := by
  intro x dx hx hd ne
  have R1 : Rel G (upd H dx (.own x)) pi rho S := R.new hd
  have hx1 : upd H dx (.own x) x = none := by rw [upd_ne ne.symm]; exact hx
  have R2 : Rel G (upd (upd H dx (.own x)) x (.ins (G.cl cn) dx [])) pi (x :: rho) S := R1.newR hx1
  have R3 := R2.push (R.freeR hx) (o := .ins cn []) ⟨dx, [], upd_same, .nil⟩
  have g1 : Go H pi rho (upd (upd H dx (.own x)) x (.ins (G.cl cn) dx [])) pi := (Go.new hd).trans (Go.new hx1)
  have hxp : x ∉ pi := R.free hx
  have g2 : Go H pi rho (upd (upd H dx (.own x)) x (.ins (G.cl cn) dx [])) (pi ++ [x]) := by
    refine ⟨⟨g1.x.tup, g1.x.frz, fun b u e n m => ?_, fun n b e => ?_, g1.x.dom⟩, g1.res, fun b hb nb => ?_⟩
    · obtain ⟨q1, q2, q3⟩ := g1.x.keep b u e n m
      refine ⟨q1, ?_, q3⟩
      rw [List.mem_append]; rintro (q | q)
      · exact q2 q
      · rw [List.mem_singleton] at q; subst q; rw [hx] at e; cases e
    · rw [List.getElem?_append_left (List.getElem?_eq_some_iff.mp e).1]; exact e
    · rw [List.mem_append] at hb
      rcases hb with hb | hb
      · exact (nb hb).elim
      · rw [List.mem_singleton] at hb; subst hb; exact hx
  have hpx : (pi ++ [x])[S.length]? = some x := by rw [List.getElem?_append_right (by rw [R.len]; exact Nat.le_refl _), R.len, Nat.sub_self]; rfl
  refine ⟨pi ++ [x], rho, _, .ref S.length :: ds, R3, .cons (.ref hpx) (r.mono g2.x), by rw [List.length_cons]; exact hn, ?_⟩
  cases e : F (.ref S.length :: ds) (S ++ [.ins cn []]) with
  | ok d S2 fr =>
    rw [e] at h
    intro v H' pi' R' r' g' _
    cases d with
    | non =>
      cases r'
      exact ⟨rfl, h (.ref x) H' pi' R' (.ref (g'.x.ref _ _ hpx)) (g2.trans g') fun z => by cases z⟩
    | _ => exact h.elim
  | exc y S2 =>
    rw [e] at h
    intro cls dy H' pi' R' g' q
    exact trunc_ok R h R' (g2.trans g') q
  | stuck => rw [e] at h; exact h.elim
theorem de_new (T : InitOk X.prog X.w X.K X.mg X.base cl k x cn n F) (hr : Room j X.A) (hk : k + 1 ≤ j) (tk : L2N.Takes X W) (ha : DA X (cl, none) W (e :: es) ms) (hn : ms.length + 1 = n := by rfl) (hg : Gl X x := by rfl) (hdb : (x == ("__debug__" : Str)) = false := by decide)
    (he : starEach (e :: es) X.env = (false, eval e X.env) :: starEach es X.env := by rfl) (hpl : (backTo pos (starEach es X.env)).any (·.1) = false := by rfl) : DE X (cl, none) W (.Call (.Name x p) (e :: es) [] pos) (eNew cn F ms) := by
  obtain ⟨f, fd, ps, T, hm, M, hb⟩ := T
  exact PE_weak (pe_makeS M T (hr.mono hk) hg hm hb (fun σ => L2N.passAt tk σ) ha hdb he hpl) fun σ H Q ⟨pi, rho, S, env, R, N, h⟩ => tDA.bind R N h fun vs H1 ds pi1 S1 e R1 r1 g1 h1 =>
    new_ok R1 r1 (by rw [eArgs_length e]; exact hn) h1
end
end DL
namespace DL
open PySem L2

/-! ### what is walked -/
inductive IRes where
  | ok (items : List D) (g : Option (Nat × List D)) (S : Store)
  | exc (e : Exc) (S : Store)
  | stuck
def gdOk (g : Option (Nat × List D)) (S : Store) : Prop := match g with
  | none => True
  | some (n, xs) => S[n]? = some (.lst xs)
instance (g : Option (Nat × List D)) (S : Store) : Decidable (gdOk g S) := by
  unfold gdOk; cases g <;> infer_instance
/-- the iterator J walks the items -/
structure WalkD (G : Gam) (H1 : Hp) (pi1 rho : List Addr) (items : List D) (gd : Option (Nat × List D)) (J : It) : Prop where
  fit : items.length ≤ sizeLine
  go : ∀ (rho' : List Addr) (i : Nat) (H' : Hp) (pi' : List Addr) (S' : Store) (d : D), Rel G H' pi' rho' S' → Ext H1 pi1 rho H' pi' rho' → gdOk gd S' → items[i]? = some d →
    J.go i H' ∧ ∀ x H'', J.yld i H' x H'' → Rel G H'' pi' rho' S' ∧ Go H' pi' rho' H'' pi' ∧ RV G H'' pi' rho' x d
  stop : ∀ (rho' : List Addr) (i : Nat) (H' : Hp) (pi' : List Addr) (S' : Store), Rel G H' pi' rho' S' → Ext H1 pi1 rho H' pi' rho' → gdOk gd S' → items.length ≤ i → J.stop i H'
abbrev MI := Env' → Store → IRes
def PostI (G : Gam) (W : WX) (σ : St) (H : Hp) (pi rho : List Addr) (R : It → Hp → Prop) : IRes → Prop
  | .ok items g S1 => ∀ H1 pi1 J, Rel G H1 pi1 rho S1 → Go H pi rho H1 pi1 → WalkD G H1 pi1 rho items g J → R J H1
  | .exc e S1 => ∀ cls dx H1 pi1, Rel G H1 pi1 rho S1 → Go H pi rho H1 pi1 → RExc G H1 rho e cls dx → W cls dx σ H1
  | .stuck => False
def DI (X : Cx) (c : Ctx) (W : WX) (tg iter : Expr) (mi : MI) : Prop := ∃ wi, PI X tg iter wi ∧ ∀ {σ : St} {H : Hp} {pi rho : List Addr} {S : Store} {env : Env'} {R : It → Hp → Prop}, Rel (gm X c) H pi rho S → REnv (gm X c) H pi rho σ env →
  PostI (gm X c) W σ H pi rho R (mi env S) → wi σ H R
theorem PI_or {X : Cx} {tg it : Expr} {w w' : TI} (h : PI X tg it w) (h' : PI X tg it w') : PI X tg it (fun σ H R => w σ H R ∨ w' σ H R) := ⟨fun pins s σ H R I q => q.elim (fun q => h.run pins s σ H R I q) fun q => h'.run pins s σ H R I q⟩
/-- the items of a value that is walked -/
def itemsOf (S : Store) : D → Option (List D × Option (Nat × List D))
  | .ref n => match S[n]? with
    | some (.lst xs) => some (xs, some (n, xs))
    | _ => none
  | .str z => if z.length ≤ 16777216 then some (z.cps.toList.map fun c => .str ⟨#[c]⟩, none) else none
  | d => (seqOf S d).map fun xs => (xs, none)
section
variable {G : Gam} {H H1 H' : Hp} {pi pi1 pi' rho rho' : List Addr} {S S' : Store}
theorem walk_l {a : Addr} {gd : Option (Nat × List D)} {ds : List D} (hz : ds.length ≤ sizeLine) (h : ∀ rho' H' pi' S', Rel G H' pi' rho' S' → Ext H1 pi1 rho H' pi' rho' → gdOk gd S' → ∃ ws, SqL G.K H' a ws ∧ RVs G H' pi' rho' ws ds) : WalkD G H1 pi1 rho ds gd (Itl G.K a) := by
  refine ⟨hz, fun rho' i H' pi' S' d R x g e => ?_, fun rho' i H' pi' S' R x g e => ?_⟩
  · obtain ⟨ws, hs, qw⟩ := h rho' H' pi' S' R x g
    obtain ⟨v, ev, r⟩ := qw.get e
    refine ⟨⟨ws, v, hs, ev⟩, fun y H'' hy => ?_⟩
    obtain ⟨rfl, hy⟩ := hy
    have := hy ws hs
    rw [ev] at this
    cases this
    exact ⟨R, .refl, r⟩
  · obtain ⟨ws, hs, qw⟩ := h rho' H' pi' S' R x g
    exact ⟨ws, hs, by rw [qw.length]; exact e⟩
theorem walk_t {a : Addr} {gd : Option (Nat × List D)} {ds : List D} (hz : ds.length ≤ sizeLine) (h : ∀ rho' H' pi' S', Rel G H' pi' rho' S' → Ext H1 pi1 rho H' pi' rho' → gdOk gd S' → ∃ ws, SqT G.K H' a ws ∧ RVs G H' pi' rho' ws ds) : WalkD G H1 pi1 rho ds gd (Itt G.K a) := by
  refine ⟨hz, fun rho' i H' pi' S' d R x g e => ?_, fun rho' i H' pi' S' R x g e => ?_⟩
  · obtain ⟨ws, hs, qw⟩ := h rho' H' pi' S' R x g
    obtain ⟨v, ev, r⟩ := qw.get e
    refine ⟨⟨ws, v, hs, ev⟩, fun y H'' hy => ?_⟩
    obtain ⟨rfl, hy⟩ := hy
    have := hy ws hs
    rw [ev] at this
    cases this
    exact ⟨R, .refl, r⟩
  · obtain ⟨ws, hs, qw⟩ := h rho' H' pi' S' R x g
    exact ⟨ws, hs, by rw [qw.length]; exact e⟩
/-- a text is walked -/
theorem walk_s {z : Str} (ho : PyData.strOk z = true) (hz : z.length ≤ 16777216) : WalkD G H1 pi1 rho (z.cps.toList.map fun c => D.str ⟨#[c]⟩) none (Its z) := by
  refine ⟨by rw [List.length_map, sizeLine_eq]; exact hz, fun rho' i H' pi' S' d R x g e => ?_, fun rho' i H' pi' S' R x g e => ?_⟩
  · rw [List.getElem?_map] at e
    cases ec : z.cps.toList[i]? with
    | none => rw [ec] at e; cases e
    | some c =>
      rw [ec] at e
      cases e
      have hi : i < z.cps.size := by
        have := (List.getElem?_eq_some_iff.mp ec).1
        simpa using this
      refine ⟨hi, fun y H'' hy => ?_⟩
      obtain ⟨rfl, c', ec', rfl⟩ := hy
      have : c' = c := by
        have e1 : z.cps.toList[i]? = some c' := by simpa using ec'
        rw [ec] at e1; exact (Option.some.inj e1).symm
      subst this
      refine ⟨R, .refl, .str (strOk_of fun d hd => ?_)⟩
      have : d = c' := by simpa using hd
      subst this
      exact strOk_mem ho d (List.mem_of_getElem? ec)
  · have : z.cps.toList.length ≤ i := by simpa using e
    show z.cps.size ≤ i
    simpa using this
end
section
variable {X : Cx} {c : Ctx} {W : WX} {tg e : Expr} {m : ME}
def Res.bindI (r : Res) (f : D → Store → IRes) : IRes := match r with
  | .ok d S1 _ => f d S1
  | .exc e S1 => .exc e S1
  | .stuck => .stuck
def ARes.bindI (r : ARes) (f : List D → Store → IRes) : IRes := match r with
  | .ok d S1 => f d S1
  | .exc e S1 => .exc e S1
  | .stuck => .stuck
theorem tDA.bindI {G : Gam} {σ : St} {H : Hp} {pi rho : List Addr} {S : Store} {env : Env'} {ms : List ME} {f : List D → Store → IRes} {Q : It → Hp → Prop} {Q' : List V → Hp → Prop} (R : Rel G H pi rho S) (N : REnv G H pi rho σ env)
    (h : PostI G W σ H pi rho Q ((eArgs ms env S).bindI f)) (k : ∀ v H1 d pi1 S1, Rel G H1 pi1 rho S1 → RVs G H1 pi1 rho v d → Go H pi rho H1 pi1 → PostI G W σ H pi rho Q (f d S1) → Q' v H1) : tDA G W ms σ H Q' := by
  refine ⟨pi, rho, S, env, R, N, ?_⟩
  cases e : eArgs ms env S with
  | ok d S1 =>
    rw [e] at h
    exact fun v H1 pi1 R1 r g => k v H1 d pi1 S1 R1 r g h
  | exc x S1 => rw [e] at h; exact h
  | stuck => rw [e] at h; exact h
def fVal (d : D) (S : Store) : IRes := match itemsOf S d with
  | some (xs, g) => .ok xs g S
  | none => .stuck
def iVal (m : ME) : MI := fun env S => (m env S).bindI fVal
/-- which of the three walks a value wants -/
inductive Wk where
  | l | t | s
  deriving DecidableEq
def wkOf : D → Wk
  | .tup _ => .t
  | .ktup _ => .t
  | .str _ => .s
  | _ => .l
theorem wk_fits {G : Gam} {H : Hp} {pi rho : List Addr} {v : V} {d : D} {items : List D} {gd : Option (Nat × List D)} {S : Store} (R : Rel G H pi rho S) (r : RV G H pi rho v d) (e : itemsOf S d = some (items, gd)) :
    match wkOf d with
    | .l => ∃ a, v = .ref a ∧ (∃ xs, SqL G.K H a xs) ∧ WalkD G H pi rho items gd (Itl G.K a)
    | .t => ∃ a, v = .ref a ∧ (∃ xs, SqT G.K H a xs) ∧ WalkD G H pi rho items gd (Itt G.K a)
    | .s => ∃ z, v = .str z ∧ WalkD G H pi rho items gd (Its z) := by
  cases r with
  | str ho =>
    rename_i z
    have e : (if z.length ≤ 16777216 then some (z.cps.toList.map fun c => D.str ⟨#[c]⟩, (none : Option (Nat × List D))) else none) = some (items, gd) := e
    split at e
    · rename_i hz
      cases e
      exact ⟨z, rfl, walk_s ho hz⟩
    · cases e
  | lst h n m z q =>
    cases e
    exact ⟨_, rfl, ⟨_, .inl (.inl h)⟩, walk_l (by rw [← q.length]; exact z) fun rho' H' pi' S' R' x g => ⟨_, .inl (.inl (x.keep _ _ h n m).1), q.mono x⟩⟩
  | tup h z q =>
    cases e
    exact ⟨_, rfl, ⟨_, SqT.of h⟩, walk_t (by rw [← q.length]; exact z) fun rho' H' pi' S' R' x g => ⟨_, SqT.of (x.tup _ _ h), q.mono x⟩⟩
  | ktup h z q =>
    cases e
    exact ⟨_, rfl, ⟨_, .inr h⟩, walk_t (by rw [← q.length]; exact z) fun rho' H' pi' S' R' x g => ⟨_, .inr h, q.mono x⟩⟩
  | scr h z =>
    cases e
    refine ⟨_, rfl, ⟨_, h.sq⟩, walk_l (by simpa using z) fun rho' H' pi' S' R' x g => ⟨_, ?_, ints_rv _⟩⟩
    exact (h.elim (fun ⟨o, h⟩ => .inl ⟨o, x.frz _ _ _ h⟩) .inr : SqF G.K H' _ _).sq
  | ref h =>
    rename_i a n
    have e' : (match S[n]? with
      | some (.lst xs) => some (xs, some (n, xs))
      | _ => none) = some (items, gd) := e
    obtain ⟨o, eo, ro⟩ := R.addr h
    rw [eo] at e'
    cases o with
    | lst xs =>
      cases e'
      obtain ⟨ws, h1, z, q⟩ := ro
      refine ⟨a, rfl, ⟨_, .inl (.inl h1)⟩, walk_l (by rw [← q.length]; exact z) fun rho' H' pi' S' R' x g => ?_⟩
      obtain ⟨o, eo, ro⟩ := R'.addr (x.ref _ _ h)
      have g : S'[n]? = some (.lst items) := g
      rw [g] at eo
      cases eo
      obtain ⟨ws', h2, _, q2⟩ := ro
      exact ⟨ws', .inl (.inl h2), q2⟩
    | dct tk kvs => cases e'
    | ins c fs => cases e'
    | fz kvs => cases e'
  | _ => cases e
theorem di_val (he : DE X c W e m) : DI X c W tg e (iVal m) := by
  refine ⟨_, PI_or (pi_list he) (PI_or (pi_tup he) (pi_str he)), fun {σ H pi rho S env RR} R N h => ?_⟩
  have via : ∀ {Q' : VK}, (∀ v H1 d pi1 S1, m env S = .ok d S1 (match m env S with | .ok _ _ f => f | _ => false) → Rel (gm X c) H1 pi1 rho S1 → RV (gm X c) H1 pi1 rho v d → Go H pi rho H1 pi1 → PostI (gm X c) W σ H pi rho RR (fVal d S1) → Q' v H1) → tD (gm X c) W m σ H Q' := fun kk => by
    refine ⟨pi, rho, S, env, R, N, ?_⟩
    unfold iVal at h
    cases em : m env S with
    | ok d S1 fr =>
      rw [em] at h kk
      exact fun v H1 pi1 R1 r g _ => kk v H1 d pi1 S1 rfl R1 r g h
    | exc x S1 => rw [em] at h; exact h
    | stuck => rw [em] at h; exact h
  have use : ∀ {d : D} {S1 : Store} {v : V} {H1 : Hp} {pi1 : List Addr} {w : Wk}, wkOf d = w → Rel (gm X c) H1 pi1 rho S1 → RV (gm X c) H1 pi1 rho v d → Go H pi rho H1 pi1 → PostI (gm X c) W σ H pi rho RR (fVal d S1) →
      match w with
      | .l => ∃ a, v = .ref a ∧ (∃ xs, SqL X.K H1 a xs) ∧ RR (Itl X.K a) H1
      | .t => ∃ a, v = .ref a ∧ (∃ xs, SqT X.K H1 a xs) ∧ RR (Itt X.K a) H1
      | .s => ∃ z, v = .str z ∧ RR (Its z) H1 := by
    intro d S1 v H1 pi1 w ew R1 r g hp
    unfold fVal at hp
    cases e2 : itemsOf S1 d with
    | none => rw [e2] at hp; exact hp.elim
    | some p =>
      obtain ⟨items, gd⟩ := p
      rw [e2] at hp
      have f := wk_fits R1 r e2
      rw [ew] at f
      cases w with
      | l => obtain ⟨a, e, s, w⟩ := f; exact ⟨a, e, s, hp H1 pi1 _ R1 g w⟩
      | t => obtain ⟨a, e, s, w⟩ := f; exact ⟨a, e, s, hp H1 pi1 _ R1 g w⟩
      | s => obtain ⟨z, e, w⟩ := f; exact ⟨z, e, hp H1 pi1 _ R1 g w⟩
  have pick : ∀ w : Wk, (∀ d S1 fr, m env S = .ok d S1 fr → wkOf d = w) → (iList X.K (tD (gm X c) W m) σ H RR ∨ iTup X.K (tD (gm X c) W m) σ H RR ∨ iStr (tD (gm X c) W m) σ H RR) := fun w hw => by
    cases w with
    | l => exact .inl (via fun v H1 d pi1 S1 e R1 r g hp => use (hw _ _ _ e) R1 r g hp)
    | t => exact .inr (.inl (via fun v H1 d pi1 S1 e R1 r g hp => use (hw _ _ _ e) R1 r g hp))
    | s => exact .inr (.inr (via fun v H1 d pi1 S1 e R1 r g hp => use (hw _ _ _ e) R1 r g hp))
  cases em : m env S with
  | ok d S1 fr => exact pick (wkOf d) fun d' S1' fr' e => by rw [em] at e; cases e; rfl
  | exc x S1 => exact pick .l fun d' S1' fr' e => by rw [em] at e; cases e
  | stuck => exact pick .l fun d' S1' fr' e => by rw [em] at e; cases e
/-- the ints of a range -/
def rngL (lo : Int) (n : Nat) : List D := (List.range n).map fun i => .int (lo + (i : Nat))
theorem walk_rng {G : Gam} {H1 : Hp} {pi1 rho : List Addr} {lo : Int} {n : Nat} (hz : n ≤ 16777216) : WalkD G H1 pi1 rho (rngL lo n) none (Itr lo n) := by
  refine ⟨by simp [rngL, sizeLine_eq, hz], fun rho' i H' pi' S' d R x g e => ?_, fun rho' i H' pi' S' R x g e => ?_⟩
  · unfold rngL at e
    rw [List.getElem?_map] at e
    by_cases hi : i < n
    · rw [List.getElem?_range hi] at e
      cases e
      refine ⟨hi, fun y H'' hy => ?_⟩
      obtain ⟨rfl, rfl⟩ := hy
      exact ⟨R, .refl, .int _⟩
    · rw [List.getElem?_eq_none (by simpa using hi)] at e; cases e
  · have : n ≤ i := by simpa [rngL] using e
    exact this
def fRng1 : List D → Store → IRes
  | [.int j], S1 => if -(2 ^ 62) ≤ j ∧ j ≤ 16777216 then .ok (rngL 0 j.toNat) none S1 else .stuck
  | _, _ => .stuck
def fRng2 : List D → Store → IRes
  | [.int i, .int j], S1 => if -(2 ^ 62) ≤ i ∧ i < 2 ^ 62 ∧ -(2 ^ 62) ≤ j ∧ j < 2 ^ 62 ∧ j - i ≤ 16777216 then .ok (rngL i (j - i).toNat) none S1 else .stuck
  | _, _ => .stuck
def iArg (f : List D → Store → IRes) (ms : List ME) : MI := fun env S => (eArgs ms env S).bindI f
theorem rng1_w {G : Gam} {σ : St} {H : Hp} {pi rho : List Addr} {S : Store} {env : Env'} {ma : ME} {RR : It → Hp → Prop} (R : Rel G H pi rho S) (N : REnv G H pi rho σ env) (h : PostI G W σ H pi rho RR (iArg fRng1 [ma] env S)) : iRng1 (tDA G W [ma]) σ H RR :=
  tDA.bindI R N h fun vs H1 ds pi1 S1 R1 r g h => by
    match ds, r, h with
    | [.int j], r, h =>
      have h : PostI G W σ H pi rho RR (if -(2 ^ 62) ≤ j ∧ j ≤ 16777216 then .ok (rngL 0 j.toNat) none S1 else .stuck) := h
      split at h
      · rename_i hj
        obtain ⟨x, rfl, rx⟩ := r.one
        cases rx
        exact ⟨_, rfl, hj.1, by omega, h H1 pi1 _ R1 g (walk_rng (by omega))⟩
      · exact h.elim
theorem di_range1 {a : Expr} {ma : ME} {p pos : Pos} (hg : Gl X "range") (hm : X.mg "range" = none) (ha : DA X c W [a] [ma]) (hs : starEach [a] X.env = [(false, eval a X.env)] := by rfl) : DI X c W tg (.Call (.Name "range" p) [a] [] pos) (iArg fRng1 [ma]) :=
  ⟨_, pi_range1 hg hm ha hs, fun {σ H pi rho S env RR} R N h => rng1_w R N h⟩
end

/-! ### for -/
def forL (gd : Option (Nat × List D)) (g : MG) (b : MS) : List D → Env' → Store → FR
  | [], env, S => if gdOk gd S then .nx env S else .stuck
  | x :: r, env, S => if gdOk gd S then (match g x env S with
    | some env1 => (match b env1 S with
      | .nx env' S' => forL gd g b r env' S'
      | .ct env' S' => forL gd g b r env' S'
      | .bk env' S' => .nx env' S'
      | r => r)
    | none => .stuck) else .stuck
def sFor (mi : MI) (g : MG) (b : MS) : MS := fun env S => match mi env S with
  | .ok items gd S1 => forL gd g b items env S1
  | .exc e S1 => .exc e env S1
  | .stuck => .stuck
section
variable {X : Cx} {c : Ctx} {W : WX} {tg iter : Expr} {mi : MI} {g : MG} {b : MS} {body : List Stmt} {pos : Pos}
theorem ds_for (hp : PassesOwn (model X.prog X.w) X.A X.env X.xe) (hc : X.calm = true) (hi : DI X c W tg iter mi) {is : List Nat} (hg : DG X c tg g is) (hb : DSs X c W body b) (hs : ∀ x, foldedSetIterable iter X.env x = pure x := by intro _; rfl) : DS X c W (.For tg iter body [] pos) (sFor mi g b) := by
  obtain ⟨wi, pi_, k⟩ := hi
  refine PS_weak (ps_for hp hc pi_ hg hb hs) fun D σ H ⟨pi, rho, S, env, R, N, h⟩ => ?_
  refine k R N ?_
  unfold sFor at h
  cases em : mi env S with
  | stuck => rw [em] at h; exact h
  | exc e S1 =>
    rw [em] at h
    exact fun cls dx H1 pi1 R1 g1 q => h σ cls dx H1 pi1 R1 (N.mono g1.x) g1 q
  | ok items gd S1 =>
    rw [em] at h
    intro H1 pi1 J R1 g1 w
    have h := PostS.base g1 h
    refine ⟨fun i m σ' H' => m = items.length - i ∧ i ≤ items.length ∧ ∃ pi' S' env', Rel (gm X c) H' pi' rho S' ∧ REnv (gm X c) H' pi' rho σ' env' ∧ Go H1 pi1 rho H' pi' ∧ PostS (gm X c) W D H1 pi1 rho (forL gd g b (items.drop i) env' S'),
      ⟨_, rfl, Nat.zero_le _, pi1, S1, env, R1, N.mono g1.x, .refl, by rw [List.drop_zero]; exact h⟩, ?_⟩
    rintro i m σ' H' ⟨rfl, hi, pi', S', env', R', N', g', h'⟩
    by_cases hlt : i < items.length
    · have ed : items.drop i = items[i] :: items.drop (i + 1) := List.drop_eq_getElem_cons hlt
      have ei : items[i]? = some items[i] := List.getElem?_eq_getElem hlt
      rw [ed] at h'
      unfold forL at h'
      split at h'
      · rename_i gok
        obtain ⟨go, yld⟩ := w.go rho i H' pi' S' _ R' g'.x gok ei
        refine .inr ⟨go, fun σ3 H3 => ∃ pi3 S3 env3, Rel (gm X c) H3 pi3 rho S3 ∧ REnv (gm X c) H3 pi3 rho σ3 env3 ∧ Go H1 pi1 rho H3 pi3 ∧ PostS (gm X c) W D H1 pi1 rho (forL gd g b (items.drop (i + 1)) env3 S3), fun σ3 H3 ⟨pi3, S3, env3, a1, a2, a3, a4⟩ => ⟨_, by omega, rfl, hlt, pi3, S3, env3, a1, a2, a3, a4⟩, fun x H2 hy => ?_⟩
        obtain ⟨R2, g2, rx⟩ := yld x H2 hy
        split at h'
        · rename_i env1 eg
          refine ⟨pi', rho, S', env', _, env1, R2, N'.mono g2.x, rx, eg, fun σ2 N2 _ => ⟨pi', rho, S', env1, R2, N2, ?_⟩⟩
          have gg := g'.trans g2
          cases eb : b env1 S' with
          | nx env3 S3 => rw [eb] at h'; exact fun σ3 H3 pi3 R3 N3 g3 => ⟨pi3, S3, env3, R3, N3, gg.trans g3, h'⟩
          | ct env3 S3 => rw [eb] at h'; exact fun σ3 H3 pi3 R3 N3 g3 => ⟨pi3, S3, env3, R3, N3, gg.trans g3, h'⟩
          | bk env3 S3 => rw [eb] at h'; exact fun σ3 H3 pi3 R3 N3 g3 => h' σ3 H3 pi3 R3 N3 (gg.trans g3)
          | rt d S3 fr => rw [eb] at h'; exact PostS.base gg h'
          | exc x env3 S3 => rw [eb] at h'; exact PostS.base gg h'
          | stuck => rw [eb] at h'; exact h'
        · exact h'.elim
      · exact h'.elim
    · have ed : items.drop i = [] := List.drop_eq_nil_of_le (by omega)
      rw [ed] at h'
      unfold forL at h'
      split at h'
      · rename_i gok
        exact .inl ⟨w.stop rho i H' pi' S' R' g'.x gok (by omega), h' σ' H' pi' R' N' g'⟩
      · exact h'.elim
end
/-! ### while -/
section
variable {X : Cx} {c : Ctx} {W : WX} {t : Expr} {mt : ME} {b : MS} {body : List Stmt} {pos : Pos}
end
end DL
namespace DL
open PySem L2

/-! ### comprehensions -/
def wipeE (env : Env') : List Nat → Env'
  | [] => env
  | v :: vs => (wipeE env vs).set v .no
def oTest : Option ME → ME
  | none => fun _ S => .ok (.bl true) S false
  | some t => t
def compL (gd : Option (Nat × List D)) (g : MG) (t : Option ME) (m : ME) (env : Env') : List D → List D → Store → Res
  | [], acc, S => if gdOk gd S then .ok (.lst acc) S true else .stuck
  | x :: r, acc, S => if gdOk gd S then (match g x env S with
    | some env1 => (match oTest t env1 S with
      | .ok (.bl true) S1 _ => (match m env1 S1 with
        | .ok d S2 _ => compL gd g t m env r (acc ++ [d]) S2
        | _ => .stuck)
      | .ok (.bl false) S1 _ => compL gd g t m env r acc S1
      | _ => .stuck)
    | none => .stuck) else .stuck
def eComp (own : List Nat) (mi : MI) (g : MG) (t : Option ME) (m : ME) : ME := fun env S => match mi env S with
  | .ok items gd S1 => compL gd g t m (wipeE env own) items [] S1
  | .exc e S1 => .exc e S1
  | .stuck => .stuck
section
variable {G : Gam} {H H1 H' : Hp} {pi pi1 pi' rho rho1 : List Addr} {S S' : Store} {σ : St} {env : Env'}
theorem REnv.wipe (N : REnv G H pi rho σ env) : ∀ vs : List Nat, REnv G H pi rho (L2.wipe σ vs) (wipeE env vs)
  | [] => N
  | v :: vs => (REnv.wipe N vs).setNo v none
theorem wipe_wipe (σ : St) (vs : List Nat) : wipe (wipe σ vs) vs = wipe σ vs := by
  apply List.ext_getElem?
  intro j
  rw [wipe_get, wipe_length, wipe_get]
  by_cases hj : j ∈ vs ∧ j < σ.length
  · rw [if_pos hj, if_pos hj]
  · rw [if_neg hj, if_neg hj]
/-- a reserved thing is set free of the reserve -/
theorem Ext.unres {p : Addr} : Ext H pi (p :: rho) H pi rho := ⟨fun _ _ e => e, fun _ _ _ e => e, fun b u e n m => ⟨e, n, fun q => m (List.mem_cons_of_mem _ q)⟩, fun _ _ e => e, fun _ e => e⟩
theorem Rel.unres {p : Addr} (R : Rel G H pi (p :: rho) S) : Rel G H pi rho S := ⟨R.len, R.nd, fun a h q => R.dis a h (List.mem_cons_of_mem _ q), fun a q => R.trk a (List.mem_cons_of_mem _ q), fun n o e => by
  obtain ⟨a, ha, r⟩ := R.at_ n o e
  exact ⟨a, ha, r.mono .unres rfl⟩⟩
/-- the reserved list at p is written -/
theorem Ext.updR {p : Addr} {vs : List V} {o : HO} (hp : H p = some (.lst vs)) : Ext H pi (p :: rho) (upd H p o) pi (p :: rho) := by
  refine ⟨fun b xs q => ?_, fun b u w q => ?_, fun b u q nb nr => ⟨?_, nb, nr⟩, fun _ _ e => e, fun b q => ?_⟩
  · have : b ≠ p := fun z => by subst z; rw [hp] at q; cases q
    rw [upd_ne this]; exact q
  · have : b ≠ p := fun z => by subst z; rw [hp] at q; cases q
    rw [upd_ne this]; exact q
  · have : b ≠ p := fun z => nr (z ▸ List.mem_cons_self)
    rw [upd_ne this]; exact q
  · by_cases hb : b = p
    · subst hb; rw [upd_same]; exact fun z => by cases z
    · rw [upd_ne hb]; exact q
theorem Rel.updR {p : Addr} {vs : List V} {o : HO} (R : Rel G H pi (p :: rho) S) (hp : H p = some (.lst vs)) : Rel G (L2.upd H p o) pi (p :: rho) S :=
  ⟨R.len, R.nd, R.dis, fun b hb => (Ext.updR (pi := pi) (rho := rho) hp).dom b (R.trk b hb), fun n u e => by
    obtain ⟨a, ha, r⟩ := R.at_ n u e
    have : a ≠ p := fun z => R.dis a (List.mem_of_getElem? ha) (z ▸ List.mem_cons_self)
    exact ⟨a, ha, r.mono (Ext.updR hp) (upd_ne this)⟩⟩
end
abbrev W0 : WX := fun _ _ _ _ => False
/-- the test of a clause, if there is one -/
inductive DIf (X : Cx) (c : Ctx) : List Expr → Option ME → Prop
  | none : DIf X c [] none
  | one {e : Expr} {m : ME} (h : DT X c W0 e m) : DIf X c [e] (some m)
/-- the place of the clause's block -/
abbrev Blk (X : Cx) (scope : Scope) (s : Shared) (H : Hp) (C : Addr) (cl : List (Str × Addr)) (fp : List Addr) : Cx := X.blk s H scope (compEnvC scope cl C X.env) fp
section
variable {X : Cx} {c : Ctx} {W : WX} {elt tg iter : Expr} {ifs : List Expr} {scope : Scope} {own : List (Str × Nat)} {pos : Pos} {mi : MI} {g : MG} {t : Option ME} {m : ME} {is : List Nat}
theorem comp_ok {σ : St} {H H1 : Hp} {pi pi1 rho : List Addr} {S1 : Store} {env : Env'} {Q : VK} {items : List D} {gd : Option (Nat × List D)} {J : It} {vs : List Nat} {tt : TT} {G : Gam} {gT : TG} (N : REnv G H1 pi1 rho σ env) (R1 : Rel G H1 pi1 rho S1) (w : WalkD G H1 pi1 rho items gd J)
    (hg : ∀ v σ H Q, (∃ pi rho S env d env', Rel G H pi rho S ∧ REnv G H pi rho σ env ∧ RV G H pi rho v d ∧ g d env S = some env' ∧ ∀ σ', REnv G H pi rho σ' env' → WipeAs σ' σ is → Q σ' H) → gT v σ H Q) (his : ∀ i ∈ is, i ∈ vs)
    (ht : ∀ {σ : St} {H : Hp} {pi rho : List Addr} {S : Store} {env : Env'} {Q : Bool → Hp → Prop}, Rel G H pi rho S → REnv G H pi rho σ env → PostE G W0 σ H pi rho (fun v H' => ∃ k, v = .bl k ∧ Q k H') (oTest t env S) → tt σ H Q)
    (h : PostE G W σ H1 pi1 rho Q (compL gd g t m (wipeE env vs) items [] S1)) :
    ∀ Dd, H1 Dd = none → ∃ Wv : Nat → Nat → Hp → Prop, (∃ m, Wv 0 m (upd H1 Dd (.lst []))) ∧ ∀ i k H, Wv i k H →
      (J.stop i H ∧ Q (.ref Dd) H) ∨ (J.go i H ∧ ∃ Nx : Hp → Prop, (∀ H', Nx H' → ∃ m', m' < k ∧ Wv (i + 1) m' H') ∧ ∀ x H', J.yld i H x H' → gT x (wipe σ vs) H' fun σ2 H2 => wipe σ2 vs = wipe σ vs ∧ tt σ2 H2 fun b H3 =>
        if b = true then tD G W0 m σ2 H3 fun y H4 => ∃ acc, H4 Dd = some (.lst acc) ∧ acc.length < sizeLine ∧ Nx (upd H4 Dd (.lst (acc ++ [y]))) else Nx H3) := by
  intro Dd hD
  have hDr : Dd ∉ rho := R1.freeR hD
  have x0 : Ext H1 pi1 rho (upd H1 Dd (.lst [])) pi1 (Dd :: rho) := Ext.newR hD
  -- what holds between the turns
  refine ⟨fun i k H' => k = items.length - i ∧ i ≤ items.length ∧ ∃ pi' S' acc vs', Rel G H' pi' (Dd :: rho) S' ∧ Ext (upd H1 Dd (.lst [])) pi1 (Dd :: rho) H' pi' (Dd :: rho) ∧ (∀ a o, a ∈ rho → H1 a = some o → H' a = some o) ∧ (∀ a, a ∈ pi' → a ∉ pi1 → H1 a = none) ∧
      H' Dd = some (.lst vs') ∧ RVs G H' pi' (Dd :: rho) vs' acc ∧ acc.length ≤ i ∧ PostE G W σ H1 pi1 rho Q (compL gd g t m (wipeE env vs) (items.drop i) acc S'), ⟨_, rfl, Nat.zero_le _, pi1, S1, [], [], R1.newR hD, .refl, fun a o m e => ?_, fun a h n => (n h).elim, upd_same, .nil, Nat.zero_le _, by rw [List.drop_zero]; exact h⟩, ?_⟩
  · rw [upd_ne (ne_of_none e hD)]; exact e
  rintro i k H' ⟨rfl, hi, pi', S', acc, vs', R', x', res', new', hDl, qacc, hacc, h'⟩
  have xx := x0.trans x'
  by_cases hlt : i < items.length
  · have ed : items.drop i = items[i] :: items.drop (i + 1) := List.drop_eq_getElem_cons hlt
    have ei : items[i]? = some items[i] := List.getElem?_eq_getElem hlt
    rw [ed] at h'
    unfold compL at h'
    split at h'
    · rename_i gok
      obtain ⟨go, yld⟩ := w.go (Dd :: rho) i H' pi' S' _ R' xx gok ei
      refine .inr ⟨go, fun H3 => ∃ pi3 S3 acc3 vs3, Rel G H3 pi3 (Dd :: rho) S3 ∧ Ext (upd H1 Dd (.lst [])) pi1 (Dd :: rho) H3 pi3 (Dd :: rho) ∧ (∀ a o, a ∈ rho → H1 a = some o → H3 a = some o) ∧ (∀ a, a ∈ pi3 → a ∉ pi1 → H1 a = none) ∧
        H3 Dd = some (.lst vs3) ∧ RVs G H3 pi3 (Dd :: rho) vs3 acc3 ∧ acc3.length ≤ i + 1 ∧ PostE G W σ H1 pi1 rho Q (compL gd g t m (wipeE env vs) (items.drop (i + 1)) acc3 S3), fun H3 ⟨pi3, S3, acc3, vs3, a⟩ => ⟨_, by omega, rfl, hlt, pi3, S3, acc3, vs3, a⟩, fun x H2 hy => ?_⟩
      obtain ⟨R2, g2, rx⟩ := yld x H2 hy
      split at h'
      · rename_i env1 eg
        refine hg _ _ _ _ ⟨pi', Dd :: rho, S', _, _, env1, R2, ((N.mono (xx.trans g2.x)).wipe vs), rx, eg, fun σ2 N2 w2 => ⟨(w2 vs his).trans (wipe_wipe σ vs), ?_⟩⟩
        · refine ht R2 N2 ?_
          have stepG : ∀ {H3 pi3}, Go H2 pi' (Dd :: rho) H3 pi3 → (∀ a, a ∈ pi3 → a ∉ pi1 → H1 a = none) := fun {H3 pi3} g3 a h n => by
            by_cases m : a ∈ pi'
            · exact new' a m n
            · have z := (g2.trans g3).new' a h m
              cases e : H1 a with
              | none => rfl
              | some o => exact absurd z (xx.dom a (by rw [e]; exact fun z => by cases z))
          cases et : oTest t env1 S' with
          | exc e S3 => rw [et] at h'; exact h'.elim
          | stuck => rw [et] at h'; exact h'.elim
          | ok b S3 fr =>
            rw [et] at h'
            cases b with
            | bl b =>
              intro v H3 pi3 R3 r3 g3 _
              refine ⟨b, bl_of r3, ?_⟩
              have gg := g2.trans g3
              have hD3 : H3 Dd = some (.lst vs') := gg.res _ _ List.mem_cons_self hDl
              cases b with
              | false =>
                rw [if_neg Bool.false_ne_true]
                exact ⟨pi3, S3, acc, vs', R3, x'.trans gg.x, fun a o m e => gg.res a o (List.mem_cons_of_mem _ m) (res' a o m e), stepG g3, hD3, qacc.mono gg.x, by omega, h'⟩
              | true =>
                rw [if_pos rfl]
                refine ⟨pi3, Dd :: rho, S3, env1, R3, N2.mono g3.x, ?_⟩
                dsimp only at h'
                cases em : m env1 S3 with
                | exc e S4 => rw [em] at h'; exact h'.elim
                | stuck => rw [em] at h'; exact h'.elim
                | ok d S4 fr4 =>
                  rw [em] at h'
                  intro y H4 pi4 R4 r4 g4 _
                  have ga := gg.trans g4
                  have hD4 : H4 Dd = some (.lst vs') := ga.res _ _ List.mem_cons_self hDl
                  have q4 : RVs G H4 pi4 (Dd :: rho) (vs' ++ [y]) (acc ++ [d]) := (qacc.mono ga.x).append (.cons r4 .nil)
                  have hz : vs'.length < sizeLine := by
                    have := qacc.length
                    have := w.fit
                    omega
                  have xu : Ext H4 pi4 (Dd :: rho) (upd H4 Dd (.lst (vs' ++ [y]))) pi4 (Dd :: rho) := Ext.updR hD4
                  refine ⟨vs', hD4, hz, pi4, S4, acc ++ [d], vs' ++ [y], R4.updR hD4, (x'.trans ga.x).trans xu, fun a o m e => ?_, stepG (g3.trans g4), upd_same, q4.mono xu, by rw [List.length_append]; show acc.length + 1 ≤ i + 1; omega, h'⟩
                  have hne : a ≠ Dd := fun z => hDr (z ▸ m)
                  rw [upd_ne hne]
                  exact ga.res a o (List.mem_cons_of_mem _ m) (res' a o m e)
            | _ => exact h'.elim
      · exact h'.elim
    · exact h'.elim
  · have ed : items.drop i = [] := List.drop_eq_nil_of_le (by omega)
    rw [ed] at h'
    unfold compL at h'
    split at h'
    · rename_i gok
      refine .inl ⟨w.stop (Dd :: rho) i H' pi' S' R' xx gok (by omega), ?_⟩
      have hpi : Dd ∉ pi' := fun q => R'.dis Dd q List.mem_cons_self
      have hz : vs'.length ≤ sizeLine := by
        have := qacc.length
        have := w.fit
        omega
      have gg : Go H1 pi1 rho H' pi' := ⟨xx.trans .unres, res', new'⟩
      exact h' (.ref Dd) H' pi' R'.unres (.lst hDl hpi hDr hz (qacc.mono .unres)) gg fun _ => ⟨Dd, _, rfl, hD, hDr, rfl, ⟨vs', hDl, hz, qacc⟩, R'⟩
    · exact h'.elim
/-- what is asked of the walked thing -/
def DIw (X : Cx) (c : Ctx) (W : WX) (wi : TI) (mi : MI) : Prop := ∀ {σ : St} {H : Hp} {pi rho : List Addr} {S : Store} {env : Env'} {R : It → Hp → Prop}, Rel (gm X c) H pi rho S → REnv (gm X c) H pi rho σ env → PostI (gm X c) W σ H pi rho R (mi env S) → wi σ H R
theorem comp_lc0 {wi : TI} (k : DIw X c W wi mi)
    (hg : ∀ (s : Shared) (H : Hp) (C : Addr) (cl : List (Str × Addr)) (fp : List Addr), DG (Blk X scope s H C cl fp) c tg g is) (his : ∀ i ∈ is, i ∈ own.map (·.2))
    (ht : ∀ (s : Shared) (H : Hp) (C : Addr) (cl : List (Str × Addr)) (fp : List Addr), DIf (Blk X scope s H C cl fp) c ifs t) :
    ∃ (gT : TG) (tt : TT), (∀ (s : Shared) (H : Hp) (C : Addr) (cl : List (Str × Addr)) (fp : List Addr), PG (Blk X scope s H C cl fp) tg gT) ∧ (∀ (s : Shared) (H : Hp) (C : Addr) (cl : List (Str × Addr)) (fp : List Addr), PTs (Blk X scope s H C cl fp) ifs tt) ∧
      ∀ (σ : St) (H : Hp) (Q : VK), tD (gm X c) W (eComp (own.map (·.2)) mi g t m) σ H Q → tLc wi gT tt (tD (gm X c) W0 m) (own.map (·.2)) σ H Q := by
  have hpt : ∃ tt : TT, (∀ (s : Shared) (H : Hp) (C : Addr) (cl : List (Str × Addr)) (fp : List Addr), PTs (Blk X scope s H C cl fp) ifs tt) ∧ ∀ {σ : St} {H : Hp} {pi rho : List Addr} {S : Store} {env : Env'} {Q : Bool → Hp → Prop}, Rel (gm X c) H pi rho S → REnv (gm X c) H pi rho σ env → PostE (gm X c) W0 σ H pi rho (fun v H' => ∃ k, v = .bl k ∧ Q k H') (oTest t env S) → tt σ H Q := by
    cases t with
    | none =>
      refine ⟨tYes, fun s H C cl fp => ?_, fun R N h => ?_⟩
      · cases ht s H C cl fp with | none => exact pts_nil
      · obtain ⟨k, e, q⟩ := PostE.fin h R (.bl true)
        cases e; exact q
    | some mt =>
      refine ⟨tB (tD (gm X c) W0 mt), fun s H C cl fp => ?_, fun R N h => ⟨_, _, _, _, R, N, h⟩⟩
      cases ht s H C cl fp with | one h => exact pts_one h
  obtain ⟨tt, hpt, htt⟩ := hpt
  refine ⟨fun v σ H Q => ∃ pi rho S env d env', Rel (gm X c) H pi rho S ∧ REnv (gm X c) H pi rho σ env ∧ RV (gm X c) H pi rho v d ∧ g d env S = some env' ∧ ∀ σ', REnv (gm X c) H pi rho σ' env' → WipeAs σ' σ is → Q σ' H, tt, fun s H C cl fp => hg s H C cl fp, hpt, fun σ H Q ⟨pi, rho, S, env, R, N, h⟩ => ?_⟩
  refine k R N ?_
  unfold eComp at h
  cases em : mi env S with
  | stuck => rw [em] at h; exact h
  | exc e S1 => rw [em] at h; exact h
  | ok items gd S1 =>
    rw [em] at h
    intro H1 pi1 J R1 g1 w
    have h := PostE.base g1 h
    exact comp_ok (G := gm X c) (W := W) (H := H) (pi := pi) (N.mono g1.x) R1 w (fun v σ H Q q => q) his htt h
theorem comp_lc (hi : DI X c W tg iter mi)
    (hg : ∀ (s : Shared) (H : Hp) (C : Addr) (cl : List (Str × Addr)) (fp : List Addr), DG (Blk X scope s H C cl fp) c tg g is) (his : ∀ i ∈ is, i ∈ own.map (·.2))
    (ht : ∀ (s : Shared) (H : Hp) (C : Addr) (cl : List (Str × Addr)) (fp : List Addr), DIf (Blk X scope s H C cl fp) c ifs t) :
    ∃ (wi : TI) (gT : TG) (tt : TT), PI X tg iter wi ∧ (∀ (s : Shared) (H : Hp) (C : Addr) (cl : List (Str × Addr)) (fp : List Addr), PG (Blk X scope s H C cl fp) tg gT) ∧ (∀ (s : Shared) (H : Hp) (C : Addr) (cl : List (Str × Addr)) (fp : List Addr), PTs (Blk X scope s H C cl fp) ifs tt) ∧
      ∀ (σ : St) (H : Hp) (Q : VK), tD (gm X c) W (eComp (own.map (·.2)) mi g t m) σ H Q → tLc wi gT tt (tD (gm X c) W0 m) (own.map (·.2)) σ H Q := by
  obtain ⟨wi, pi_, k⟩ := hi
  obtain ⟨gT, tt, r⟩ := comp_lc0 (m := m) k hg his ht
  exact ⟨wi, gT, tt, pi_, r⟩
theorem de_comp (hc : X.calm = true) (hN : X.N.Nodup) (hi : DI X c W tg iter mi) (ok : BlkOk X.N X.env.scope scope own)
    (hg : ∀ (s : Shared) (H : Hp) (C : Addr) (cl : List (Str × Addr)) (fp : List Addr), DG (Blk X scope s H C cl fp) c tg g is)
    (ht : ∀ (s : Shared) (H : Hp) (C : Addr) (cl : List (Str × Addr)) (fp : List Addr), DIf (Blk X scope s H C cl fp) c ifs t)
    (he : ∀ (s : Shared) (H : Hp) (C : Addr) (cl : List (Str × Addr)) (fp : List Addr), DE (Blk X scope s H C cl fp) c W0 elt m) (his : ∀ i ∈ is, i ∈ own.map (·.2) := by decide) (hs : ∀ x, foldedSetIterable iter X.env x = pure x := by intro _; rfl) :
    DE X c W (.ListComp elt [⟨tg, iter, ifs, 0⟩] scope pos) (eComp (own.map (·.2)) mi g t m) := by
  obtain ⟨wi, gT, tt, h1, h2, h3, h4⟩ := comp_lc (m := m) hi hg his ht
  exact PE_weak (pe_lc (te := tD (gm X c) W0 m) hc hN h1 ok h2 h3 (fun s H C cl fp => he s H C cl fp) hs) h4
/-- name = [..], both on one line, the name a plain local one -/
theorem ds_setLc (i : Nat) {y : Str} {py spos : Pos} (hc : X.calm = true) (hN : X.N.Nodup) (hi : DI X c W tg iter mi) (ok : BlkOk X.N X.env.scope scope own)
    (hg : ∀ (s : Shared) (H : Hp) (C : Addr) (cl : List (Str × Addr)) (fp : List Addr), DG (Blk X scope s H C cl fp) c tg g is)
    (ht : ∀ (s : Shared) (H : Hp) (C : Addr) (cl : List (Str × Addr)) (fp : List Addr), DIf (Blk X scope s H C cl fp) c ifs t)
    (he : ∀ (s : Shared) (H : Hp) (C : Addr) (cl : List (Str × Addr)) (fp : List Addr), DE (Blk X scope s H C cl fp) c W0 elt m) (his : ∀ i ∈ is, i ∈ own.map (·.2) := by decide)
    (hy : X.N[i]? = some y := by rfl) (hyl : X.env.scope.names.lookup y = some .local := by rfl)
    (hsw : swapsWith (.ListComp elt [⟨tg, iter, ifs, 0⟩] scope pos) (some (.Name y py)) spos.line X.env = pure true := by exact sw_true rfl rfl rfl (by decide +kernel)) (hs : ∀ x, foldedSetIterable iter X.env x = pure x := by intro _; rfl) :
    DS X c W (.Assign [.Name y py] (.ListComp elt [⟨tg, iter, ifs, 0⟩] scope pos) spos) (sSet i (eComp (own.map (·.2)) mi g t m)) := by
  obtain ⟨wi, gT, tt, h1, h2, h3, h4⟩ := comp_lc (m := m) hi hg his ht
  refine PS_weak (ps_setLc (i := i) (te := tD (gm X c) W0 m) hc hN hy hyl hsw h1 ok h2 h3 (fun s H C cl fp => he s H C cl fp) hs) fun D σ H ⟨pi, rho, S, env, R, N, h⟩ => h4 σ H _ ?_
  exact tD.bindS R N h fun v H1 d pi1 S1 fr R1 r1 g1 _ h1 => h1 _ H1 pi1 R1 ((N.mono g1.x).set r1 i) g1
end
end DL
namespace DL
open PySem L2

/-! ### x op= e at a name -/
def sAug (i : Nat) (f : D → D → Store → Res) (m : ME) : MS := fun env S => match env[i]? with
  | some (.val x) => (m env S).bindS env fun y S1 _ => (f x y S1).bindS env fun z S2 _ => .nx (env.set i (.val z)) S2
  | _ => .stuck
section
variable {X : Cx} {c : Ctx} {W : WX} {e : Expr} {m : ME} {pos : Pos}
end
/-! ### an exception is raised -/
structure ExcOk (K : PySem.W.Frag) (mg : Str → Option Value) (cl : Nat → Addr) (x : Str) (cn : Nat) : Prop where
  g : mg x = some (.ref (cl cn))
  x : PySem.W.excIn K (cl cn) [.type "ValueError", .type "Exception", .type "BaseException", .type "object"] "ValueError.__new__" = true
  k : PySem.W.keepIn K (.ref (cl cn)) = true
  b : PySem.W.subIn K (.ref (cl cn)) (.type "BaseException") = some true
  t : PySem.W.typeIn K (.ref (cl cn)) = some (.type "type")
def sRaise (cn : Nat) : MS := fun env S => .exc ⟨cn, none⟩ env S
section
variable {X : Cx} {c : Ctx} {W : WX} {pos : Pos}
theorem ds_raise {x m : Str} {j cn : Nat} {p p2 pos2 : Pos} (T : ExcOk X.K X.mg c.1 x cn) (hc : X.calm = true) (tk : L2N.Takes X W) (hg : Gl X x := by rfl) (hdb : (x == ("__debug__" : Str)) = false := by decide) :
    DS X c W (.Raise (some (.Call (.Name x p) [.Constant (.str m) j p2] [] pos)) none pos2) (sRaise cn) :=
  PS_weak (L2N.ps_raise hc tk (L2N.pmk_own PySem.F.excBase_ValueError T.x T.g T.k (raises_own T.b T.t) hg hdb)) fun D σ H ⟨pi, rho, S, env, R, N, h⟩ => h σ _ none H pi R N .refl ⟨rfl, rfl⟩
end
theorem takesN0 {X : Cx} : L2N.Takes X (fun _ _ _ _ => False) := fun u s' ⟨_, _, _, _, _, _, _, _, _, _, _, _, _, _, _, _, w⟩ => w.elim
/-! ### the law's end -/
/-- the law's promise -/
def spL (K : PySem.W.Frag) : Sp := fun vs H Q _ => ∃ (a : Addr) (ns : List Int), vs = [.ref a] ∧ SqL K H a (ns.map V.int) ∧ Only H ∧ ns.length ≤ 63 ∧ ∀ H', Q (.bl true) H'
theorem law_imp {P : Program} {w : World} {K : PySem.W.Frag} {mg : Str → Option Value} {base : Heap} {cl : Nat → Addr} {k : Nat} {f : Addr} {fd : FuncData} {ps : List Str} {F : MF} (T : FnOk P w K mg base (L2N.CX P w) k f fd ps (spD ⟨K, cl, none⟩ 1 F))
    (h : ∀ ns : List Int, ns.length ≤ 63 → ∃ S' fr, F [.scr ns] [] = .ok (.bl true) S' fr) : FnOk P w K mg base (L2N.CX P w) k f fd ps (spL K) :=
  T.imp fun vs H Q E ⟨a, ns, e, hs, ho, hl, q⟩ => by
    subst e
    obtain ⟨S', fr, e⟩ := h ns hl
    have hsf : SqF K H a (ns.map V.int) := by
      rcases hs with (hs | hs) | hs
      · rcases ho a with n | ⟨o, xs, n⟩
        · rw [n] at hs; cases hs
        · rw [n] at hs; cases hs
      · exact .inl hs
      · exact .inr hs
    refine ⟨[], [], [], [.scr ns], ⟨rfl, List.nodup_nil, fun a h => absurd h List.not_mem_nil, fun a h => absurd h List.not_mem_nil, fun n o e => by simp at e⟩, .cons (.scr hsf (by rw [sizeLine_eq]; omega)) .nil, rfl, ?_⟩
    rw [e]
    intro v H' pi' R' r' g' _
    rw [bl_of r']
    exact q H'
end DL
namespace DL
open PySem L2
theorem hu1 {k : Nat} {A : Around} (hr : Room k A) : A.units + 1 < cLine := by have := hr.un; omega
theorem hu64 {k : Nat} {A : Around} (hr : Room k A) : A.units + 64 < cLine := by have := hr.un; omega
theorem hu65 {k : Nat} {A : Around} (hr : Room k A) : A.units + 65 < cLine := by have := hr.un; omega
/-- a text, an int of the module -/
def CS (mg : Str → Option Value) (x s : Str) : Prop := ∃ t, mg x = some (.str s t)
def CI (mg : Str → Option Value) (x : Str) (i : Int) : Prop := ∃ t, mg x = some (.int i t)
section
variable {X : Cx} {c : Ctx} {W : WX} {pos : Pos}
theorem de_cs {x s : Str} (h : CS X.mg x s) (ho : PyData.strOk s = true := by decide +kernel) (hg : Gl X x := by rfl) (hd : (x == ("__debug__" : Str)) = false := by decide) : DE X c W (.Name x pos) (eC (.str s)) := by
  obtain ⟨t, h⟩ := h
  exact de_gstr hg h ⟨t, rfl⟩ ho hd
theorem de_ci {x : Str} {i : Int} (h : CI X.mg x i) (hg : Gl X x := by rfl) (hd : (x == ("__debug__" : Str)) = false := by decide) : DE X c W (.Name x pos) (eC (.int i)) := by
  obtain ⟨t, h⟩ := h
  exact de_gint hg h ⟨t, rfl⟩ hd
end
end DL
namespace DL
open PySem L2

/-! ### displays of dicts -/
def flat2 {α : Type} : List (α × α) → List α
  | [] => []
  | (a, b) :: r => a :: b :: flat2 r
def prs {α : Type} : List α → List (α × α)
  | a :: b :: r => (a, b) :: prs r
  | _ => []
def putAll : List (D × D) → List (D × D) → List (D × D)
  | acc, [] => acc
  | acc, (k, v) :: r => putAll (dput acc k v) r
def keysAll : List (D × D) → Bool
  | [] => true
  | (k, _) :: r => (keyOf k).isSome && keysAll r
def eDct0 : ME := fun _ S => .ok (.dct []) S true
def eDctT : ME := fun _ S => .ok (.ref S.length) (S ++ [.dct true []]) false
def eDct (ps : List (ME × ME)) : ME := fun env S => (eArgs (flat2 ps) env S).bind fun ds S1 => if keysAll (prs ds) = true then .ok (.dct (putAll [] (prs ds))) S1 true else .stuck
section
variable {G : Gam} {W : WX} {H H1 H' : Hp} {pi pi1 pi' rho : List Addr} {σ σ' : St} {env env' : Env'} {S S' : Store} {Q : VK}
end
section
variable {X : Cx} {c : Ctx} {W : WX} {pos : Pos} {a b k v : Expr} {ma mb mk mv : ME} {ms : List (ME × ME)}
theorem de_dct0 : DE X c W (.Dict [] [] pos) eDct0 := PE_weak pe_dnewK fun σ H Q ⟨pi, rho, S, env, R, N, h⟩ => fun p hp =>
  h (.ref p) _ pi (R.new hp) (.dct upd_same (R.free hp) (R.freeR hp) (Nat.zero_le _) .nil) (Go.new hp) fun _ => ⟨p, _, rfl, hp, R.freeR hp, rfl, ⟨[], upd_same, Nat.zero_le _, .nil⟩, R.newR hp⟩

/-! ### a, b = x, y -/
def sPar (i j : Nat) (a b : ME) : MS := fun env S => (a env S).bindS env fun x S1 _ => (b env S1).bindS env fun y S2 _ => .nx ((env.set i (.val x)).set j (.val y)) S2
/-- name += int -/
def vAddI : D → D → Store → Res
  | .int i, .int j, S => .ok (.int (i + j)) S false
  | _, _, _ => .stuck
end
end DL
namespace DL
open PySem PySem.Spec PyProof.Rows L2

/-! ### l.remove(x) -/
end DL
namespace DL
open PySem L2
/-- a def of which nothing is asked -/
theorem defOk_zero {P : Program} {w : World} {K : PySem.W.Frag} {mg : Str → Option Value} {base : Heap} {cl : Nat → Addr} {k n : Nat} {x : Str} {f : Addr} {fd : FuncData} {ps : List Str} (hm : mg x = some (.ref f)) (hk : PySem.W.keepIn K (.ref f) = true) (hb : Binds K fd ps []) :
    DefOk P w K mg base cl k x n (fun _ _ => .stuck) :=
  ⟨f, fd, ps, ⟨fun vs H Q E ⟨_, _, _, _, _, _, _, h⟩ => h.elim, fun A outer s H args us vs Q E _ _ _ _ ⟨_, _, _, _, _, _, _, h⟩ => h.elim⟩, hm, hk, hb⟩
end DL
/-! While an error is handled: walks of lists and ranges, comprehensions. -/
namespace DL
open PySem PySem.Spec PyProof.Rows L2 L2H HotX

section
variable {prog : Program} {w : World} {A : Around} {E : Value → Shared → Prop} {s : Shared}
end

/-! ### a list comprehension there -/
/-- one pin more or less, in the context or beside it -/
theorem inv_pn {X : Cx} {pn pins pins' : List (Addr × Obj)} {σ : L2.St} {H : Hp} {s : Shared} (I : Inv X pins σ H s) (h : ∀ p, p ∈ pn ++ pins' → p ∈ X.pn ++ pins) : Inv { X with pn := pn } pins' σ H s :=
  ⟨⟨I.ok.mod, I.ok.kind, I.ok.glob, I.ok.blt, I.ok.above, I.ok.inj, I.ok.has, I.ok.cab, I.ok.hd, I.ok.frames, I.ok.stk, I.ok.exf, I.ok.bs, I.ok.bsz, I.ok.noex, I.ok.exfs, I.ok.funs, I.ok.frf⟩, I.os, I.bare, I.base, I.loc, I.cell, I.free, I.freeC, fun p hp => I.pin p (h p hp), I.hok, I.len⟩
section
variable {X : Cx}
theorem hot_core {pins : List (Addr × Obj)} {s : Shared} {σ : L2.St} {H : Hp} {Q : VK} {elt tg iter : Expr} {ifs : List Expr} {scope : Scope} {own : List (Str × Nat)} {pos pos' : Pos} {wi : TI} {g : TG} {tt : TT} {te : TE} {use : Option (Value → Sem Unit)} {Qf : Value → Shared → Prop}
    (hc : HotC X) (hN : X.N.Nodup) (I : Inv X pins σ H s) (hi : PIH X tg iter wi) (ok : BlkOk X.N X.env.scope scope own)
    (hg : ∀ (s : Shared) (H : Hp) (C : Addr) (cl : List (Str × Addr)) (fp : List Addr), PG (X.blk s H scope (compEnvC scope cl C X.env) fp) tg g)
    (ht : ∀ (s : Shared) (H : Hp) (C : Addr) (cl : List (Str × Addr)) (fp : List Addr), PTs (X.blk s H scope (compEnvC scope cl C X.env) fp) ifs tt)
    (he : ∀ (s : Shared) (H : Hp) (C : Addr) (cl : List (Str × Addr)) (fp : List Addr), PE (X.blk s H scope (compEnvC scope cl C X.env) fp) elt te)
    (hs : ∀ x, foldedSetIterable iter X.env x = pure x) (h : tLc wi g tt te (own.map (·.2)) σ H Q)
    (hend : ∀ D C s' m H', Inv X pins σ H' s' → Q (.ref D) H' → s'.heap.Ns C m → FpOk X pins H' C → compPost (model X.prog X.w) X.A X.xe use Qf (.ref D) C (.ok .next) s') :
    wpAny (model X.prog X.w) X.A (comprehension (.ListComp elt [⟨tg, iter, ifs, 0⟩] scope pos) scope X.env pos' (newList []) false (eval iter X.env) use) Qf X.xe s := by
  obtain ⟨p0, hot1, hpn⟩ := hc
  have free_ok : ∀ y ∈ scope.names, y.2 = .free → ∃ c, X.env.cells.lookup y.1 = some c := fun y hy e => (ok.free y hy e).elim (fun k => I.ok.has _ (.inl k)) fun k => I.ok.has _ (.inr k)
  refine wpAny_comprehension_free (use := use) rfl hs (closure_ok free_ok) ok.kind (fun y hy e => by rw [ok.uniq y hy, e]) (thn (hi.run pins s σ H _ I h) fun xv s1 hx => thn hx fun itv s2 ⟨it, fp, tn, J, H2, e, I2, T, st2, f2, q⟩ => ?_)
  subst e
  refine wpAny_newObj_type (newEnv_comp ?_) (Nat.zero_le _)
  -- the list that is made
  generalize hD : s2.heap.objs.size = D
  have nD : H2 D = none := I2.hok.fresh (Nat.le_of_eq hD)
  obtain ⟨W, ⟨m0, w0⟩, turn⟩ := q D nD
  generalize e3 : ({ s2 with heap := s2.heap.push { cls := .type "list", data := .seq ([] : List Value).toArray } } : Shared) = s3
  have h3 : s3.heap = s2.heap.push { cls := .type "list", data := .seq ([] : List Value).toArray } := by rw [← e3]
  have I3 : Inv X pins σ (upd H2 D (.lst [])) s3 := by
    subst e3
    exact I2.laid (t' := s2.toks) (fun b o e => Heap.get?_push_of_some _ e) (Nat.le_of_eq hD) ⟨Nat.zero_le _, [], 0, .nil, by rw [← hD]; exact Heap.get?_push_size _ rfl⟩
  have below : ∀ b ∈ fp, b < s2.heap.objs.size := fun b hb => let ⟨o, e, _⟩ := T.obj _ _ st2 b hb; Heap.lt_size e
  have f3 : ∀ b ∈ fp, FpOk X pins (upd H2 D (.lst [])) b ∧ b < s3.heap.objs.size := fun b hb =>
    ⟨⟨by rw [upd_ne (by rw [← hD]; exact Nat.ne_of_lt (below b hb))]; exact (f2 b hb).1, (f2 b hb).2⟩, by rw [h3, Heap.size_push]; exact Nat.lt_succ_of_lt (below b hb)⟩
  have st3 : tn 0 s3.heap := T.keep _ _ _ st2 fun b _ o e => by rw [h3]; exact Heap.get?_push_of_some _ e
  have pin0 := I3.pin p0 (List.mem_append_left _ hpn)
  have I4 := block_start I3 ok hN f3
  have pg := hg s3 (upd H2 D (.lst [])) s3.heap.objs.size (cellsFrom (s3.heap.objs.size + 1) scope.names (cloFrom X.env.cells scope.names [])) fp
  have pt := ht s3 (upd H2 D (.lst [])) s3.heap.objs.size (cellsFrom (s3.heap.objs.size + 1) scope.names (cloFrom X.env.cells scope.names [])) fp
  have pe := he s3 (upd H2 D (.lst [])) s3.heap.objs.size (cellsFrom (s3.heap.objs.size + 1) scope.names (cloFrom X.env.cells scope.names [])) fp
  show codeAny _ _ (.compStart (.ListComp elt [⟨tg, iter, ifs, 0⟩] scope pos) 0 (.ref it) (.ref D) (compEnvC scope (cellsFrom (s3.heap.objs.size + 1) scope.names (cloFrom X.env.cells scope.names [])) s3.heap.objs.size X.env)) (compPost (model X.prog X.w) X.A X.xe use Qf (.ref D) s3.heap.objs.size) { s3 with heap := pushCells (s3.heap.push { cls := .type "dict", data := .dict #[] }) scope.names }
  have nfp : ∀ b ∈ fp, (upd H2 D (.lst [])) b = none := fun b hb => (f3 b hb).1.1
  generalize ece : compEnvC scope (cellsFrom (s3.heap.objs.size + 1) scope.names (cloFrom X.env.cells scope.names [])) s3.heap.objs.size X.env = ce at I4 pg pt pe ⊢
  have cL : ce.locals = s3.heap.objs.size := by subst ece; rfl
  generalize eH3 : upd H2 D (.lst []) = H3 at I3 I4 pg pt pe w0 nfp f3 pin0
  generalize e4 : ({ s3 with heap := pushCells (s3.heap.push { cls := .type "dict", data := .dict #[] }) scope.names } : Shared) = s4 at I4 ⊢
  have keep34 : ∀ b o, s3.heap.get? b = some o → s4.heap.get? b = some o := fun b o e => by rw [← e4]; exact pushCells_keeps _ _ _ _ (Heap.get?_push_of_some _ e)
  have st4 : tn 0 s4.heap := T.keep _ _ _ st3 fun b _ o e => keep34 b o e
  -- the block's context, and the same with the error pinned
  let B : Cx := X.blk s3 H3 scope ce fp
  have I4p : Inv B [p0] (wipe σ (own.map (·.2))) H3 s4 := I4.pins_of fun p hp => by
    rw [List.mem_singleton] at hp
    subst hp
    refine ⟨keep34 _ _ pin0.1, pin0.2.1, ?_, fun m => ?_, pin0.2.2.2.2⟩
    · show p.1 ≠ ce.locals
      rw [cL]; exact Nat.ne_of_lt (Heap.lt_size pin0.1)
    · rcases List.mem_cons.mp (I3.stkSub p.1 m) with z | z
      · exact pin0.2.2.1 z
      · exact pin0.2.2.2.1 z
  have toP : ∀ {pl : List (Addr × Obj)} {σ' : L2.St} {H' : Hp} {s' : Shared}, Inv B ([p0] ++ pl) σ' H' s' → Inv { B with pn := [p0] } pl σ' H' s' := fun I' => inv_pn I' fun p hp => by simpa [B] using hp
  have ofP : ∀ {pl : List (Addr × Obj)} {σ' : L2.St} {H' : Hp} {s' : Shared}, Inv { B with pn := [p0] } pl σ' H' s' → Inv B ([p0] ++ pl) σ' H' s' := fun I' => inv_pn (X := { B with pn := [p0] }) I' fun p hp => by simpa [B] using hp
  have hotB : HotC { B with pn := [p0] } := ⟨p0, hot1, List.mem_singleton.mpr rfl⟩
  have p0n : ∀ b ∈ fp, p0.1 ≠ b := fun b hb => (f3 b hb).1.2.2.2.2.2 p0 (List.mem_append_left _ hpn)
  have stat : ∀ {σ' : L2.St} {H' : Hp} {s' : Shared}, Inv B [p0] σ' H' s' → (∀ b ∈ fp, H' b = none) → ∀ b ∈ fp, FpOk { B with pn := [p0] } [] H' b := fun {σ' H' s'} I' hn b hb =>
    ⟨hn b hb, (I'.ok.exf b hb).1, I'.ok.exfs b hb, .inl hb, fun x c e => (I'.ok.exf b hb).2 x c e, fun p hp => by
      have : p = p0 := by simpa using hp
      rw [this]; exact p0n b hb⟩
  have loop : codeAny (model X.prog X.w) X.A (.compLoop (.ListComp elt [⟨tg, iter, ifs, 0⟩] scope pos) 0 (.ref it) (.ref D) ce) (compPost (model X.prog X.w) X.A X.xe use Qf (.ref D) s3.heap.objs.size) s4 := by
    refine compLoop_any (fun n s' => ∃ i H', Inv B [p0] (wipe σ (own.map (·.2))) H' s' ∧ tn i s'.heap ∧ (∀ b ∈ fp, H' b = none) ∧ W i n H') ?_ m0 ⟨0, H3, I4p, st4, nfp, w0⟩
    rintro n s5 ⟨i, H5, I5, st5, n5, w5⟩
    have I5' := toP (pl := []) (by simpa using I5)
    rcases turn i n H5 w5 with ⟨stop, qq⟩ | ⟨go, Nx, hNx, step⟩
    · refine thnF (T.done { B with pn := [p0] } rfl rfl rfl hotB i [] s5 _ H5 (fun _ _ => False) I5' (stat I5 n5) st5 stop) fun r s6 ⟨hr, I6⟩ => ?_
      subst hr
      have I6 := ofP I6
      have I7 : Inv X pins σ H5 s6 := I3.call' (ch := fp) I6.os I6.base I6.hok I6.bare fun b hb => ⟨(f3 b hb).1.2.2.2.1, (f3 b hb).1.2.1, (f3 b hb).1.2.2.2.2.1, (f3 b hb).1.2.2.2.2.2⟩
      have nC : H5 s3.heap.objs.size = none := by rw [← cL]; exact I6.free
      obtain ⟨m, hn, _⟩ := I6.loc
      have hn : s6.heap.Ns ce.locals m := hn
      rw [cL] at hn
      exact hend D s3.heap.objs.size s6 m H5 I7 qq hn (I3.fpOk (Nat.le_refl _) nC)
    · refine thnF (T.item { B with pn := [p0] } rfl rfl rfl hotB i [] s5 _ H5 (fun _ _ => False) I5' (stat I5 n5) st5 go) fun r s6 ⟨u, hr, h6⟩ => ?_
      subst hr
      refine thnF h6 fun _ s7 ⟨x, H7, I7, r7, y7, st7, n7⟩ => ?_
      have I7 : Inv B [p0] (wipe σ (own.map (·.2))) H7 s7 := by simpa using ofP I7
      have fB : ∀ b ∈ fp, FpOk B [p0] H7 b := fun b hb => by
        obtain ⟨a1, a2, a3, a4, a5, a6⟩ := stat I7 n7 b hb
        exact ⟨a1, a2, a3, a4, a5, fun p hp => a6 p (by simpa [B] using hp)⟩
      have I7' := I7.pinned fB (T.obj _ _ st7)
      refine thnF (pg.run _ s7 _ H7 x u _ I7' r7 (step x H7 y7)) fun _ s8 ⟨σ8, H8, I8, hw8, q8⟩ => ?_
      refine thnF (pt.run _ s8 σ8 H8 _ I8 q8) fun b s9 ⟨H9, I9, q9⟩ => ?_
      have fin : ∀ {s' : Shared} {H' : Hp}, Inv B ([p0] ++ pinsAt fp s7.heap) σ8 H' s' → Nx H' → ∃ m, m < n ∧ ∃ i H', Inv B [p0] (wipe σ (own.map (·.2))) H' s' ∧ tn i s'.heap ∧ (∀ b ∈ fp, H' b = none) ∧ W i m H' := fun {s' H'} I' nx => by
        obtain ⟨m', hm, w'⟩ := hNx H' nx
        have still : ∀ b ∈ fp, ∀ o, s7.heap.get? b = some o → s'.heap.get? b = some o ∧ H' b = none := fun b hb o e => by
          have z := I'.pin (b, o) (List.mem_append_right _ (List.mem_append_right _ (mem_pinsAt hb e)))
          exact ⟨z.1, z.2.1⟩
        refine ⟨m', hm, i + 1, H', I'.unpinned.weak (by rw [← hw8, wipe_length]) (fun j v e => by rw [← hw8] at e; exact (wipe_some e).1), T.keep _ _ _ st7 fun b hb o e => (still b hb o e).1, fun b hb => ?_, w'⟩
        obtain ⟨o, e, _⟩ := T.obj _ _ st7 b hb
        exact (still b hb o e).2
      cases b with
      | false =>
        simp only [Bool.false_eq_true, if_false] at q9 ⊢
        exact fin I9 q9
      | true =>
        simp only [if_true] at q9 ⊢
        refine thnF (pe.run _ s9 σ8 H9 _ I9 q9) fun z s10 ⟨yv, H10, I10, r10, acc, hD10, hz10, nx⟩ => ?_
        exact app_ok (X := B) I10 hD10 hz10 r10 fun s11 I11 => fin I11 nx
  exact codeAny_compStart_list loop (T.self X.A 0 _ _ _ st4 loop)
theorem pe_lcH {elt tg iter : Expr} {ifs : List Expr} {scope : Scope} {own : List (Str × Nat)} {pos : Pos} {wi : TI} {g : TG} {tt : TT} {te : TE} (hc : HotC X) (hN : X.N.Nodup) (hi : PIH X tg iter wi) (ok : BlkOk X.N X.env.scope scope own)
    (hg : ∀ (s : Shared) (H : Hp) (C : Addr) (cl : List (Str × Addr)) (fp : List Addr), PG (X.blk s H scope (compEnvC scope cl C X.env) fp) tg g) (ht : ∀ (s : Shared) (H : Hp) (C : Addr) (cl : List (Str × Addr)) (fp : List Addr), PTs (X.blk s H scope (compEnvC scope cl C X.env) fp) ifs tt)
    (he : ∀ (s : Shared) (H : Hp) (C : Addr) (cl : List (Str × Addr)) (fp : List Addr), PE (X.blk s H scope (compEnvC scope cl C X.env) fp) elt te) (hs : ∀ x, foldedSetIterable iter X.env x = pure x := by intro _; rfl) :
    PE X (.ListComp elt [⟨tg, iter, ifs, 0⟩] scope pos) (tLc wi g tt te (own.map (·.2))) := ⟨fun pins s σ H Q I h => by
  rw [eval_ListComp]
  refine hot_core hc hN I hi ok hg ht he hs h fun D C s' m H' I' q hn ⟨f0, f1, f2, f3, f4, f5⟩ => ⟨m, hn, fun h'' sb => ?_⟩
  exact ⟨.ref D, H', I'.turned (t' := s'.toks) (fun b o hb e => (sb.2 b hb).trans e) f0 f1 f3 f4 f5, rfl, q⟩⟩
theorem ps_setLcH {i : Nat} {y : Str} {py : Pos} {elt tg iter : Expr} {ifs : List Expr} {scope : Scope} {own : List (Str × Nat)} {pos spos : Pos} {wi : TI} {g : TG} {tt : TT} {te : TE} (hc : HotC X) (hN : X.N.Nodup) (hy : X.N[i]? = some y) (hyl : X.env.scope.names.lookup y = some .local)
    (hsw : swapsWith (.ListComp elt [⟨tg, iter, ifs, 0⟩] scope pos) (some (.Name y py)) spos.line X.env = pure true) (hi : PIH X tg iter wi) (ok : BlkOk X.N X.env.scope scope own)
    (hg : ∀ (s : Shared) (H : Hp) (C : Addr) (cl : List (Str × Addr)) (fp : List Addr), PG (X.blk s H scope (compEnvC scope cl C X.env) fp) tg g) (ht : ∀ (s : Shared) (H : Hp) (C : Addr) (cl : List (Str × Addr)) (fp : List Addr), PTs (X.blk s H scope (compEnvC scope cl C X.env) fp) ifs tt)
    (he : ∀ (s : Shared) (H : Hp) (C : Addr) (cl : List (Str × Addr)) (fp : List Addr), PE (X.blk s H scope (compEnvC scope cl C X.env) fp) elt te) (hs : ∀ x, foldedSetIterable iter X.env x = pure x := by intro _; rfl) :
    PS X (.Assign [.Name y py] (.ListComp elt [⟨tg, iter, ifs, 0⟩] scope pos) spos) (tAsg (tLc wi g tt te (own.map (·.2))) (gName i)) := ⟨fun pins s σ H D I h => by
  rw [exec_Assign_Name_used _ _ _ _ hsw]
  refine wpAny_bind (wpAny_standAt (wpAny_bind ?_))
  show wpAny _ X.A (do let _ ← comprehension (.ListComp elt [⟨tg, iter, ifs, 0⟩] scope pos) scope X.env (firstIterPos [⟨tg, iter, ifs, 0⟩] pos) (newList []) false (eval iter X.env) (some (assign (.Name y py) X.env))) _ _ s
  have h : tLc wi g tt te (own.map (·.2)) σ H (fun x H1 => gName i x σ H1 D.nx) := h
  refine wpAny_bind (thn (hot_core (Qf := fun _ s' => SP X pins D .next s') hc hN I hi ok hg ht he hs h fun L C s' m H' I' q hn ⟨f0, f1, f2, f3, f4, f5⟩ => ?_) fun _ s' hq => wpAny_pure (wpAny_pure hq))
  show wpAny _ _ (assign (.Name y py) X.env (.ref L)) _ _ _
  refine wpAny_assign_Name (store_ok2 (v := V.ref L) I' hN hy (.inl hyl) rfl (fun s2 I2 ⟨a, sb, ha⟩ => ?_) (.inr hyl))
  have nCa : C ≠ a := ha.elim (fun z => by rw [z]; exact f1) fun z e => f4 y a z e.symm
  exact ⟨m, hn.sameBut sb nCa, fun h3 sb3 => ⟨_, H', I2.turned (t' := s2.toks) (fun b o hb e => (sb3.2 b hb).trans e) f0 f1 f3 f4 f5, q⟩⟩⟩
end
end DL
/-! Errors that are caught: the suite's words, the clause. -/
namespace DL
open PySem PySem.Spec PyProof.Rows L2 L2H HotX

theorem hu1H {k : Nat} {A : Around} (hr : RoomH k A) : A.units + 1 < cLine := by have := hr.un; omega
theorem hu64H {k : Nat} {A : Around} (hr : RoomH k A) : A.units + 64 < cLine := by have := hr.un; omega

/-! ### a value leans on no caught error -/
section
variable {K : PySem.W.Frag} {cl : Nat → Addr} {x1 x2 : Option (Addr × Exc)} {H : Hp} {pi rho : List Addr}
mutual
theorem RV.xi : ∀ {v : V} {d : D}, RV ⟨K, cl, x1⟩ H pi rho v d → RV ⟨K, cl, x2⟩ H pi rho v d
  | _, _, .non => .non
  | _, _, .bl b => .bl b
  | _, _, .int i => .int i
  | _, _, .str h => .str h
  | _, _, .scr h z => .scr h z
  | _, _, .err h n m => .err h n m
  | _, _, .tup h z r => .tup h z (RVs.xi r)
  | _, _, .ktup h z r => .ktup h z (RVs.xi r)
  | _, _, .fdct h z r => .fdct h z (RKs.xi r)
  | _, _, .lst h n m z r => .lst h n m z (RVs.xi r)
  | _, _, .dct h n m z r => .dct h n m z (RKs.xi r)
  | _, _, .obj h n m r => .obj h n m (RFs.xi r)
  | _, _, .ref h => .ref h
theorem RVs.xi : ∀ {v : List V} {d : List D}, RVs ⟨K, cl, x1⟩ H pi rho v d → RVs ⟨K, cl, x2⟩ H pi rho v d
  | _, _, .nil => .nil
  | _, _, .cons h r => .cons (RV.xi h) (RVs.xi r)
theorem RKs.xi : ∀ {v : List (Key × V)} {d : List (D × D)}, RKs ⟨K, cl, x1⟩ H pi rho v d → RKs ⟨K, cl, x2⟩ H pi rho v d
  | _, _, .nil => .nil
  | _, _, .cons e h r => .cons e (RV.xi h) (RKs.xi r)
theorem RFs.xi : ∀ {v : List (Str × V)} {d : List (Str × D)}, RFs ⟨K, cl, x1⟩ H pi rho v d → RFs ⟨K, cl, x2⟩ H pi rho v d
  | _, _, .nil => .nil
  | _, _, .cons h r => .cons (RV.xi h) (RFs.xi r)
end
theorem RTs.xi : ∀ {v : List (List Key × V)} {d : List (D × D)}, RTs ⟨K, cl, x1⟩ H pi rho v d → RTs ⟨K, cl, x2⟩ H pi rho v d
  | _, _, .nil => .nil
  | _, _, .cons e h r => .cons e (RV.xi h) (RTs.xi r)
theorem RO.xi {a : Addr} : ∀ {o : O}, RO ⟨K, cl, x1⟩ H pi rho a o → RO ⟨K, cl, x2⟩ H pi rho a o
  | .lst _, ⟨vs, h, z, r⟩ => ⟨vs, h, z, r.xi⟩
  | .dct false _, ⟨vs, h, z, r⟩ => ⟨vs, h, z, r.xi⟩
  | .dct true _, ⟨vs, h, z, r⟩ => ⟨vs, h, z, r.xi⟩
  | .ins _ _, ⟨dx, vs, h, r⟩ => ⟨dx, vs, h, r.xi⟩
  | .fz _, ⟨od, vs, h, z, r⟩ => ⟨od, vs, h, z, r.xi⟩
theorem Rel.xi {S : Store} (R : Rel ⟨K, cl, x1⟩ H pi rho S) : Rel ⟨K, cl, x2⟩ H pi rho S := ⟨R.len, R.nd, R.dis, R.trk, fun n o e => let ⟨a, ha, r⟩ := R.at_ n o e; ⟨a, ha, r.xi⟩⟩
theorem Frsh.xi {H0 : Hp} {v : V} {d : D} {S' : Store} (h : Frsh ⟨K, cl, x1⟩ H0 H pi rho v d S') : Frsh ⟨K, cl, x2⟩ H0 H pi rho v d S' := by
  obtain ⟨p, o, a, b, c, e, r, R⟩ := h
  exact ⟨p, o, a, b, c, e, r.xi, R.xi⟩
/-- a slot without its error -/
def clr : Sl → Sl
  | .exc _ => .no
  | x => x
@[simp] theorem clr_val (d : D) : clr (.val d) = .val d := rfl
@[simp] theorem clr_no : clr .no = .no := rfl
@[simp] theorem clr_exc (e : Exc) : clr (.exc e) = .no := rfl
theorem REnv.clr {σ : L2.St} {env : Env'} (N : REnv ⟨K, cl, x1⟩ H pi rho σ env) : REnv ⟨K, cl, x2⟩ H pi rho σ (env.map DL.clr) := by
  refine ⟨by rw [List.length_map]; exact N.len, fun i sl e => ?_⟩
  rw [List.getElem?_map] at e
  cases q : env[i]? with
  | none => rw [q] at e; cases e
  | some s0 =>
    rw [q] at e
    cases e
    have := N.at_ i s0 q
    cases s0 with
    | no => trivial
    | val d => obtain ⟨v, h1, h2⟩ := this; exact ⟨v, h1, h2.xi⟩
    | exc e => trivial
/-- no slot bears an error -/
theorem REnv.none {σ : L2.St} {env : Env'} (N : REnv ⟨K, cl, none⟩ H pi rho σ env) : env.map DL.clr = env := by
  refine List.ext_getElem? fun i => ?_
  rw [List.getElem?_map]
  cases q : env[i]? with
  | none => rfl
  | some s0 =>
    cases s0 with
    | exc e => obtain ⟨_, _, _, h, _⟩ := N.at_ i _ q; cases h
    | _ => rfl
theorem REnv.xi0 {σ : L2.St} {env : Env'} (N : REnv ⟨K, cl, Option.none⟩ H pi rho σ env) : REnv ⟨K, cl, x2⟩ H pi rho σ env := by
  have := N.clr (x2 := x2)
  rw [N.none] at this
  exact this
theorem REnv.setX {σ : L2.St} {env : Env'} {a : Addr} {e e' : Exc} (N : REnv ⟨K, cl, some (a, e')⟩ H pi rho σ env) (hx : XAt H pi rho e e') (i : Nat) : REnv ⟨K, cl, some (a, e')⟩ H pi rho (σ.set i (some (.ref a))) (env.set i (.exc e)) := by
  refine ⟨by simp [N.len], fun j sl q => ?_⟩
  by_cases hj : j = i
  · subst hj
    have hl : j < env.length := by simpa using (List.getElem?_eq_some_iff.mp q).1
    rw [List.getElem?_set_self hl] at q
    cases q
    exact ⟨a, e', by rw [List.getElem?_set_self (by rw [N.len]; exact hl)], rfl, hx⟩
  · rw [List.getElem?_set_ne (Ne.symm hj)] at q ⊢
    exact N.at_ j sl q
end

/-! ### the error that is handled -/
/-- what is told of the classes of errors: ex their numbers, root the one above all -/
structure ErrTab (K : PySem.W.Frag) (cl : Nat → Addr) (root : Nat) (ex : List Nat) : Prop where
  is : ∀ n ∈ ex, ExcC K (cl n)
  sub : ∀ n ∈ ex, ∀ m ∈ ex, PySem.W.subIn K (.ref (cl n)) (.ref (cl m)) = some (n == m || m == root)
  val : ∀ n ∈ ex, PySem.W.subIn K (.ref (cl n)) (.type "ValueError") = some true
  cls : ∀ n ∈ ex, (PySem.W.clsIn K (cl n)).isSome = true ∧ PySem.W.typeIn K (.ref (cl n)) = some (.type "type")
section
variable {K : PySem.W.Frag} {cl : Nat → Addr} {root n m : Nat} {ex : List Nat}
theorem ErrTab.kit (T : ErrTab K cl root ex) (hn : n ∈ ex) (hm : m ∈ ex) : PySem.W.kitOne K (.ref (cl n)) (.ref (cl m)) = some (n == m || m == root) := by
  have s := T.sub n hn m hm
  have c := T.cls m hm
  have e : ((PySem.W.clsIn K (cl m)).isSome && PySem.W.typeIn K (.ref (cl m)) == some (.type "type")) = true := by rw [c.1, c.2]; rfl
  unfold PySem.W.kitOne
  by_cases h : (Value.ref (cl n) == Value.ref (cl m)) = true
  · rw [if_pos h]
    have q : cl n = cl m := Value.ref.inj (beq_iff_eq.mp h)
    have s2 := T.sub n hn n hn
    rw [← q, s2] at s
    rw [← Option.some.inj s]
    simp
  · rw [if_neg h]
    show (if _ = true then PySem.W.subIn K (.ref (cl n)) (.ref (cl m)) else none) = _
    rw [if_pos e, s]
theorem ErrTab.kitV (T : ErrTab K cl root ex) (hn : n ∈ ex) : PySem.W.kitOne K (.ref (cl n)) (.type "ValueError") = some true := by
  have hm : PySem.W.kitMeta "ValueError" = true := by decide +kernel
  show (if (Value.ref (cl n) == Value.type "ValueError") = true then some true else if PySem.W.kitMeta "ValueError" = true then PySem.W.subIn K (.ref (cl n)) (.type "ValueError") else none) = _
  have : ¬ (Value.ref (cl n) == Value.type "ValueError") = true := fun h => nomatch beq_iff_eq.mp h
  rw [if_neg this, if_pos hm, T.val n hn]
theorem ErrTab.exm (T : ErrTab K cl root ex) (hn : n ∈ ex) (hm : m ∈ ex) : PySem.W.exmOne K (.ref (cl n)) (.ref (cl m)) = some (n == m || m == root) :=
  PySem.W.exm_ref (T.is m hm).hs (T.is m hm).hd (T.cls m hm).2 (T.sub n hn m hm)
end
/-- where the dict of the error of the context stands -/
def dxOf (e : Exc) : Option Addr := e.fld.map Int.toNat
structure Held (X : Cx) (cl : Nat → Addr) (a : Addr) (e : Exc) : Prop where
  hot : X.A.handled = some (.ref a)
  pin : ∃ oe : Obj, (a, oe) ∈ X.pn ∧ L2N.Zn (.ref (cl e.c)) (dxOf e) oe ∧ ∃ vs, oe.data = .fields vs
theorem Held.hotC {X : Cx} {cl : Nat → Addr} {a : Addr} {e : Exc} (h : Held X cl a e) : HotC X := by
  obtain ⟨hh, ⟨oe, hp, z, vs, ev⟩⟩ := h
  exact ⟨(a, oe), ⟨hh, vs, ev, z.2.2 vs ev⟩, hp⟩
/-- the dict of the error of the context is there -/
def DxAt (H : Hp) (e : Exc) : Prop := ∀ dx, dxOf e = some dx → ∃ fs, H dx = some (.xd fs)
theorem XAt.dx {H : Hp} {pi rho : List Addr} {e e' : Exc} (h : XAt H pi rho e e') : DxAt H e' := by
  obtain ⟨c, f⟩ := e
  obtain ⟨c', f'⟩ := e'
  intro dx hd
  cases f with
  | none =>
    obtain ⟨_, h2⟩ := h
    have h2 : f' = none := h2
    subst h2
    cases hd
  | some i =>
    obtain ⟨_, d, h2, h3, _⟩ := h
    have h2 : f' = some (Int.ofNat d) := h2
    subst h2
    cases hd
    exact ⟨_, h3⟩
theorem Held.inst {X : Cx} {cl : Nat → Addr} {a : Addr} {e : Exc} {pins : List (Addr × Obj)} {σ : L2.St} {H : Hp} {s : Shared} (hd : Held X cl a e) (hx : DxAt H e) (I : L2.Inv X pins σ H s) :
    ∃ oe od, PySem.W.InstAt s.heap a oe (cl e.c) od ∧ (∃ vs, oe.data = .fields vs) ∧ oe.dict = dxOf e := by
  obtain ⟨hh, ⟨oe, hp, z, vs, ev⟩⟩ := hd
  obtain ⟨hget, _⟩ := I.pin (a, oe) (List.mem_append_left _ hp)
  obtain ⟨h1, h2, _⟩ := z
  have no : PySem.W.notCls oe = true := by unfold PySem.W.notCls; rw [ev] <;> rfl
  cases q : dxOf e with
  | none => exact ⟨oe, none, ⟨hget, h1, no, by rw [h2, q]; trivial⟩, ⟨vs, ev⟩, by rw [h2, q]⟩
  | some dx =>
    obtain ⟨fs, ed⟩ := hx dx q
    obtain ⟨mA, hns, hr⟩ := (show ObjOk X.prog X.w H s.heap dx (.xd fs) from I.hok dx _ ed)
    obtain ⟨od, ho, _⟩ := lookIn_ns hns
    exact ⟨oe, some od, ⟨hget, h1, no, by rw [h2, q]; exact ho⟩, ⟨vs, ev⟩, by rw [h2, q]⟩
/-- isinstance(e, c) of the handled error -/
def rErr (K : PySem.W.Frag) (D a : Addr) (e : Exc) : List V → Hp → VK → Prop := fun xs H Q => DxAt H e ∧ ((∃ (c : V) (cv : Value) (b : Bool), xs = [.ref a, c] ∧ ClsV c cv ∧ PySem.W.kitOne K (.ref D) cv = some b ∧ Q (.bl b) H) ∨
  ∃ (tp : Addr) (cs : List V) (us : List Value) (b : Bool), xs = [.ref a, .ref tp] ∧ H tp = some (.tup cs) ∧ Paired ClsV cs us ∧ PySem.W.kitAny K (.ref D) us = some b ∧ Q (.bl b) H)
theorem call_err {X : Cx} {cl : Nat → Addr} {a : Addr} {e : Exc} (C : ExcC X.K (cl e.c)) (hcl : (PySem.W.clsIn X.K (cl e.c)).isSome = true) (hd : Held X cl a e) : CallR X (.builtin "isinstance") (rErr X.K (cl e.c) a e) := by
  intro pins s σ H xs us Q I r h
  obtain ⟨hx, h⟩ := h
  obtain ⟨oe, od, J, _⟩ := hd.inst hx I
  have kit := PySem.W.kitx_exc (x := a) (ox := oe) (od := od) hcl C.hg C.hk C.hs C.ha C.hn C.ht C.hm
  rcases h with ⟨c, cv, b, rfl, k, e1, q⟩ | ⟨tp, cs, ws, b, rfl, hT, k, e1, q⟩
  · obtain ⟨u1, u2, rfl, r1, r2⟩ := vals2 r
    cases (show u1 = Value.ref a from r1)
    have e2 := k.eq r2
    subst e2
    exact PySem.W.kia_one kit I.kIn J e1 (fun z => nomatch z) fun tk => ⟨.bl b, H, I.tok tk, rfl, q⟩
  · obtain ⟨u1, u2, rfl, r1, r2⟩ := vals2 r
    cases (show u1 = Value.ref a from r1)
    cases (show u2 = Value.ref tp from r2)
    obtain ⟨_, its, rv, o, h1, h2, n, h3⟩ := (show ObjOk X.prog X.w H s.heap tp (.tup cs) from I.hok tp _ hT)
    have e3 := ClsV.all k rv
    subst e3
    obtain ⟨oc, od, dt, sl⟩ := o
    simp only at h2 h3
    subst h2 h3
    exact PySem.W.kia_tup kit I.kIn J h1 e1 (fun z => nomatch z) fun tk => ⟨.bl b, H, I.tok tk, rfl, q⟩
def errOf (ex : List Nat) (env : Env') (i : Nat) (f : Nat → Res) : Res := match env[i]? with
  | some (.exc e) => if e.c ∈ ex then f e.c else .stuck
  | _ => .stuck
def eIsE (root : Nat) (ex : List Nat) (i m : Nat) : ME := fun env S => errOf ex env i fun n => .ok (.bl (n == m || m == root)) S false
def eIsV (ex : List Nat) (i : Nat) : ME := fun env S => errOf ex env i fun _ => .ok (.bl true) S false
def eIsT (root : Nat) (ex : List Nat) (i : Nat) (ms : List Nat) : ME := fun env S => errOf ex env i fun n => .ok (.bl (ms.any fun m => n == m || m == root)) S false
section
variable {X : Cx} {cl : Nat → Addr} {W : WX} {a : Addr} {e : Exc} {root : Nat} {ex : List Nat} {pos p : Pos} {n : Str} {q : Pos}
theorem errOf_ok {G : Gam} {σ : L2.St} {H : Hp} {pi rho : List Addr} {env : Env'} {Q : VK} {i : Nat} {f : Nat → Res} (N : REnv G H pi rho σ env) (hx : G.xi = some (a, e)) (h : PostE G W σ H pi rho Q (errOf ex env i f)) :
    σ[i]? = some (some (.ref a)) ∧ e.c ∈ ex ∧ PostE G W σ H pi rho Q (f e.c) ∧ DxAt H e := by
  unfold errOf at h
  split at h
  · rename_i e' eq
    obtain ⟨a', e2, h1, h2, h3⟩ := N.at_ i _ eq
    rw [hx] at h2
    cases h2
    have hc := h3.1
    split at h
    · rename_i hm; rw [← hc] at hm h; exact ⟨h1, hm, h, h3.dx⟩
    · exact h.elim
  · exact h.elim
theorem de_isE (T : ErrTab X.K cl root ex) (hd : Held X cl a e) (i m : Nat) {x : Str} {px : Pos} (hg : Gl X "isinstance") (hm : X.mg "isinstance" = none) (hv : bootBuiltins "isinstance" = some (.builtin "isinstance")) (hc : X.mg x = some (.ref (cl m))) (hmx : m ∈ ex)
    (hN : X.N[i]? = some n := by rfl) (hvis : Vis X.env.scope n := by first | exact Or.inl rfl | exact Or.inr (Or.inl rfl) | exact Or.inr (Or.inr rfl)) (hdb : (n == ("__debug__" : Str)) = false := by decide) (hcd : (n == ("__classdict__" : Str)) = false := by decide)
    (hgx : Gl X x := by rfl) (hdx : (x == ("__debug__" : Str)) = false := by decide) :
    DE X (cl, some (a, e)) W (.Call (.Name "isinstance" p) [.Name n q, .Name x px] [] pos) (eIsE root ex i m) := by
  by_cases hm' : e.c ∈ ex
  · refine PE_weak (pe_callB (call_err (T.is _ hm') (T.cls _ hm').1 hd) hg hm hv (pa_cons (pe_var hN hvis hdb hcd) (pa_cons (pe_glob (v := V.ref (cl m)) hgx hc rfl hdx) pa_nil rfl) rfl) (by decide) (by decide) rfl rfl) fun σ H Q ⟨pi, rho, S, env, R, N, h⟩ => ?_
    obtain ⟨h1, _, h2, hdx⟩ := errOf_ok N rfl h
    exact ⟨_, h1, hdx, .inl ⟨_, _, _, rfl, .own _, T.kit hm' hmx, PostE.fin h2 R (.bl _)⟩⟩
  · exact ⟨fun pins s σ H Q I ⟨pi, rho, S, env, R, N, h⟩ => (hm' (errOf_ok N rfl h).2.1).elim⟩
theorem de_isV (T : ErrTab X.K cl root ex) (hd : Held X cl a e) (i : Nat) {px : Pos} (hg : Gl X "isinstance") (hm : X.mg "isinstance" = none) (hv : bootBuiltins "isinstance" = some (.builtin "isinstance")) (hgx : Gl X "ValueError") (hmv : X.mg "ValueError" = none) (hvv : bootBuiltins "ValueError" = some (.type "ValueError"))
    (hN : X.N[i]? = some n := by rfl) (hvis : Vis X.env.scope n := by first | exact Or.inl rfl | exact Or.inr (Or.inl rfl) | exact Or.inr (Or.inr rfl)) (hdb : (n == ("__debug__" : Str)) = false := by decide) (hcd : (n == ("__classdict__" : Str)) = false := by decide) :
    DE X (cl, some (a, e)) W (.Call (.Name "isinstance" p) [.Name n q, .Name "ValueError" px] [] pos) (eIsV ex i) := by
  by_cases hm' : e.c ∈ ex
  · refine PE_weak (pe_callB (call_err (T.is _ hm') (T.cls _ hm').1 hd) hg hm hv (pa_cons (pe_var hN hvis hdb hcd) (pa_cons (pe_bltn (v := V.ty "ValueError") hgx hmv hvv rfl) pa_nil rfl) rfl) (by decide) (by decide) rfl rfl) fun σ H Q ⟨pi, rho, S, env, R, N, h⟩ => ?_
    obtain ⟨h1, _, h2, hdx⟩ := errOf_ok N rfl h
    exact ⟨_, h1, hdx, .inl ⟨_, _, _, rfl, .ty _, T.kitV hm', PostE.fin h2 R (.bl _)⟩⟩
  · exact ⟨fun pins s σ H Q I ⟨pi, rho, S, env, R, N, h⟩ => (hm' (errOf_ok N rfl h).2.1).elim⟩
end
end DL
/-! Defs that are told the error that is handled; comprehensions there; the except clause. -/
namespace DL
open PySem PySem.Spec PyProof.Rows L2 L2H HotX

/-! ### such a def -/
def eDef (nl : Nat) (body : MS) : Exc → Store → Res := fun e S => match body (.exc e :: List.replicate nl .no) S with
  | .rt d S' fr => finR false S d S' fr
  | .nx _ S' => finR false S .non S' false
  | .exc e _ S' => .exc e (trunc S S')
  | _ => .stuck
structure HotFn (P : Program) (w : World) (K : PySem.W.Frag) (mg : Str → Option Value) (base : Heap) (cl : Nat → Addr) (k : Nat) (f : Addr) (fd : FuncData) (ps : List Str) (F : Exc → Store → Res) : Prop where
  one : ps.length = 1
  run : ∀ (A : Around) (outer : List Env) (s : Shared) (H : Hp) (args : Args) (us : List Value) (Q : VK) (E : XK) (a : Addr) (oe : Obj) (e e' : Exc) (pi rho : List Addr) (S : Store), RoomH k A → A.handled = some (.ref a) → L2N.Zn (.ref (cl e'.c)) (dxOf e') oe → (∃ vs, oe.data = .fields vs) → XAt H pi rho e e' →
    PinOk outer H s (a, oe) → Env0 P w K mg base A outer s H → BindsTo s fd args (ps.zip us) → Vals [.ref a] us → Rel ⟨K, cl, some (a, e')⟩ H pi rho S → PostC ⟨K, cl, some (a, e')⟩ H pi rho Q E (F e S) →
    codeAny (model P w) A (.call (.ref f) args) (CR (L2N.CX P w) outer P w H s Q E) s
section
variable {P : Program} {w : World} {K : PySem.W.Frag} {mg : Str → Option Value} {base : Heap} {cl : Nat → Addr}
theorem hot_ok {x qual : Str} {st : Stmt} {f : Addr} {fd : FuncData} {N ps : List Str} {k nl : Nat} {body : MS} (F : Fun K x qual st f fd) (Sc : FnScope N ps (defScope st)) (hn : ps.length = 1) (hl : N.length = 1 + nl)
    (hb : ∀ (cdv : Value) (A : Around) (outer : List Env) (s : Shared) (H : Hp) (E : XK) (a : Addr) (oe : Obj) (e : Exc), RoomH k (A.deeper (envOfC qual (defScope st) s.heap.objs.size f cdv)) →
      Held (cxH (L2N.CX P w) P w K mg base N qual (defScope st) f cdv A outer s H E (a, oe)) cl a e →
      DSs (cxH (L2N.CX P w) P w K mg base N qual (defScope st) f cdv A outer s H E (a, oe)) (cl, some (a, e)) (fun cls dx _ H' => E cls dx H') (defBody st) body) :
    HotFn P w K mg base cl (k + 1) f fd ps (eDef nl body) := by
  rcases F.ex with ⟨oc, od, kV, doc, pm, an, cdv, ct, osl, rfl, lk, hcd⟩
  refine ⟨hn, fun A outer s H args us Q E a oe e e' pi rho S hr hh hz hf hxa hpin e0 hbd r R h => ?_⟩
  have hlen : ([V.ref a] : List V).length = ps.length := by rw [hn]; rfl
  have KX : K.In s.heap := e0.mod.kin.keeps fun b o q => (e0.bs b o q).1
  have lim : s.heap.NoLimit := e0.mod.nolimit.keeps fun b o q => (e0.bs b o q).1
  have kinds : ∀ y ∈ ps.zip us, (defScope st).names.lookup y.1 = some .local ∨ ((defScope st).names.lookup y.1 = some .cell ∧ ((cellsFrom (s.heap.objs.size + 1) (defScope st).names []).lookup y.1).isSome = true) := fun y hy => by
    obtain ⟨n, v⟩ := y
    exact (Sc.par n (List.of_mem_zip hy).1).elim .inl fun q => .inr ⟨q, PySem.W.cellsFrom_some _ _ _ (.inl q)⟩
  refine codeAny_call_function hr.depth (KX _ _ lk) rfl Sc.co Sc.gen rfl (PySem.W.codeRec_of KX hcd) (hbd _ _ _ _ ?_)
  refine wpAny_newFunctionEnv_cells Sc.kind kinds fun env he s1 x => ?_
  subst he
  refine ⟨lim.keeps x.toInCall.keep, codeAny_func ?_⟩
  have held : Held (cxH (L2N.CX P w) P w K mg base N qual (defScope st) f cdv A outer s H E (a, oe)) cl a e' := ⟨hh, ⟨oe, List.mem_singleton.mpr rfl, hz, hf⟩⟩
  have D := hb cdv A outer s H E a oe e' (hr.deeper _) held
  have I : L2.Inv (cxH (L2N.CX P w) P w K mg base N qual (defScope st) f cdv A outer s H E (a, oe)) [] (L2.start N [V.ref a]) H s1 := inv_startH Sc hpin e0 hlen r x
  have ienv : REnv ⟨K, cl, some (a, e')⟩ H pi rho (L2.start N [V.ref a]) (.exc e :: List.replicate nl .no) := by
    refine ⟨by unfold L2.start; simp; omega, fun i sl q => ?_⟩
    cases i with
    | zero => cases q; exact ⟨a, e', rfl, rfl, hxa⟩
    | succ i =>
      have : sl = .no := List.eq_of_mem_replicate (List.mem_of_getElem? (by simpa using q))
      subst this; trivial
  have hq : tS ⟨K, cl, some (a, e')⟩ (fun cls dx _ H' => E cls dx H') body { nx := fun _ H' => Q .non H', rt := Q } (L2.start N [V.ref a]) H := by
    refine ⟨pi, rho, S, _, R, ienv, ?_⟩
    unfold eDef at h
    cases eb : body (.exc e :: List.replicate nl .no) S with
    | nx env' S' =>
      rw [eb] at h
      exact fun σ' H' pi' R' N' g => finR_ok R h R' .non g fun z => by cases z
    | rt d S' fr =>
      rw [eb] at h
      exact fun v H' pi' R' r' g f => finR_ok R h R' r' g f
    | exc x env' S' =>
      rw [eb] at h
      exact fun σ' cls dx H' pi' R' N' g q => trunc_ok (σ := []) R h R' g q
    | bk env' S' => rw [eb] at h; exact h.elim
    | ct env' S' => rw [eb] at h; exact h.elim
    | stuck => rw [eb] at h; exact h.elim
  refine wpAny_mono (D.run [] s1 (L2.start N [V.ref a]) H _ I hq) (fun fl s' hs => ?_) fun e s' hs => hs
  cases fl with
  | ret u => obtain ⟨v, σ', H', J, rv, q⟩ := hs; exact ⟨v, H', J.os, J.bare, J.base, J.hok, rv, q⟩
  | next => obtain ⟨σ', H', J, q⟩ := hs; exact ⟨.non, H', J.os, J.bare, J.base, J.hok, rfl, q⟩
  | brk => obtain ⟨_, _, _, q⟩ := hs; exact q.elim
  | cont => obtain ⟨_, _, _, q⟩ := hs; exact q.elim
end
def HotDef (P : Program) (w : World) (K : PySem.W.Frag) (mg : Str → Option Value) (base : Heap) (cl : Nat → Addr) (k : Nat) (x : Str) (F : Exc → Store → Res) : Prop :=
  ∃ f fd ps, HotFn P w K mg base cl k f fd ps F ∧ mg x = some (.ref f) ∧ PySem.W.keepIn K (.ref f) = true ∧ Binds K fd ps []
def eCallE (F : Exc → Store → Res) (i : Nat) : ME := fun env S => match env[i]? with
  | some (.exc e) => F e S
  | _ => .stuck
section
variable {X : Cx} {cl : Nat → Addr} {W : WX} {a : Addr} {e : Exc} {j k : Nat} {x n : Str} {p q pos : Pos} {F : Exc → Store → Res}
theorem de_callE (T : HotDef X.prog X.w X.K X.mg X.base cl k x F) (hr : RoomH j X.A) (hk : k ≤ j) (hd : Held X cl a e) (tk : L2N.Takes X W) (i : Nat) (hg : Gl X x := by rfl) (hdb : (x == ("__debug__" : Str)) = false := by decide)
    (hN : X.N[i]? = some n := by rfl) (hvis : Vis X.env.scope n := by first | exact Or.inl rfl | exact Or.inr (Or.inl rfl) | exact Or.inr (Or.inr rfl)) (hdn : (n == ("__debug__" : Str)) = false := by decide) (hcd : (n == ("__classdict__" : Str)) = false := by decide) :
    DE X (cl, some (a, e)) W (.Call (.Name x q) [.Name n p] [] pos) (eCallE F i) := by
  obtain ⟨f, fd, ps, T, hm, hkp, hb⟩ := T
  refine ⟨fun pins s σ H Q I ⟨pi, rho, S, env, R, N, h⟩ => ?_⟩
  unfold eCallE at h
  split at h
  · rename_i e' eq
    obtain ⟨a', e2, h1, h2, hxa⟩ := N.at_ i _ eq
    cases h2
    have ha : PA X [.Name n p] (tCons (tVar i) tNil) := pa_cons (pe_var hN hvis hdn hcd) pa_nil rfl
    refine wpAny_Call_Name_kw (ld_glob I hg hm ?_ hdb)
    refine PySem.W.callWith_K (h₀ := X.base) I.ok.mod.kin hkp (thn (ha.run pos pins s σ H (fun vs H1 => vs = [V.ref a] ∧ H = H1) I ⟨_, h1, rfl, rfl⟩) fun us s1 ⟨vs, H1, I1, r, ev, eH⟩ => ?_) rfl rfl
    subst ev eH
    refine ⟨I1.kIn, ?_⟩
    obtain ⟨hh, ⟨oe, hp, z, hf⟩⟩ := hd
    have P1 := I1.pin (a, oe) (List.mem_append_left _ hp)
    have hpin : PinOk X.stack H s1 (a, oe) := ⟨P1.1, P1.2.1, fun m => (List.mem_cons.mp (I1.stkSub a m)).elim P1.2.2.1 P1.2.2.2.1, P1.2.2.2.2⟩
    have hl : us.length = ps.length := by rw [← r.length, T.one]; rfl
    have b := hb s1 us I1.kIn (by rw [List.append_nil]; exact hl)
    rw [List.append_nil] at b
    refine wpAny_call (codeAny_mono (T.run X.A X.stack s1 H ⟨us, []⟩ us Q (WE W σ) a oe e' e pi rho S (hr.mono hk) hh z hf hxa hpin I1.env0 b r R (PostE.toC h)) fun r s' hq => ?_)
    cases r with
    | error e => exact L2N.passAt tk σ pins H s1 e s' I1 hq
    | ok fl =>
      cases fl with
      | ret u => exact I1.after hq
      | next => exact hq.elim
      | brk => exact hq.elim
      | cont => exact hq.elim
  · exact h.elim
end

/-! ### comprehensions while an error is handled -/
def DIH (X : Cx) (c : Ctx) (W : WX) (tg iter : Expr) (mi : MI) : Prop := ∃ wi, PIH X tg iter wi ∧ DIw X c W wi mi
section
variable {X : Cx} {c : Ctx} {W : WX} {tg e : Expr} {m : ME}
theorem dih_range1 {a : Expr} {ma : ME} {p pos : Pos} (hg : Gl X "range") (hm : X.mg "range" = none) (ha : DA X c W [a] [ma]) (hs : starEach [a] X.env = [(false, eval a X.env)] := by rfl) : DIH X c W tg (.Call (.Name "range" p) [a] [] pos) (iArg fRng1 [ma]) :=
  ⟨_, pi_range1H hg hm ha hs, fun {σ H pi rho S env RR} R N h => rng1_w R N h⟩
def fValH (d : D) (S : Store) : IRes := if wkOf d = .l then fVal d S else .stuck
def iValH (m : ME) : MI := fun env S => (m env S).bindI fValH
end
section
variable {X : Cx} {c : Ctx} {W : WX} {elt tg iter : Expr} {ifs : List Expr} {scope : Scope} {own : List (Str × Nat)} {pos : Pos} {mi : MI} {g : MG} {t : Option ME} {m : ME} {is : List Nat}
theorem ds_setLcH (i : Nat) {y : Str} {py spos : Pos} (hc : HotC X) (hN : X.N.Nodup) (hi : DIH X c W tg iter mi) (ok : BlkOk X.N X.env.scope scope own)
    (hg : ∀ (s : Shared) (H : Hp) (C : Addr) (cl : List (Str × Addr)) (fp : List Addr), DG (Blk X scope s H C cl fp) c tg g is)
    (ht : ∀ (s : Shared) (H : Hp) (C : Addr) (cl : List (Str × Addr)) (fp : List Addr), DIf (Blk X scope s H C cl fp) c ifs t)
    (he : ∀ (s : Shared) (H : Hp) (C : Addr) (cl : List (Str × Addr)) (fp : List Addr), DE (Blk X scope s H C cl fp) c W0 elt m) (his : ∀ i ∈ is, i ∈ own.map (·.2) := by decide)
    (hy : X.N[i]? = some y := by rfl) (hyl : X.env.scope.names.lookup y = some .local := by rfl)
    (hsw : swapsWith (.ListComp elt [⟨tg, iter, ifs, 0⟩] scope pos) (some (.Name y py)) spos.line X.env = pure true := by exact sw_true rfl rfl rfl (by decide +kernel)) (hs : ∀ x, foldedSetIterable iter X.env x = pure x := by intro _; rfl) :
    DS X c W (.Assign [.Name y py] (.ListComp elt [⟨tg, iter, ifs, 0⟩] scope pos) spos) (sSet i (eComp (own.map (·.2)) mi g t m)) := by
  obtain ⟨wi, pi_, k⟩ := hi
  obtain ⟨gT, tt, h2, h3, h4⟩ := comp_lc0 (m := m) k hg his ht
  refine PS_weak (ps_setLcH (i := i) (te := tD (gm X c) W0 m) hc hN hy hyl hsw pi_ ok h2 h3 (fun s H C cl fp => he s H C cl fp) hs) fun D σ H ⟨pi, rho, S, env, R, N, h⟩ => h4 σ H _ ?_
  exact tD.bindS R N h fun v H1 d pi1 S1 fr R1 r1 g1 _ h1 => h1 _ H1 pi1 R1 ((N.mono g1.x).set r1 i) g1
end

/-! ### try: .. except C as n: .. -/
def fClr (i : Nat) : FR → FR
  | .nx env S => .nx ((env.map clr).set i .no) S
  | .bk env S => .bk ((env.map clr).set i .no) S
  | .ct env S => .ct ((env.map clr).set i .no) S
  | .rt d S fr => .rt d S fr
  | _ => .stuck
/-- except C as n; root, ex: the classes; m: C's number; i: n's slot -/
def sTryAs (root : Nat) (ex : List Nat) (m i : Nat) (a b : MS) : MS := fun env S => match a env S with
  | .exc e env1 S1 => if e.c ∈ ex ∧ e.fld = none then (if (e.c == m || m == root) = true then fClr i (b (env1.set i (.exc e)) S1) else .exc e env1 S1) else .stuck
  | r => r
theorem PSs_all {X : Cx} {st : List Stmt} {ι : Type} {t : ι → TS} {p : ι → Prop} (h : ∀ i, p i → PSs X st (t i)) : PSs X st (fun D σ H => ∃ i, p i ∧ t i D σ H) := ⟨fun pins s σ H D I ⟨i, pi, q⟩ => (h i pi).run pins s σ H D I q⟩
section
variable {X : Cx} {cl : Nat → Addr} {W : WX} {root m : Nat} {ex : List Nat} {x n : Str} {body suite : List Stmt} {b₀ : Stmt} {np pos pos' : Pos} {ma mb : MS}
theorem ds_tryAs (T : ErrTab X.K cl root ex) (hmx : m ∈ ex) (hx : X.mg x = some (.ref (cl m))) (hN : X.N.Nodup) (tk : L2N.Takes X W) (i : Nat)
    (hb : ∀ (W : WX) (pn : List (Addr × Obj)) (xe : Value → Shared → Prop), L2N.Takes (X.tr pn xe) W → PassesOwn (model X.prog X.w) X.A X.env xe → DSs (X.tr pn xe) (cl, none) W body ma)
    (hsu : ∀ (a : Addr) (oe : Obj) (e : Exc) (pn : List (Addr × Obj)), Held (X.suite a ((a, oe) :: pn)) cl a e → DSs (X.suite a ((a, oe) :: pn)) (cl, some (a, e)) W0 (b₀ :: suite) mb)
    (hs : X.stack = X.env :: X.outer := by rfl) (hf : X.env.frame = some X.env.locals := by rfl) (hi : X.N[i]? = some n := by rfl) (hln : X.env.kindOf n = some .local := by rfl) (hg : Gl X x := by rfl) (hdb : (x == ("__debug__" : Str)) = false := by decide) :
    DS X (cl, none) W (.Try body [.ExceptHandler (some (.Name x np)) (some n) (b₀ :: suite) pos'] [] [] pos) (sTryAs root ex m i ma mb) := by
  refine PS_weak (L2N.ps_try_as (c := .ref (cl m)) (Wout := W) (tb := fun W => tS (gm X (cl, none)) W ma) (ts := fun a cls d D σ H => ∃ e : Exc, (cls = .ref (cl e.c) ∧ d = none ∧ e.fld = none) ∧ tS ⟨X.K, cl, some (a, e)⟩ W0 mb D σ H) hs hf hN hi hln ⟨hg, hdb, .inl hx⟩ tk (fun W pn xe t p => hb W pn xe t p)
    (fun a oe cls d pn hz hfv => PSs_all fun e ⟨h1, h2, h3⟩ => hsu a oe e pn ⟨rfl, ⟨oe, List.mem_cons_self, by subst h1 h2; unfold dxOf; rw [h3]; exact hz, hfv⟩⟩)) fun D σ H ⟨pi, rho, S, env, R, N, h⟩ => ?_
  refine ⟨pi, rho, S, env, R, N, ?_⟩
  unfold sTryAs at h
  cases e1 : ma env S with
  | nx env' S' => rw [e1] at h; exact h
  | bk env' S' => rw [e1] at h; exact h
  | ct env' S' => rw [e1] at h; exact h
  | rt d S' fr => rw [e1] at h; exact h
  | stuck => rw [e1] at h; exact h
  | exc e env1 S1 =>
    rw [e1] at h
    have h : PostS (gm X (cl, none)) W D H pi rho (if e.c ∈ ex ∧ e.fld = none then (if (e.c == m || m == root) = true then fClr i (mb (env1.set i (.exc e)) S1) else .exc e env1 S1) else .stuck) := h
    split at h
    · rename_i hce
      obtain ⟨hce, hfe⟩ := hce
      intro σ1 cls dx H1 pi1 R1 N1 g1 rx
      obtain ⟨rc, rd⟩ := rx
      rw [hfe] at rd
      refine ⟨e.c == m || m == root, by rw [rc]; exact T.exm hce hmx, fun hyes a na => ?_, fun hno => ?_⟩
      · rw [if_pos hyes] at h
        refine ⟨e, ⟨rc, rd, hfe⟩, pi1, rho, S1, env1.set i (.exc e), R1.xi, (N1.xi0 (x2 := some (a, e))).setX ⟨rfl, by rw [hfe]⟩ i, ?_⟩
        cases e2 : mb (env1.set i (.exc e)) S1 with
        | nx env2 S2 =>
          rw [e2] at h
          exact fun σ2 H2 pi2 R2 N2 g2 => h (σ2.set i none) H2 pi2 R2.xi (N2.clr.setNo i none) (g1.trans g2)
        | bk env2 S2 =>
          rw [e2] at h
          exact fun σ2 H2 pi2 R2 N2 g2 => h (σ2.set i none) H2 pi2 R2.xi (N2.clr.setNo i none) (g1.trans g2)
        | ct env2 S2 =>
          rw [e2] at h
          exact fun σ2 H2 pi2 R2 N2 g2 => h (σ2.set i none) H2 pi2 R2.xi (N2.clr.setNo i none) (g1.trans g2)
        | rt d S2 fr =>
          rw [e2] at h
          exact fun v H2 pi2 R2 r2 g2 f2 => h v H2 pi2 R2.xi r2.xi (g1.trans g2) fun z => ((f2 z).base g1).xi
        | exc e3 env2 S2 => rw [e2] at h; exact h.elim
        | stuck => rw [e2] at h; exact h.elim
      · rw [if_neg (by rw [hno]; exact Bool.false_ne_true)] at h
        exact h σ1 cls dx H1 pi1 R1 N1 g1 ⟨rc, by rw [hfe]; exact rd⟩
    · exact h.elim
def fClr0 : FR → FR
  | .nx env S => .nx (env.map clr) S
  | .bk env S => .bk (env.map clr) S
  | .ct env S => .ct (env.map clr) S
  | .rt d S fr => .rt d S fr
  | _ => .stuck
def pickH (root c : Nat) : List (Nat × MS) → Option MS
  | [] => none
  | (m, b) :: r => if (c == m || m == root) = true then some b else pickH root c r
def sTryM (root : Nat) (ex : List Nat) (a : MS) (bs : List (Nat × MS)) : MS := fun env S => match a env S with
  | .exc e env1 S1 => if e.c ∈ ex ∧ e.fld = none then (match pickH root e.c bs with
    | some b => fClr0 (b env1 S1)
    | none => .exc e env1 S1) else .stuck
  | r => r
end
end DL
namespace DL
open PySem PySem.Spec PyProof.Rows L2 L2H
abbrev xall13 : List Nat := [0, 1, 2, 3, 4, 5, 6, 7, 8, 9, 10, 11, 12]
theorem roomS {k : Nat} {A : Around} (hr : Room k A) {v : Option Value} : RoomH k (A.mark v) := ⟨hr.dp, hr.un⟩
/-- the classes of errors, told at once: the first is the one above all -/
def errB (K : PySem.W.Frag) (Cs : List Addr) : Bool :=
  (Cs.all fun D => PySem.W.findIn K (.ref D) "__getattribute__" == some (some (.builtin "BaseException.__getattribute__")) && (PySem.W.findIn K (.ref D) "__getattr__" == some none && (PySem.W.subIn K (.ref D) (.type "BaseException") == some true &&
    (PySem.W.hasDictIn K D && (PySem.W.findIn K (.ref D) "__class__" == some (some (.builtin "object.__class__")) && (PySem.W.specialIn K (.builtin "object.__class__") "__get__" == some (some (.builtin "getset_descriptor.__get__")) &&
    (PySem.W.takesIn K (.builtin "object.__class__") == some true && (PySem.W.mroIn K D (.type "object") == some true && (PySem.W.subIn K (.ref D) (.type "ValueError") == some true && ((PySem.W.clsIn K D).isSome && PySem.W.typeIn K (.ref D) == some (.type "type"))))))))))) &&
  (List.range Cs.length).all fun n => (List.range Cs.length).all fun m => PySem.W.subIn K (.ref (Cs.getD n 0)) (.ref (Cs.getD m 0)) == some (n == m || m == 0)
theorem errTab_of {K : PySem.W.Frag} {Cs : List Addr} (l : Nat) (h : errB K (Cs.take l) = true) (hl : l ≤ Cs.length := by exact Nat.le_of_ble_eq_true rfl) : ErrTab K (fun n => Cs.getD n 0) 0 (List.range l) := by
  have tl : (Cs.take l).length = l := by rw [List.length_take]; omega
  unfold errB at h
  rw [Bool.and_eq_true] at h
  obtain ⟨h1, h2⟩ := h
  rw [List.all_eq_true] at h1 h2
  rw [tl] at h2
  have at_ : ∀ n, n < l → (Cs.take l).getD n 0 = Cs.getD n 0 := fun n hn => by
    rw [List.getD_eq_getElem?_getD, List.getD_eq_getElem?_getD, List.getElem?_take_of_lt hn]
  have one : ∀ n, n ∈ List.range l → Cs.getD n 0 ∈ Cs.take l := fun n hn => by
    have hn := List.mem_range.mp hn
    rw [← at_ n hn, List.getD_eq_getElem?_getD, List.getElem?_eq_getElem (by omega)]
    exact List.getElem_mem _
  have all : ∀ n, n ∈ List.range l → _ := fun n hn => h1 _ (one n hn)
  simp only [Bool.and_eq_true, beq_iff_eq] at all
  refine ⟨fun n hn => ?_, fun n hn m hm => ?_, fun n hn => ?_, fun n hn => ?_⟩
  · obtain ⟨a1, a2, a3, a4, a5, a6, a7, a8, _⟩ := all n hn
    exact ⟨a1, a2, a3, a4, a5, a6, a7, a8⟩
  · have := h2 n hn
    rw [List.all_eq_true] at this
    have := this m hm
    rw [beq_iff_eq, at_ n (List.mem_range.mp hn), at_ m (List.mem_range.mp hm)] at this
    exact this
  · exact (all n hn).2.2.2.2.2.2.2.2.1
  · exact ⟨(all n hn).2.2.2.2.2.2.2.2.2.1, (all n hn).2.2.2.2.2.2.2.2.2.2⟩

/-! ### a text times an int -/
def vMulS : D → D → Store → Res
  | .str x, .int k, S => if 0 < x.length ∧ 1 ≤ k ∧ k ≤ 1000 ∧ x.length ≤ 1000 then .ok (.str (Txt.mul x k)) S false else .stuck
  | x, y, S => vMul x y S
def rMulS : R2 := fun x y H Q => ∃ (z : Str) (k : Int), x = .str z ∧ y = .int k ∧ MulOk z k ∧ Q (.str (Txt.mul z k)) H
theorem op_mulS {X : Cx} : OpR X (binaryOp .Mult) rMulS := by
  intro pins s σ H x y v u Q I rx ry h
  obtain ⟨z, k, rfl, rfl, hz, q⟩ := h
  obtain ⟨t, rfl⟩ := rx
  obtain ⟨t', rfl⟩ := ry
  exact SB.mul hz fun t2 k2 => ⟨.str (Txt.mul z k), H, I.tok _, ⟨_, rfl⟩, q⟩
theorem foldl_cps (c : Array Nat) : ∀ (n : Nat) (a : Array Nat), ((List.replicate n c).foldl (· ++ ·) a).toList = a.toList ++ (List.replicate n c.toList).flatten
  | 0, a => by simp
  | n + 1, a => by
    rw [List.replicate_succ, List.foldl_cons, foldl_cps c n, List.replicate_succ, List.flatten_cons, Array.toList_append, List.append_assoc]
theorem mul_tl {x : Str} {k : Int} (h : 1 ≤ k) (hx : 0 < x.length) : (Txt.mul x k).cps.toList = (List.replicate k.toNat x.cps.toList).flatten := by
  unfold Txt.mul
  rw [if_neg (by omega)]
  by_cases h1 : k = 1
  · subst h1
    rw [if_pos (by simp)]; simp
  · rw [if_neg (by simp; omega)]
    show ((List.replicate k.toNat x.cps).foldl (· ++ ·) #[]).toList = _
    rw [foldl_cps]; rfl
theorem vMulS_ok {G : Gam} : OpS G (fun x y H Q => rMulS x y H Q ∨ (rI CMul (fun i j => .int (i * j)) x y H Q ∨ rRep x y H Q)) vMulS := by
  intro W σ H pi rho S x y dx dy Q R rx ry h
  unfold vMulS at h
  split at h
  · rename_i z k
    split at h
    · rename_i hc
      obtain ⟨h0, h1, h2, h3⟩ := hc
      cases rx with | str ho =>
      cases ry
      refine .inl ⟨_, _, rfl, rfl, ⟨?_, fun _ _ => ?_, fun _ _ => ?_⟩, h.fin R (.str (strOk_of fun c hc => ?_))⟩
      · simp; omega
      · have e : ((2 : Int) ^ 63 - 1) / k ≥ 1000 := (Int.le_ediv_iff_mul_le (by omega)).mpr (by omega)
        omega
      · unfold Builtin.Str.tooLong
        have : z.length * k.toNat ≤ 1000 * 1000 := Nat.mul_le_mul h3 (by omega)
        simp [sizeLine_eq]; omega
      · rw [mul_tl h1 h0] at hc
        obtain ⟨l, hl, hc⟩ := List.mem_flatten.mp hc
        rw [List.eq_of_mem_replicate hl] at hc
        exact strOk_mem ho c hc
    · exact h.elim
  · exact .inr (vMul_ok W σ H pi rho _ x y _ _ Q R rx ry h)
end DL
/-! A dict is in no list of texts. -/
namespace DL
open PySem PySem.Spec PyProof.Rows L2 L2H PySem.SeqAt
section
variable {l : Addr} {es : Array DictEntry} {ep : Nat} {dd : Option Addr} {sl : Array (Option Value)} {b : Str} {u : Tok}
theorem dict_declines_str : Meets (Builtin.«dict.__eq__» ⟨[.ref l, .str b u], []⟩) (fun _ R s => s.heap.get? l = some { cls := .type "dict", dict := dd, data := .dict es ep, slots := sl } ∧ R (.ok (.ret .notImplemented)) s) :=
  .of_wp fun prog w A R s h => by obtain ⟨hp, g, d, tk, os⟩ := s; obtain ⟨hl, h⟩ := h; have f1 := F.sub_str_dict; wp_walk using wpAny_loadPart' hl; exact ⟨_, rfl, h⟩
theorem str_declines_dict : Meets (Builtin.«str.__eq__» ⟨[.str b u, .ref l], []⟩) (fun _ R s => s.heap.get? l = some { cls := .type "dict", dict := dd, data := .dict es ep, slots := sl } ∧ R (.ok (.ret .notImplemented)) s) :=
  .of_wp fun prog w A R s h => by obtain ⟨hp, g, d, tk, os⟩ := s; obtain ⟨hl, h⟩ := h; wp_walk using wpAny_loadPart' hl, wpAny_load hl; exact ⟨_, rfl, h⟩
theorem str_no_dict {A : Around} {s : Shared} (hl : s.heap.get? l = some { cls := .type "dict", dict := dd, data := .dict es ep, slots := sl }) (hu : A.units < cLine) : EqAt A s (.str b u) (.ref l) false := fun prog w E Q h => by
  unfold eqBool
  refine wpAny_holding (wpAny_ite_split (fun hab => absurd (eq_of_beq hab) nofun) fun _ => ?_)
  refine wpAny_bind (rc_eq_decline_or (k := false) (typeIs_str s b u) ⟨_, hl, rfl⟩ (by decide) F.sub_dict_str F.slot_str_eq F.slot_dict_eq_refl ?_ ?_ (fun _ hq => wpAny_of_eq (rfl : isSame (.str b u) (.ref l) = pure false) hq) (.inr hu) (wpAny_truthy_bool h))
  · exact fun _ hq => call_meets F.slot_str_eq (typeIs_str s b u) F.entry_str_eq (F.args_str_eq_2 _ _) str_declines_dict ⟨hl, hq⟩
  · exact fun _ hq => call_meets F.slot_dict_eq_refl ⟨_, hl, rfl⟩ F.entry_dict_eq (F.args_dict_eq_2 _ _) dict_declines_str ⟨hl, hq⟩
end
def rInDS (K : PySem.W.Frag) (neg : Bool) : R2 := fun x y H Q => ∃ (a b : Addr) (ks : List (Key × V)) (vs : List V), x = .ref a ∧ H a = some (.dK ks) ∧ y = .ref b ∧ SqL K H b vs ∧ (∀ v ∈ vs, ∃ s, v = .str s) ∧ Q (.bl neg) H
section
variable {X : Cx}
theorem inDS_core {pins : List (Addr × Obj)} {σ : L2.St} {H : Hp} {s : Shared} (hu : X.A.units + 65 < cLine) (I : L2.Inv X pins σ H s) {a b : Addr} {ks : List (Key × V)} {vs : List V} (ha : H a = some (.dK ks)) (hb : SqL X.K H b vs) (hs : ∀ v ∈ vs, ∃ s, v = .str s) :
    ∃ items, s.heap.IsList b items ∧ ∀ y, y ∈ items → EqAt X.A.in1 s y (.ref a) false := by
  obtain ⟨its, rv, p, hz⟩ := I.list hb
  refine ⟨_, p.isList, fun y hy => ?_⟩
  obtain ⟨_, _, ws, _, o, es, ep, h1, h2, h3, _⟩ := (show ObjOk X.prog X.w H s.heap a (.dK ks) from I.hok a _ ha)
  obtain ⟨oc, od, dt, sl⟩ := o
  obtain ⟨i1, i2, i3⟩ := h2
  simp only at h3 i1
  subst h3 i1
  obtain ⟨j, hj⟩ := List.getElem?_of_mem (show y ∈ its by simpa using hy)
  have hl := rv.length
  have hj' : j < vs.length := by rw [hl]; exact (List.getElem?_eq_some_iff.mp hj).1
  obtain ⟨u, hu2, ru⟩ := rv.get (List.getElem?_eq_getElem hj')
  rw [hj] at hu2
  cases hu2
  obtain ⟨z, ez⟩ := hs _ (List.getElem_mem hj')
  rw [ez] at ru
  obtain ⟨t, rfl⟩ := ru
  exact str_no_dict h1 (by show X.A.units + 1 < cLine; omega)
theorem op_inDS (hu : X.A.units + 65 < cLine) : OpR X (compareOp .In) (rInDS X.K false) := by
  intro pins s σ H x y v u Q I rx ry ⟨a, b, ks, vs, ex, ha, ey, hb, hs, q⟩
  subst ex ey
  cases rx; cases ry
  obtain ⟨items, hl, he⟩ := inDS_core hu I ha hb hs
  exact in_listAt (fun _ => false) hl he ⟨.bl false, H, I, by simp [L2.RelV], q⟩
end
def isS : D → Bool
  | .str _ => true
  | _ => false
def vInX (neg : Bool) (x y : D) (S : Store) : Res := match x with
  | .dct kvs => (match lstOf S y with
    | some ys => if ys.all isS = true then inRes neg false S else .stuck
    | none => .stuck)
  | x => vIn neg x y S
theorem vInX_ok {G : Gam} {neg : Bool} : OpS G (fun x y H Q => rInDS G.K neg x y H Q ∨ rInU G.K neg x y H Q) (vInX neg) := by
  intro W σ H pi rho S x y dx dy Q R rx ry h
  unfold vInX at h
  split at h
  · split at h
    · rename_i e
      split at h
      · rename_i hs
        obtain ⟨b, vs, rfl, h1, z, q⟩ := lstOf_ok R ry e
        cases rx with | dct hd _ _ _ _ =>
        refine .inl ⟨_, b, _, vs, rfl, hd, rfl, .inl (.inl h1), fun v hv => ?_, ?_⟩
        · obtain ⟨i, hi⟩ := List.getElem?_of_mem hv
          obtain ⟨d, hd, r⟩ := q.get' hi
          have := (List.all_eq_true.mp hs) d (List.mem_of_getElem? hd)
          cases d with
          | str w => cases r; exact ⟨_, rfl⟩
          | _ => cases this
        · have := PostE.fin h R (.bl _)
          cases neg <;> exact this
      · exact h.elim
    · exact h.elim
  · exact .inr (vIn_ok W σ H pi rho S x y _ dy Q R rx ry h)
end DL
/-! Sets of texts that are sorted or counted at once; sorted lists of data. -/
namespace DL
open PySem PySem.Spec PyProof.Rows L2

section
variable {P : Program} {w : World} {h h' : Heap} {a : Addr} {ks : List Str}
end
section
variable {P : Program} {w : World} {A : Around} {E : Value → Shared → Prop} {s : Shared} {a : Addr} {ks : List Str}
/-! ### set(xs) of a list of texts -/
end
end DL
namespace DL
open PySem PySem.Spec PyProof.Rows L2
open PySem.W (dataLe AllAlike Sortable alike EachIs sorted_data list_sort_data sort_maps dataLe_str)

/-! ### sorted(xs) of a list of data -/
section
variable {X : Cx}
end
section
variable {G : Gam} {H : Hp} {pi rho : List Addr}
end
/-! ### len(set(xs)), sorted(set(xs)) of a list of texts -/
def strLe (a b : Str) : Bool := decide (a.cps.toList ≤ b.cps.toList)
section
variable {X : Cx}
end
section
variable {G : Gam} {H : Hp} {pi rho : List Addr} {S : Store} {x : V} {dx : D} {ks : List Str}
end
section
variable {X : Cx} {c : Ctx} {W : WX} {a : Expr} {ma : ME} {p p2 q pos : Pos}
end
end DL
namespace DL
open PySem PySem.Spec PyProof.Rows L2

/-! ### slices of lists with a step -/
def pickL {α : Type} (xs : List α) (lo hi st : Option Int) : List α := (sliceRange (sliceBounds lo hi st xs.length).1 (sliceBounds lo hi st xs.length).2.1 (sliceBounds lo hi st xs.length).2.2).filterMap (xs[·]?)
section
variable {X : Cx} {e : Expr} {te : TE} {lo hi st : Option Expr} {tl th tk : TO} {pos p2 : Pos}
end
def vSlice3 (x : D) (lo hi st : Option Int) (S : Store) : Res := if st = some 0 then .stuck else match seqL S x with
  | some xs => .ok (.lst (pickL xs lo hi st)) S true
  | none => .stuck
where
  seqL (S : Store) : D → Option (List D)
  | .scr ns => some (ns.map .int)
  | x => lstOf S x
def eSlice3 (a : ME) (lo hi st : Option ME) : ME := fun env S => (a env S).bind fun x S1 _ => ePart lo env S1 fun l S2 => ePart hi env S2 fun u S3 => ePart st env S3 fun k S4 => vSlice3 x l u k S4
section
variable {X : Cx} {c : Ctx} {W : WX} {a : Expr} {ma : ME} {pos p2 : Pos} {lo hi st : Option Expr} {ml mh mk : Option ME}
end
theorem pick_rev {α : Type} (xs : List α) : pickL xs none none (some (-1)) = xs.reverse := by
  unfold pickL
  rw [PySem.W.krv_bounds]
  show ((sliceRange ((xs.length : Int) - 1) (-1) (-1)).filterMap (xs[·]?)) = _
  rw [PySem.W.krv_sliceRange, PySem.W.krv_range, List.filterMap_reverse]
  have := PySem.W.krv_all xs.toArray
  simp only [List.size_toArray, List.getElem?_toArray] at this
  rw [this]
end DL
namespace DL
open PySem PySem.Spec PyProof.Rows L2

/-! ### list(range(n)), min(i, j), max(i, j), tuple(xs) -/
def vLstRng (x : D) (S : Store) : Res := match x with
  | .int n => if -(2 ^ 61) ≤ n ∧ n ≤ 16777216 then .ok (.lst (rngL 0 n.toNat)) S true else .stuck
  | _ => .stuck
section
variable {X : Cx} {c : Ctx} {W : WX} {a : Expr} {ma : ME} {p p2 q pos : Pos}
end
def vMin2 : MF
  | [.int i, .int j], S => .ok (.int (if j < i then j else i)) S false
  | _, _ => .stuck
def vMax2 : MF
  | [.int i, .int j], S => .ok (.int (if j > i then j else i)) S false
  | _, _ => .stuck
def vTuple : MF
  | [x], S => match x with
    | .tup xs => .ok (.tup xs) S false
    | x => match lstOf S x with
      | some xs => .ok (.tup xs) S false
      | none => .stuck
  | _, _ => .stuck
end DL
namespace DL
open PySem PySem.Spec PyProof.Rows L2
/-! ### tuples of whole numbers, compared -/
def intsOfD : List D → Option (List Int)
  | [] => some []
  | .int i :: r => (intsOfD r).map (i :: ·)
  | _ :: _ => none
def vLtX (x y : D) (S : Store) : Res := match x, y with
  | .tup xs, .tup ys => match intsOfD xs, intsOfD ys with
    | some ns, some ms => .ok (.bl (HT.lexLt ns ms)) S false
    | _, _ => .stuck
  | x, y => vLt x y S
end DL
namespace DL
open PySem PySem.Spec PyProof.Rows L2
open PySem.W (minD AlikeAll alike min_list_data)
/-! ### min(xs) of a list of tuples of whole numbers -/
end DL
namespace DL
open PySem PySem.Spec PyProof.Rows L2
/-! ### == of lists of unlike lengths, whatever is in them -/
end DL
/-! Plain steps: what the readings answer. -/
namespace DL
open PySem L2
abbrev KE := Exc → Store → Prop
abbrev KV' := D → Store → Bool → Prop
abbrev KS := Env' → Store → Prop
abbrev KX := Exc → Env' → Store → Prop
abbrev NoE : KE := fun _ _ => False
/-- a mark that keeps simp out of what is asked behind -/
structure Tg {α : Type} (a : α) : Type where
/-- the answer is a value, of which P, or an error, of which E -/
def Ok (E : KE) (r : Res) (P : KV') (_ : Tg (E, P) := ⟨⟩) : Prop := match r with
  | .ok d S fr => P d S fr
  | .exc e S => E e S
  | _ => False
/-- a body's end -/
structure KB where
  nx : KS
  bk : KS
  ct : KS
  rt : KV'
  ex : KX
def OkS (K : KB) (r : FR) (_ : Tg K := ⟨⟩) : Prop := match r with
  | .nx e S => K.nx e S
  | .bk e S => K.bk e S
  | .ct e S => K.ct e S
  | .rt d S fr => K.rt d S fr
  | .exc x e S => K.ex x e S
  | .stuck => False
def OkA (E : KE) (r : ARes) (P : List D → Store → Prop) (_ : Tg (E, P) := ⟨⟩) : Prop := match r with
  | .ok ds S => P ds S
  | .exc e S => E e S
  | .stuck => False
section
variable {E : KE} {P P' : KV'} {K : KB} {env : Env'} {S : Store} {Q : List D → Store → Prop}
@[simp] theorem ok_ok {d : D} {fr : Bool} : Ok E (.ok d S fr) P ↔ P d S fr := Iff.rfl
@[simp] theorem ok_exc {e : Exc} : Ok E (.exc e S) P ↔ E e S := Iff.rfl
@[simp] theorem ok_stuck : Ok E .stuck P ↔ False := Iff.rfl
@[simp] theorem ok_ite {c : Prop} [Decidable c] {r : Res} : Ok E (if c then r else .stuck) P ↔ c ∧ Ok E r P := by
  by_cases h : c <;> simp [h]
@[simp] theorem ok_bind {r : Res} {f : D → Store → Bool → Res} : Ok E (r.bind f) P ↔ Ok E r fun d S fr => Ok E (f d S fr) P := by cases r <;> exact Iff.rfl
@[simp] theorem oka_ok {d : List D} : OkA E (.ok d S) Q ↔ Q d S := Iff.rfl
@[simp] theorem oka_bind {r : ARes} {f : List D → Store → Res} : Ok E (r.bind f) P ↔ OkA E r fun d S => Ok E (f d S) P := by cases r <;> exact Iff.rfl
@[simp] theorem oka_nil : OkA E (eArgs [] env S) Q ↔ Q [] S := Iff.rfl
@[simp] theorem oka_cons {m : ME} {ms : List ME} : OkA E (eArgs (m :: ms) env S) Q ↔ Ok E (m env S) fun d S _ => OkA E (eArgs ms env S) fun ds S => Q (d :: ds) S := by
  have : eArgs (m :: ms) env S = (m env S).binda fun d S1 => (eArgs ms env S1).cons d := rfl
  rw [this]
  cases m env S with
  | ok d S1 fr =>
    show OkA E ((eArgs ms env S1).cons d) Q ↔ OkA E (eArgs ms env S1) _
    cases eArgs ms env S1 <;> exact Iff.rfl
  | _ => exact Iff.rfl
theorem Ok.mono {E' : KE} {r : Res} (h : Ok E r P) (k : ∀ d S fr, P d S fr → P' d S fr) (x : ∀ e S, E e S → E' e S) : Ok E' r P' := by
  cases r with
  | ok d S fr => exact k _ _ _ h
  | exc e S => exact x _ _ h
  | _ => exact h
theorem ok_cg {r : Res} (h : ∀ d S fr, P d S fr ↔ P' d S fr) : Ok E r P ↔ Ok E r P' := by
  cases r with
  | ok d S fr => exact h _ _ _
  | _ => exact Iff.rfl
theorem oka_cg {Q' : List D → Store → Prop} {r : ARes} (h : ∀ d S, Q d S ↔ Q' d S) : OkA E r Q ↔ OkA E r Q' := by
  cases r with
  | ok d S => exact h _ _
  | _ => exact Iff.rfl
/-- a call that refuses nothing -/
theorem Ok.call {r : Res} (h : Ok NoE r P) (k : ∀ d S fr, P d S fr → P' d S fr) : Ok E r P' := h.mono k fun _ _ => False.elim
/-! ### expressions -/
@[simp] theorem ok_var {i : Nat} : Ok E (eVar i env S) P ↔ ∃ d, env[i]? = some (.val d) ∧ P d S false := by
  unfold eVar
  split
  · rename_i d e
    simp [e]
  · rename_i h
    simp only [ok_stuck, false_iff, not_exists, not_and]
    exact fun d e => (h d e).elim
@[simp] theorem ok_c {d : D} : Ok E (eC d env S) P ↔ P d S false := Iff.rfl
@[simp] theorem ok_ebin {f : D → D → Store → Res} {a b : ME} : Ok E (eBin f a b env S) P ↔ Ok E (a env S) fun x S1 _ => Ok E (b env S1) fun y S2 _ => Ok E (f x y S2) P := by
  unfold eBin; rw [ok_bind]; exact ok_cg fun _ _ _ => ok_bind
@[simp] theorem ok_eun {f : D → Store → Res} {a : ME} : Ok E (eUn f a env S) P ↔ Ok E (a env S) fun x S1 _ => Ok E (f x S1) P := by
  unfold eUn; simp only [ok_bind]
@[simp] theorem ok_onB {b : Bool} {t u : Res} : Ok E (onB (.bl b) t u) P ↔ if b = true then Ok E t P else Ok E u P := by cases b <;> simp
@[simp] theorem ok_and {a b : ME} : Ok E (eAnd a b env S) P ↔ Ok E (a env S) fun x S1 _ => Ok E (onB x (b env S1) (.ok (.bl false) S1 false)) P := by
  unfold eAnd; simp only [ok_bind]
@[simp] theorem ok_or {a b : ME} : Ok E (eOr a b env S) P ↔ Ok E (a env S) fun x S1 _ => Ok E (onB x (.ok (.bl true) S1 false) (b env S1)) P := by
  unfold eOr; simp only [ok_bind]
@[simp] theorem ok_not {a : ME} : Ok E (eNot a env S) P ↔ Ok E (a env S) fun x S1 _ => Ok E (onB x (.ok (.bl false) S1 false) (.ok (.bl true) S1 false)) P := by
  unfold eNot; simp only [ok_bind]
@[simp] theorem ok_ifE {t a b : ME} : Ok E (eIfE t a b env S) P ↔ Ok E (t env S) fun x S1 _ => Ok E (onB x (a env S1) (b env S1)) P := by
  unfold eIfE; simp only [ok_bind]
@[simp] theorem ok_chain {f g : D → D → Store → Res} {a b c : ME} : Ok E (eChain f g a b c env S) P ↔
    Ok E (a env S) fun x S1 _ => Ok E (b env S1) fun y S2 _ => Ok E (f x y S2) fun z S3 _ => Ok E (onB z ((c env S3).bind fun w S4 _ => g y w S4) (.ok (.bl false) S3 false)) P := by
  unfold eChain; rw [ok_bind]; exact ok_cg fun _ _ _ => ok_bind.trans (ok_cg fun _ _ _ => ok_bind)
@[simp] theorem ok_tup {ms : List ME} : Ok E (eTup ms env S) P ↔ OkA E (eArgs ms env S) fun ds S1 => P (.tup ds) S1 false := by unfold eTup; rw [oka_bind]; exact Iff.rfl
@[simp] theorem ok_lst {ms : List ME} : Ok E (eLst ms env S) P ↔ OkA E (eArgs ms env S) fun ds S1 => P (.lst ds) S1 true := by unfold eLst; rw [oka_bind]; exact Iff.rfl
@[simp] theorem ok_callF {F : MF} {ms : List ME} : Ok E (eCallF F ms env S) P ↔ OkA E (eArgs ms env S) fun ds S1 => Ok E (F ds S1) P := by unfold eCallF; simp only [oka_bind]
@[simp] theorem ok_dct0 : Ok E (eDct0 env S) P ↔ P (.dct []) S true := Iff.rfl
@[simp] theorem ok_dctT : Ok E (eDctT env S) P ↔ P (.ref S.length) (S ++ [.dct true []]) false := Iff.rfl
@[simp] theorem ok_dct {ps : List (ME × ME)} : Ok E (eDct ps env S) P ↔ OkA E (eArgs (flat2 ps) env S) fun ds S1 => keysAll (prs ds) = true ∧ P (.dct (putAll [] (prs ds))) S1 true := by unfold eDct; rw [oka_bind]; exact oka_cg fun _ _ => ok_ite
@[simp] theorem ok_thaw {a : ME} : Ok E (eThaw a env S) P ↔ Ok E (a env S) fun d S1 fr => Ok E (thawR d S1 fr) P := by unfold eThaw; simp only [ok_bind]
@[simp] theorem ok_bm {ok : D → Store → Bool} {F : D → List D → Store → Res} {a : ME} {ms : List ME} : Ok E (eBM ok F a ms env S) P ↔ Ok E (a env S) fun x S1 _ => ok x S1 = true ∧ OkA E (eArgs ms env S1) fun ds S2 => Ok E (F x ds S2) P := by
  unfold eBM; rw [ok_bind]; exact ok_cg fun _ _ _ => ok_ite.trans (and_congr_right fun _ => oka_bind)
@[simp] theorem ok_slice {a : ME} {lo hi : Option ME} : Ok E (eSlice a lo hi env S) P ↔ Ok E (a env S) fun x S1 _ => Ok E (ePart lo env S1 fun l S2 => ePart hi env S2 fun u S3 => vSlice x l u S3) P := by
  unfold eSlice; simp only [ok_bind]
@[simp] theorem ok_part0 {f : Option Int → Store → Res} : Ok E (ePart none env S f) P ↔ Ok E (f none S) P := Iff.rfl
@[simp] theorem ok_part1 {m : ME} {f : Option Int → Store → Res} : Ok E (ePart (some m) env S f) P ↔ Ok E (m env S) fun x S1 _ => ∃ i, x = .int i ∧ Ok E (f (some i) S1) P := by
  unfold ePart; simp only [ok_bind]
  cases m env S with
  | ok d S1 fr =>
    simp only [ok_ok]
    cases d <;> simp
  | _ => exact Iff.rfl
/-! ### statements -/
@[simp] theorem oks_nx {e : Env'} : OkS K (.nx e S) ↔ K.nx e S := Iff.rfl
@[simp] theorem oks_rt {d : D} {fr : Bool} : OkS K (.rt d S fr) ↔ K.rt d S fr := Iff.rfl
@[simp] theorem oks_bk {e : Env'} : OkS K (.bk e S) ↔ K.bk e S := Iff.rfl
@[simp] theorem oks_ct {e : Env'} : OkS K (.ct e S) ↔ K.ct e S := Iff.rfl
@[simp] theorem oks_exc {e : Env'} {x : Exc} : OkS K (.exc x e S) ↔ K.ex x e S := Iff.rfl
@[simp] theorem oks_stuck : OkS K .stuck ↔ False := Iff.rfl
@[simp] theorem oks_bind {r : Res} {f : D → Store → Bool → FR} : OkS K (r.bindS env f) ↔ Ok (fun x S => K.ex x env S) r fun d S fr => OkS K (f d S fr) := by cases r <;> exact Iff.rfl
@[simp] theorem oks_seq {a b : MS} : OkS K (sSeq a b env S) ↔ OkS { K with nx := fun e S => OkS K (b e S) } (a env S) := by
  unfold sSeq
  cases a env S <;> exact Iff.rfl
@[simp] theorem oks_pass : OkS K (sPass env S) ↔ K.nx env S := Iff.rfl
@[simp] theorem oks_brk : OkS K (sBrk env S) ↔ K.bk env S := Iff.rfl
@[simp] theorem oks_cnt : OkS K (sCt env S) ↔ K.ct env S := Iff.rfl
@[simp] theorem oks_expr {m : ME} : OkS K (sExpr m env S) ↔ Ok (fun x S => K.ex x env S) (m env S) fun _ S _ => K.nx env S := by
  unfold sExpr; rw [oks_bind]; exact Iff.rfl
@[simp] theorem oks_set {i : Nat} {m : ME} : OkS K (sSet i m env S) ↔ Ok (fun x S => K.ex x env S) (m env S) fun d S _ => K.nx (env.set i (.val d)) S := by
  unfold sSet; rw [oks_bind]; exact Iff.rfl
@[simp] theorem oks_ret {m : ME} : OkS K (sRet m env S) ↔ Ok (fun x S => K.ex x env S) (m env S) K.rt := by
  unfold sRet; rw [oks_bind]; exact Iff.rfl
@[simp] theorem oks_retN : OkS K (sRetN env S) ↔ K.rt .non S false := Iff.rfl
@[simp] theorem oks_onS {b : Bool} {t u : FR} : OkS K (onS (.bl b) t u) ↔ if b = true then OkS K t else OkS K u := by cases b <;> exact Iff.rfl
@[simp] theorem oks_if {c : ME} {a b : MS} : OkS K (sIf c a b env S) ↔ Ok (fun x S => K.ex x env S) (c env S) fun x S1 _ => OkS K (onS x (a env S1) (b env S1)) := by
  unfold sIf; rw [oks_bind]
@[simp] theorem oks_aug {i : Nat} {f : D → D → Store → Res} {m : ME} : OkS K (sAug i f m env S) ↔ ∃ x, env[i]? = some (.val x) ∧ Ok (fun x S => K.ex x env S) (m env S) fun y S1 _ => Ok (fun x S => K.ex x env S) (f x y S1) fun z S2 _ => K.nx (env.set i (.val z)) S2 := by
  unfold sAug
  split
  · rename_i d e
    rw [oks_bind]
    constructor
    · exact fun h => ⟨d, e, (ok_cg fun _ _ _ => oks_bind).mp h⟩
    · rintro ⟨x, ex, h⟩
      rw [e] at ex; cases ex
      exact (ok_cg fun _ _ _ => oks_bind).mpr h
  · rename_i h
    simp only [oks_stuck, false_iff, not_exists, not_and]
    exact fun d e => (h d e).elim
@[simp] theorem oks_par {i j : Nat} {a b : ME} : OkS K (sPar i j a b env S) ↔ Ok (fun x S => K.ex x env S) (a env S) fun x S1 _ => Ok (fun x S => K.ex x env S) (b env S1) fun y S2 _ => K.nx ((env.set i (.val x)).set j (.val y)) S2 := by
  unfold sPar; rw [oks_bind]; exact ok_cg fun _ _ _ => oks_bind
@[simp] theorem oks_item {o i m : ME} : OkS K (sItem o i m env S) ↔ Ok (fun x S => K.ex x env S) (m env S) fun d S1 _ => Ok (fun x S => K.ex x env S) (o env S1) fun x S2 _ => Ok (fun x S => K.ex x env S) (i env S2) fun y S3 _ => ∃ S4, vSetItem x y d S3 = some S4 ∧ K.nx env S4 := by
  unfold sItem; rw [oks_bind]
  refine ok_cg fun d S1 _ => oks_bind.trans (ok_cg fun x S2 _ => oks_bind.trans (ok_cg fun y S3 _ => ?_))
  cases vSetItem x y d S3 <;> simp
/-- a def -/
def kDef (S : Store) (E : KE) (P : KV') : KB := ⟨fun _ S' => Ok E (finR false S .non S' false) P, fun _ _ => False, fun _ _ => False, fun d S' fr => Ok E (finR false S d S' fr) P, fun x _ S' => E x (trunc S S')⟩
theorem ok_def {nl : Nat} {body : MS} {ds : List D} : Ok E (dDef nl body ds S) P ↔ OkS (kDef S E P) (body (ds.map .val ++ List.replicate nl .no) S) := by
  unfold dDef
  cases body (ds.map .val ++ List.replicate nl .no) S <;> exact Iff.rfl
@[simp] theorem finR_same {b : Bool} {d : D} {S' : Store} {fr : Bool} (h : S'.length = S.length) : finR b S d S' fr = .ok d S' fr := by
  unfold finR; rw [if_pos h]
/-! ### loops -/
theorem oks_for {gd : Option (Nat × List D)} {g : MG} {b : MS} (I : List D → Env' → Store → Prop) {items : List D} (h0 : I items env S)
    (hs : ∀ x r env S, I (x :: r) env S → gdOk gd S ∧ ∃ env1, g x env S = some env1 ∧ OkS { K with nx := I r, ct := I r, bk := K.nx } (b env1 S)) (hd : ∀ env S, I [] env S → gdOk gd S ∧ K.nx env S) : OkS K (forL gd g b items env S) := by
  induction items generalizing env S with
  | nil => unfold forL; obtain ⟨h1, h2⟩ := hd _ _ h0; rw [if_pos h1]; exact h2
  | cons x r ih =>
    unfold forL
    obtain ⟨h1, env1, e, h2⟩ := hs _ _ _ _ h0
    rw [if_pos h1, e]
    show OkS K (match b env1 S with
      | .nx env' S' => forL gd g b r env' S'
      | .ct env' S' => forL gd g b r env' S'
      | .bk env' S' => .nx env' S'
      | r => r)
    cases eb : b env1 S with
    | nx e S' => rw [eb] at h2; exact ih h2
    | ct e S' => rw [eb] at h2; exact ih h2
    | _ => rw [eb] at h2; exact h2
theorem ok_compL {gd : Option (Nat × List D)} {g : MG} {t : Option ME} {m : ME} (I : List D → List D → Store → Prop) {items acc : List D} (h0 : I items acc S)
    (hs : ∀ x r acc S, I (x :: r) acc S → gdOk gd S ∧ ∃ env1, g x env S = some env1 ∧ Ok NoE (oTest t env1 S) fun k S1 _ => ∃ kb, k = .bl kb ∧ if kb = true then Ok NoE (m env1 S1) fun d S2 _ => I r (acc ++ [d]) S2 else I r acc S1) (hd : ∀ acc S, I [] acc S → gdOk gd S ∧ P (.lst acc) S true) :
    Ok E (compL gd g t m env items acc S) P := by
  induction items generalizing acc S with
  | nil => unfold compL; obtain ⟨h1, h2⟩ := hd _ _ h0; rw [if_pos h1]; exact h2
  | cons x r ih =>
    unfold compL
    obtain ⟨h1, env1, e, h2⟩ := hs _ _ _ _ h0
    rw [if_pos h1, e]
    show Ok E (match oTest t env1 S with
      | .ok (.bl true) S1 _ => (match m env1 S1 with
        | .ok d S2 _ => compL gd g t m env r (acc ++ [d]) S2
        | _ => .stuck)
      | .ok (.bl false) S1 _ => compL gd g t m env r acc S1
      | _ => .stuck) P
    cases et : oTest t env1 S with
    | ok k S1 fr =>
      rw [et] at h2
      obtain ⟨kb, rfl, h3⟩ := h2
      cases kb with
      | true =>
        rw [if_pos rfl] at h3
        show Ok E (match m env1 S1 with
        | .ok d S2 _ => compL gd g t m env r (acc ++ [d]) S2
        | _ => .stuck) P
        cases em : m env1 S1 with
        | ok d S2 fr => rw [em] at h3; exact ih h3
        | exc x S2 => rw [em] at h3; exact h3.elim
        | stuck => rw [em] at h3; exact h3.elim
      | false => rw [if_neg Bool.false_ne_true] at h3; exact ih h3
    | exc x S2 => rw [et] at h2; exact h2.elim
    | stuck => rw [et] at h2; exact h2.elim
def OkI (E : KE) (r : IRes) (Q : List D → Option (Nat × List D) → Store → Prop) (_ : Tg (E, Q) := ⟨⟩) : Prop := match r with
  | .ok xs g S => Q xs g S
  | .exc e S => E e S
  | .stuck => False
@[simp] theorem oki_ok {Q : List D → Option (Nat × List D) → Store → Prop} {xs : List D} {g : Option (Nat × List D)} : OkI E (.ok xs g S) Q ↔ Q xs g S := Iff.rfl
@[simp] theorem oki_stuck {Q : List D → Option (Nat × List D) → Store → Prop} : OkI E .stuck Q ↔ False := Iff.rfl
@[simp] theorem oki_ite {Q : List D → Option (Nat × List D) → Store → Prop} {c : Prop} [Decidable c] {r : IRes} : OkI E (if c then r else .stuck) Q ↔ c ∧ OkI E r Q := by
  by_cases h : c <;> simp [h]
@[simp] theorem oks_sfor {mi : MI} {g : MG} {b : MS} : OkS K (sFor mi g b env S) ↔ OkI (fun x S => K.ex x env S) (mi env S) fun xs gd S1 => OkS K (forL gd g b xs env S1) := by
  unfold sFor; cases mi env S <;> exact Iff.rfl
@[simp] theorem ok_comp {own : List Nat} {mi : MI} {g : MG} {t : Option ME} {m : ME} : Ok E (eComp own mi g t m env S) P ↔ OkI E (mi env S) fun xs gd S1 => Ok E (compL gd g t m (wipeE env own) xs [] S1) P := by
  unfold eComp; cases mi env S <;> exact Iff.rfl
@[simp] theorem oki_val {Q : List D → Option (Nat × List D) → Store → Prop} {m : ME} : OkI E (iVal m env S) Q ↔ Ok E (m env S) fun d S1 _ => ∃ xs g, itemsOf S1 d = some (xs, g) ∧ Q xs g S1 := by
  unfold iVal
  cases m env S with
  | ok d S1 fr =>
    show OkI E (fVal d S1) Q ↔ _
    unfold fVal
    simp only [ok_ok]
    cases e : itemsOf S1 d with
    | none => simp
    | some p =>
      obtain ⟨a, b⟩ := p
      constructor
      · exact fun h => ⟨a, b, rfl, h⟩
      · rintro ⟨x, y, h1, h2⟩; cases h1; exact h2
  | _ => exact Iff.rfl
@[simp] theorem oki_arg {Q : List D → Option (Nat × List D) → Store → Prop} {f : List D → Store → IRes} {ms : List ME} : OkI E (iArg f ms env S) Q ↔ OkA E (eArgs ms env S) fun ds S1 => OkI E (f ds S1) Q := by
  unfold iArg; cases eArgs ms env S <;> exact Iff.rfl
@[simp] theorem rng1 {j : Int} : fRng1 [.int j] S = if -(2 ^ 62) ≤ j ∧ j ≤ 16777216 then .ok (rngL 0 j.toNat) none S else .stuck := rfl
@[simp] theorem rng2 {i j : Int} : fRng2 [.int i, .int j] S = if -(2 ^ 62) ≤ i ∧ i < 2 ^ 62 ∧ -(2 ^ 62) ≤ j ∧ j < 2 ^ 62 ∧ j - i ≤ 16777216 then .ok (rngL i (j - i).toNat) none S else .stuck := rfl
@[simp] theorem gdOk_none : gdOk none S ↔ True := Iff.rfl
@[simp] theorem oTest_none : oTest none = fun _ S => .ok (.bl true) S false := rfl
@[simp] theorem oTest_some {t : ME} : oTest (some t) = t := rfl
@[simp] theorem gN_eq {i : Nat} {d : D} : gN i d env S = some (env.set i (.val d)) := rfl
/-! ### operations -/
@[simp] theorem vAdd_int {i j : Int} : vAdd (.int i) (.int j) S = .ok (.int (i + j)) S false := rfl
@[simp] theorem vAddI_int {i j : Int} : vAddI (.int i) (.int j) S = .ok (.int (i + j)) S false := rfl
@[simp] theorem vAdd_str {x y : Str} : vAdd (.str x) (.str y) S = if x.length + y.length ≤ 16777216 then .ok (.str (x ++ y)) S false else .stuck := rfl
@[simp] theorem vSub_int {i j : Int} : vSub (.int i) (.int j) S = .ok (.int (i - j)) S false := rfl
@[simp] theorem vMul_int {i j : Int} : vMul (.int i) (.int j) S = if (-(2 ^ 64) < i ∧ i < 2 ^ 64) ∨ (-(2 ^ 64) < j ∧ j < 2 ^ 64) then .ok (.int (i * j)) S false else .stuck := rfl
@[simp] theorem vFdiv_int {i j : Int} : vFdiv (.int i) (.int j) S = if 0 < j ∧ j < 1000000000000000000000000000000 then .ok (.int (i / j)) S false else .stuck := rfl
@[simp] theorem vMod_int {i j : Int} : vMod (.int i) (.int j) S = if 0 < j then .ok (.int (i % j)) S false else .stuck := rfl
@[simp] theorem vPow_int {i j : Int} : vPow (.int i) (.int j) S = if 0 ≤ j ∧ j ≤ 1000 ∧ i.natAbs < 2 ^ 64 then .ok (.int (i ^ j.toNat)) S false else .stuck := rfl
@[simp] theorem vNeg_int {i : Int} : vNeg (.int i) S = .ok (.int (-i)) S false := rfl
theorem lstOf_ref {n : Nat} {xs : List D} (h : S[n]? = some (.lst xs)) : lstOf S (.ref n) = some xs := by
  show (match S[n]? with
    | some (.lst ds) => some ds
    | _ => none) = _
  rw [h]
theorem dctOf_ref {n : Nat} {xs : List D} (h : S[n]? = some (.lst xs)) : dctOf S (.ref n) = none := by
  show (match S[n]? with
    | some (.dct tk kvs) => some (tk, kvs)
    | _ => none) = _
  rw [h]
theorem vIdx_ref {n : Nat} {xs : List D} {i : Int} {d : D} (h : S[n]? = some (.lst xs)) (e : atI xs i = some d) : vIdx (.ref n) (.int i) S = .ok d S false := by
  unfold vIdx
  have h2 : seqOf S (.ref n) = some xs := lstOf_ref h
  simp only [dctOf_ref h, h2, e]
theorem vSetItem_ref {n : Nat} {xs : List D} {i : Int} {j : Nat} {d : D} (h : S[n]? = some (.lst xs)) (e : ixN xs.length i = some j) : vSetItem (.ref n) (.int i) d S = some (S.set n (.lst (xs.set j d))) := by
  unfold vSetItem
  simp only [h, e]
end
end DL
/-! Plain steps: texts, sources, walks of lists. -/
namespace DL
open PySem L2
section
variable {E : KE} {P P' : KV'} {K : KB} {env : Env'} {S : Store}
/-! ### texts -/
theorem append_tl (x y : Str) : (x ++ y).cps.toList = x.cps.toList ++ y.cps.toList := TL.tl_append x y
theorem str_len (x : Str) : x.length = x.cps.toList.length := TL.len_tl x
@[simp] theorem str_len_append (x y : Str) : (x ++ y).length = x.length + y.length := by rw [str_len, str_len, str_len, append_tl, List.length_append]
theorem cutS_mem {x : Str} {lo hi : Option Int} {c : Nat} (h : c ∈ (cutS x lo hi).cps.toList) : c ∈ x.cps.toList := by
  unfold cutS at h
  exact List.mem_of_mem_drop (List.mem_of_mem_take (by simpa using h))
theorem cutS_len (x : Str) (lo hi : Option Int) : (cutS x lo hi).length ≤ x.length := by
  rw [str_len, str_len]
  unfold cutS
  simp only [List.length_take, List.length_drop]
  omega
theorem joinL_nil : ∀ ps : List (List Nat), TL.joinL [] ps = ps.flatten
  | [] => rfl
  | [p] => by simp [TL.joinL]
  | p :: q :: r => by
    show p ++ ([] ++ TL.joinL [] (q :: r)) = _
    rw [joinL_nil (q :: r)]; simp
theorem join0_tl (ys : List Str) : (Txt.join "" ys).cps.toList = (ys.map fun y => y.cps.toList).flatten := by
  rw [TL.join_eq]
  have := TL.tl_join "" ys
  have e : TL.tl (Str.ofString "") = [] := by decide +kernel
  rw [e, joinL_nil] at this
  exact this
/-! ### operations on texts -/
@[simp] theorem vUpper_s {a : Str} : vUpper (.str a) [] S = if a.length ≤ 5592405 ∧ PyData.strOk (Txt.upper a) = true then .ok (.str (Txt.upper a)) S false else .stuck := rfl
@[simp] theorem vSlice_s {z : Str} {lo hi : Option Int} : vSlice (.str z) lo hi S = if z.length ≤ 16777216 then .ok (.str (cutS z lo hi)) S false else .stuck := rfl
@[simp] theorem vLen_s {z : Str} : vLen [.str z] S = if z.length ≤ 16777216 then .ok (.int z.length) S false else .stuck := rfl
@[simp] theorem isStrD_s {z : Str} : isStrD (.str z) S = true := rfl
theorem vIdx_s {z : Str} {i : Int} (h0 : 0 ≤ i) (h1 : i < z.length) (h2 : z.length ≤ 16777216) : ∃ c, z.cps.toList[i.toNat]? = some c ∧ vIdx (.str z) (.int i) S = .ok (.str ⟨#[c]⟩) S false := by
  rw [str_len] at h1
  have hi : i.toNat < z.cps.toList.length := by omega
  refine ⟨z.cps.toList[i.toNat], List.getElem?_eq_getElem hi, ?_⟩
  have e : atI z.cps.toList i = some z.cps.toList[i.toNat] := by
    unfold atI ixN
    rw [if_pos h0, if_pos (by simpa using h1)]
    exact List.getElem?_eq_getElem hi
  show (match atI z.cps.toList i with
      | some c => if z.length ≤ 16777216 then Res.ok (.str ⟨#[c]⟩) S false else .stuck
      | none => .stuck) = _
  rw [e]
  exact if_pos h2
/-! ### compare -/
@[simp] theorem vIs_n {x : D} : vIs x .non S = .ok (.bl (decide (x = .non))) S false := by cases x <;> rfl
@[simp] theorem vIs_b {a b : Bool} : vIs (.bl a) (.bl b) S = .ok (.bl (decide (a = b))) S false := rfl
@[simp] theorem vIsNot_n {x : D} : vIsNot x .non S = .ok (.bl (!decide (x = .non))) S false := by cases x <;> rfl
@[simp] theorem vIsNot_b {a b : Bool} : vIsNot (.bl a) (.bl b) S = .ok (.bl (!decide (a = b))) S false := rfl
@[simp] theorem vLe_i {i j : Int} : vLe (.int i) (.int j) S = .ok (.bl (decide (i ≤ j))) S false := rfl
@[simp] theorem vGe_i {i j : Int} : vGe (.int i) (.int j) S = .ok (.bl (decide (j ≤ i))) S false := rfl
@[simp] theorem vGt_i {i j : Int} : vGt (.int i) (.int j) S = .ok (.bl (decide (j < i))) S false := rfl
@[simp] theorem vLt_i {i j : Int} : vLt (.int i) (.int j) S = .ok (.bl (decide (i < j))) S false := rfl
@[simp] theorem vEq_i {i j : Int} : vEq (.int i) (.int j) S = .ok (.bl (decide (i = j))) S false := by
  show Res.ok (.bl (PyData.eqv (.int i) (.int j))) S false = _
  congr 2
@[simp] theorem vNe_i {i j : Int} : vNe (.int i) (.int j) S = .ok (.bl (!decide (i = j))) S false := by
  show Res.ok (.bl (!PyData.eqv (.int i) (.int j))) S false = _
  congr 2
@[simp] theorem vEq_b {i j : Bool} : vEq (.bl i) (.bl j) S = .ok (.bl (decide (i = j))) S false := by
  show Res.ok (.bl (PyData.eqv (.bool i) (.bool j))) S false = _
  cases i <;> cases j <;> rfl
@[simp] theorem vNe_b {i j : Bool} : vNe (.bl i) (.bl j) S = .ok (.bl (!decide (i = j))) S false := by
  show Res.ok (.bl (!PyData.eqv (.bool i) (.bool j))) S false = _
  cases i <;> cases j <;> rfl
/-! ### kinds -/
@[simp] theorem vIsi_non {c : Tag} : vIsi c .non S = .ok (.bl (isTag .non c)) S false := rfl
@[simp] theorem vIsi_bl {c : Tag} {b : Bool} : vIsi c (.bl b) S = .ok (.bl (isTag .bl c)) S false := rfl
@[simp] theorem vIsi_int {c : Tag} {b : Int} : vIsi c (.int b) S = .ok (.bl (isTag .int c)) S false := rfl
@[simp] theorem vIsi_str {c : Tag} {b : Str} : vIsi c (.str b) S = .ok (.bl (isTag .str c)) S false := rfl
@[simp] theorem vIsi_tup {c : Tag} {b : List D} : vIsi c (.tup b) S = .ok (.bl (isTag .tup c)) S false := rfl
@[simp] theorem vIsi_lst {c : Tag} {b : List D} : vIsi c (.lst b) S = .ok (.bl (isTag .lst c)) S false := rfl
@[simp] theorem vIsi_dct {c : Tag} {b : List (D × D)} : vIsi c (.dct b) S = .ok (.bl (isTag .dct c)) S false := rfl
@[simp] theorem isTag_eq {a b : Tag} : isTag a b = (decide (a = b) || (decide (a = .bl) && decide (b = .int))) := by cases a <;> cases b <;> rfl
@[simp] theorem ok_cte {c : Prop} [Decidable c] {r r' : Res} : Ok E (if c then r else r') P ↔ if c then Ok E r P else Ok E r' P := by
  by_cases h : c <;> simp [h]
/-! ### walks -/
/-- each item's reading leaves the store as it is -/
theorem ok_compMap {gd : Option (Nat × List D)} {g : MG} {m : ME} (f : D → D) {items acc : List D} (h0 : gdOk gd S) (hs : ∀ x ∈ items, ∃ env1, g x env S = some env1 ∧ Ok NoE (m env1 S) fun d S' _ => d = f x ∧ S' = S) (hd : P (.lst (acc ++ items.map f)) S true) :
    Ok E (compL gd g none m env items acc S) P := by
  refine ok_compL (fun r acc' S' => S' = S ∧ (∀ x ∈ r, x ∈ items) ∧ acc' ++ r.map f = acc ++ items.map f) ⟨rfl, fun _ h => h, rfl⟩ ?_ ?_
  · rintro x r acc' S' ⟨rfl, hm, e⟩
    obtain ⟨env1, eg, h⟩ := hs x (hm x List.mem_cons_self)
    refine ⟨h0, env1, eg, true, rfl, ?_⟩
    rw [if_pos rfl]
    refine h.mono (fun d S' fr q => ?_) fun _ _ q => q
    obtain ⟨rfl, rfl⟩ := q
    exact ⟨rfl, fun y hy => hm y (List.mem_cons_of_mem _ hy), by rw [← e]; simp⟩
  · rintro acc' S' ⟨rfl, _, e⟩
    refine ⟨h0, ?_⟩
    rw [List.map_nil, List.append_nil] at e
    rw [e]; exact hd
@[simp] theorem blsOf_map {α : Type} {f : α → Bool} (l : List α) : blsOf (l.map fun x => D.bl (f x)) = some (l.map f) := by
  induction l with
  | nil => rfl
  | cons x r ih =>
    show (blsOf (r.map fun x => D.bl (f x))).map (f x :: ·) = _
    rw [ih]; rfl
@[simp] theorem strsOf_map {α : Type} {f : α → Str} (l : List α) : strsOf (l.map fun x => D.str (f x)) = some (l.map f) := by
  induction l with
  | nil => rfl
  | cons x r ih =>
    show (strsOf (r.map fun x => D.str (f x))).map (f x :: ·) = _
    rw [ih]; rfl
theorem vAll_map {α : Type} {f : α → Bool} (l : List α) : vAll [.lst (l.map fun x => D.bl (f x))] S = .ok (.bl (l.all f)) S false := by
  unfold vAll
  have e : lstOf S (.lst (l.map fun x => D.bl (f x))) = some (l.map fun x => D.bl (f x)) := rfl
  simp only [e, blsOf_map, List.all_map]
  rfl
end
end DL
namespace DL
open PySem L2
theorem ok_eq {r : Res} {x : D} {S : Store} {f : Bool} (h : Ok NoE r fun d S' fr => d = x ∧ S' = S ∧ fr = f) : r = .ok x S f := by
  cases r with
  | ok d S' fr => obtain ⟨rfl, rfl, rfl⟩ := h; rfl
  | exc e S => exact h.elim
  | stuck => exact h.elim
theorem finR_flat {b : Bool} {S S' : Store} {d : D} {fr : Bool} (h : ∀ n, d ≠ .ref n) : ∃ S'' f, finR b S d S' fr = .ok d S'' f := by
  have e : frzD b S.length S' d = (d, false) := by
    cases d with
    | ref n => exact (h n rfl).elim
    | _ => rfl
  unfold finR
  rw [e]
  split
  · exact ⟨_, _, rfl⟩
  · split
    · exact ⟨_, _, rfl⟩
    · exact ⟨_, _, rfl⟩
/-- a law's end: the answer alone counts -/
theorem ok_fin {E : KE} {b : Bool} {S S' : Store} {d : D} {fr : Bool} {q : D → Prop} (h : ∀ n, d ≠ .ref n) (hq : q d) : Ok E (finR b S d S' fr) fun d _ _ => q d := by
  obtain ⟨S'', f, e⟩ := finR_flat (b := b) (S := S) (S' := S') (fr := fr) h
  rw [e]; exact hq
theorem law_of {r : Res} (h : Ok NoE r fun d _ _ => d = .bl true) : ∃ S fr, r = .ok (.bl true) S fr := by
  cases r with
  | ok d S fr => rw [show d = .bl true from h]; exact ⟨_, _, rfl⟩
  | exc x S => exact h.elim
  | stuck => exact h.elim
end DL
/-! Plain steps: instances, text literals. -/
namespace DL
open PySem L2
theorem ofString_inj {a b : String} : Str.ofString a = Str.ofString b ↔ a = b := by
  constructor
  · intro h
    rw [Str.ofString_eq_toList, Str.ofString_eq_toList] at h
    have h2 : a.toList.map Char.toNat = b.toList.map Char.toNat := by
      have := congrArg (fun s => s.cps.toList) h
      simpa using this
    have inj : ∀ x y : Char, x.toNat = y.toNat → x = y := fun x y e => Char.ext (UInt32.toNat_inj.mp e)
    have h3 : a.toList = b.toList := by
      have : ∀ (l m : List Char), l.map Char.toNat = m.map Char.toNat → l = m := by
        intro l
        induction l with
        | nil => intro m e; cases m with
          | nil => rfl
          | cons y m => cases e
        | cons x l ih => intro m e; cases m with
          | nil => cases e
          | cons y m =>
            simp only [List.map_cons, List.cons.injEq] at e
            rw [inj x y e.1, ih m e.2]
      exact this _ _ h2
    exact String.toList_inj.mp h3
  · intro h; rw [h]
@[simp] theorem lit_eq {a b : String} : (Str.ofString a = Str.ofString b) = (a = b) := propext ofString_inj
@[simp] theorem lit_beq {a b : String} : (Str.ofString a == Str.ofString b) = decide (a = b) := by
  by_cases h : a = b
  · subst h; simp
  · have : ¬ Str.ofString a = Str.ofString b := fun e => h (ofString_inj.mp e)
    simp [h, this]
section
variable {E : KE} {P P' : KV'} {K : KB} {env : Env'} {S : Store}
@[simp] theorem ok_fld {cn : Nat} {f : Str} {a : ME} : Ok E (eFld cn f a env S) P ↔ Ok E (a env S) fun x S1 _ => Ok E (vFld cn f x S1) P := ok_eun
/-- the instance itself has nothing of that name -/
def noAttr (fs : List (Str × D)) (m : Str) : Prop := (fs.lookup m).isNone = true
@[simp] theorem ok_meth {cn : Nat} {m : Str} {F : MF} {o : ME} {ms : List ME} : Ok E (eMeth cn m F o ms env S) P ↔ Ok E (o env S) fun x S1 _ => ∃ fs, insOf S1 cn x = some fs ∧ noAttr fs m ∧ OkA E (eArgs ms env S1) fun ds S2 => Ok E (F (x :: ds) S2) P := by
  unfold eMeth
  rw [ok_bind]
  refine ok_cg fun x S1 _ => ?_
  cases e : insOf S1 cn x with
  | none => simp
  | some fs =>
    constructor
    · intro h
      have h := ok_ite.mp h
      exact ⟨fs, rfl, h.1, oka_bind.mp h.2⟩
    · rintro ⟨fs', e', h1, h2⟩
      cases e'
      exact ok_ite.mpr ⟨h1, oka_bind.mpr h2⟩
@[simp] theorem ok_new {cn : Nat} {F : MF} {ms : List ME} : Ok E (eNew cn F ms env S) P ↔ OkA E (eArgs ms env S) fun ds S1 => Ok (fun e S2 => E e (trunc S1 S2)) (F (.ref S1.length :: ds) (S1 ++ [.ins cn []])) fun d S2 _ => d = .non ∧ P (.ref S1.length) S2 false := by
  unfold eNew
  rw [oka_bind]
  refine oka_cg fun ds S1 => ?_
  cases F (.ref S1.length :: ds) (S1 ++ [.ins cn []]) with
  | ok d S2 fr => cases d <;> simp
  | exc e S2 => exact Iff.rfl
  | stuck => exact Iff.rfl
@[simp] theorem oks_fldM {cn : Nat} {f : Str} {o m : ME} : OkS K (sFldM cn f o m env S) ↔ Ok (fun x S => K.ex x env S) (m env S) fun d S1 _ => Ok (fun x S => K.ex x env S) (o env S1) fun x S2 _ => ∃ n fs, x = .ref n ∧ S2[n]? = some (.ins cn fs) ∧ fs.length < 1000 ∧ K.nx env (S2.set n (.ins cn (putD f d fs))) := by
  unfold sFldM
  rw [oks_bind]
  refine ok_cg fun d S1 _ => oks_bind.trans (ok_cg fun x S2 _ => ?_)
  cases x with
  | ref n =>
    cases e : S2[n]? with
    | none => simp [e]
    | some o =>
      cases o with
      | fz kvs => simp [e]
      | ins k fs =>
        by_cases h : k = cn ∧ fs.length < 1000
        · simp only [e]
          rw [if_pos h]
          obtain ⟨rfl, h2⟩ := h
          constructor
          · exact fun q => ⟨n, fs, rfl, e, h2, q⟩
          · rintro ⟨n', fs', en, ef, _, q⟩
            cases en
            rw [e] at ef
            cases ef
            exact q
        · simp only [e]
          rw [if_neg h]
          constructor
          · exact fun q => q.elim
          · rintro ⟨n', fs', en, ef, h2, q⟩
            cases en
            rw [e] at ef
            cases ef
            exact h ⟨rfl, h2⟩
      | lst xs => simp [e]
      | dct tk kvs => simp [e]
  | _ => simp
@[simp] theorem oks_asg {g : MG} {m : ME} : OkS K (sAsg g m env S) ↔ Ok (fun x S => K.ex x env S) (m env S) fun d S1 _ => ∃ env1, g d env S1 = some env1 ∧ K.nx env1 S1 := by
  unfold sAsg
  rw [oks_bind]
  refine ok_cg fun d S1 _ => ?_
  cases g d env S1 <;> simp
@[simp] theorem oks_raise {cn : Nat} : OkS K (sRaise cn env S) ↔ K.ex ⟨cn, none⟩ env S := Iff.rfl
@[simp] theorem vInt_b {b : Bool} : vInt [.bl b] S = .ok (.int (if b then 1 else 0)) S false := rfl
@[simp] theorem vInt_i {i : Int} : vInt [.int i] S = .ok (.int i) S false := rfl
theorem insOf_ref {n cn : Nat} {fs : List (Str × D)} (h : S[n]? = some (.ins cn fs)) : insOf S cn (.ref n) = some fs := by
  show (match S[n]? with
    | some (.ins c fs) => if c = cn then some fs else none
    | _ => none) = _
  rw [h]
  simp
theorem vFld_ref {n cn : Nat} {fs : List (Str × D)} {f : Str} {d : D} (h : S[n]? = some (.ins cn fs)) (e : fs.lookup f = some d) : vFld cn f (.ref n) S = .ok d S false := by
  unfold vFld
  rw [insOf_ref h]
  simp only [e]
/-! ### equality of texts and pairs -/
theorem eqv_str (a b : Str) : PyData.eqv (.str a) (.str b) = decide (a = b) := by
  by_cases h : a = b
  · subst h; simp [PyData.eqv]
  · simp [PyData.eqv, h]
@[simp] theorem vEq_s {a b : Str} : vEq (.str a) (.str b) S = .ok (.bl (decide (a = b))) S false := by
  show Res.ok (.bl (PyData.eqv (.str a) (.str b))) S false = _
  rw [eqv_str]
@[simp] theorem vNe_s {a b : Str} : vNe (.str a) (.str b) S = .ok (.bl (!decide (a = b))) S false := by
  show Res.ok (.bl (!PyData.eqv (.str a) (.str b))) S false = _
  rw [eqv_str]
@[simp] theorem vEq_ns {b : Str} : vEq .non (.str b) S = .ok (.bl false) S false := rfl
@[simp] theorem vNe_ns {b : Str} : vNe .non (.str b) S = .ok (.bl true) S false := rfl
@[simp] theorem vEq_sn {b : Str} : vEq (.str b) .non S = .ok (.bl false) S false := rfl
@[simp] theorem vNe_sn {b : Str} : vNe (.str b) .non S = .ok (.bl true) S false := rfl
/-- values that are told by plain things -/
structure Tells {α : Type} [BEq α] [LawfulBEq α] (f : α → D) (g : α → PyData) : Prop where
  snap : ∀ (k : Nat) (S : Store) (a : α), snap (k + 3) S (f a) = some (g a)
  eqv : ∀ a b : α, PyData.eqv (g a) (g b) = (a == b)
theorem tells_str : Tells D.str PyData.str := ⟨fun _ _ _ => rfl, fun a b => by rw [eqv_str]; by_cases h : a = b <;> simp [h]⟩
def pairD (p : Str × Str) : D := .tup [.str p.1, .str p.2]
section
variable {α : Type} [BEq α] [LawfulBEq α] {f : α → D} {g : α → PyData} {n : Nat}
theorem Tells.all (T : Tells f g) (k : Nat) (S : Store) : ∀ l : List α, allSome ((l.map f).map (DL.snap (k + 3) S)) = some (l.map g)
  | [] => rfl
  | a :: r => by
    rw [List.map_cons, List.map_cons, T.snap]
    show (allSome ((r.map f).map (DL.snap (k + 3) S))).map (g a :: ·) = _
    rw [T.all k S r]; rfl
theorem Tells.any (T : Tells f g) (a : α) : ∀ l : List α, ((l.map g).any fun z => PyData.eqv z (g a)) = decide (a ∈ l)
  | [] => rfl
  | b :: r => by
    rw [List.map_cons, List.any_cons, T.eqv, T.any a r]
    by_cases h : a = b
    · subst h; simp
    · have h' : ¬ b = a := fun e => h e.symm
      simp [h, h']
theorem vIn_lst (T : Tells f g) {neg : Bool} {l : List α} {a : α} : vIn neg (f a) (.lst (l.map f)) S = inRes neg (decide (a ∈ l)) S := by
  unfold vIn
  have h1 : dctOf S (.lst (l.map f)) = none := rfl
  have h2 : lstOf S (.lst (l.map f)) = some (l.map f) := rfl
  simp only [h1, h2]
  have e1 : DL.snap 60 S (f a) = some (g a) := T.snap 57 S a
  have e2 := T.all 57 S l
  simp only [e1, e2]
  rw [T.any]
end
theorem vAppend_ref {n : Nat} {xs : List D} {y : D} (h : S[n]? = some (.lst xs)) (hl : xs.length < 16777216) : vAppend (.ref n) [y] S = .ok .non (S.set n (.lst (xs ++ [y]))) false := by
  unfold vAppend
  simp only [h]
  rw [if_pos hl]
theorem isLst_ref {n : Nat} {xs : List D} (h : S[n]? = some (.lst xs)) : isLstD (.ref n) S = true := by unfold isLstD; rw [lstOf_ref h]; rfl
theorem vList_ref {n : Nat} {xs : List D} (h : S[n]? = some (.lst xs)) : vList [.ref n] S = .ok (.lst xs) S true := by
  unfold vList
  have : seqOf S (.ref n) = some xs := lstOf_ref h
  simp only [this]
end
end DL
namespace DL
open PySem L2
section
variable {E : KE} {P : KV'} {env : Env'} {S : Store}
theorem thaw_lst {xs : List D} : thawR (.lst xs) S true = .ok (.ref S.length) (S ++ [.lst xs]) false := rfl
@[simp] theorem items_lst {xs : List D} : itemsOf S (.lst xs) = some (xs, none) := rfl
@[simp] theorem gdOk_some {n : Nat} {xs : List D} : gdOk (some (n, xs)) S ↔ S[n]? = some (.lst xs) := Iff.rfl
@[simp] theorem vLen_lst {xs : List D} : vLen [.lst xs] S = .ok (.int xs.length) S false := rfl
end
theorem okDrop_no {S S' : Store} {n : Nat} {o : O} (hn : n < S.length) (h2 : S'[n]? = some o) (h1 : S[n]? ≠ some o) (h3 : o.lo S.length = false) : okDrop S S' = false := by
  unfold okDrop
  rw [List.all_eq_false]
  refine ⟨n, List.mem_range.mpr hn, ?_⟩
  rw [h2]
  simp only [h3, Bool.or_false, decide_eq_true_eq]
  exact fun e => h1 e.symm
/-- a def that hangs what it made into what there was -/
theorem finR_keep {S S' : Store} {d : D} {fr : Bool} {b : Bool} {n : Nat} {o : O} (hn : n < S.length) (h2 : S'[n]? = some o) (h1 : S[n]? ≠ some o) (h3 : o.lo S.length = false) : finR b S d S' fr = .ok d S' fr := by
  unfold finR
  rw [okDrop_no hn h2 h1 h3]
  simp
end DL
namespace DL
open PySem L2
section
variable {S : Store}
theorem atN {α : Type} {xs : List α} {i : Nat} (h : i < xs.length) : atI xs (i : Int) = some xs[i] := by
  unfold atI ixN
  rw [if_pos (by omega), if_pos (by omega)]
  simp [List.getElem?_eq_getElem h]
@[simp] theorem vIdx_t0 {x : D} {r : List D} : vIdx (.tup (x :: r)) (.int 0) S = .ok x S false := by
  have e : atI (x :: r) 0 = some x := by unfold atI ixN; simp
  unfold vIdx
  have h1 : dctOf S (.tup (x :: r)) = none := rfl
  have h2 : seqOf S (.tup (x :: r)) = some (x :: r) := rfl
  simp only [h1, h2, e]
@[simp] theorem vIdx_t1 {x y : D} {r : List D} : vIdx (.tup (x :: y :: r)) (.int 1) S = .ok y S false := by
  have e : atI (x :: y :: r) 1 = some y := atN (i := 1) (by simp)
  unfold vIdx
  have h1 : dctOf S (.tup (x :: y :: r)) = none := rfl
  have h2 : seqOf S (.tup (x :: y :: r)) = some (x :: y :: r) := rfl
  simp only [h1, h2, e]
@[simp] theorem vIdx_t2 {x y z : D} {r : List D} : vIdx (.tup (x :: y :: z :: r)) (.int 2) S = .ok z S false := by
  have e : atI (x :: y :: z :: r) 2 = some z := atN (i := 2) (by simp)
  unfold vIdx
  have h1 : dctOf S (.tup (x :: y :: z :: r)) = none := rfl
  have h2 : seqOf S (.tup (x :: y :: z :: r)) = some (x :: y :: z :: r) := rfl
  simp only [h1, h2, e]
@[simp] theorem vIdx_l0 {x : D} {r : List D} : vIdx (.lst (x :: r)) (.int 0) S = .ok x S false := by
  have e : atI (x :: r) 0 = some x := by unfold atI ixN; simp
  unfold vIdx
  have h1 : dctOf S (.lst (x :: r)) = none := rfl
  have h2 : seqOf S (.lst (x :: r)) = some (x :: r) := rfl
  simp only [h1, h2, e]
@[simp] theorem vIdx_l1 {x y : D} {r : List D} : vIdx (.lst (x :: y :: r)) (.int 1) S = .ok y S false := by
  have e : atI (x :: y :: r) 1 = some y := atN (i := 1) (by simp)
  unfold vIdx
  have h1 : dctOf S (.lst (x :: y :: r)) = none := rfl
  have h2 : seqOf S (.lst (x :: y :: r)) = some (x :: y :: r) := rfl
  simp only [h1, h2, e]
@[simp] theorem vIdx_l2 {x y z : D} {r : List D} : vIdx (.lst (x :: y :: z :: r)) (.int 2) S = .ok z S false := by
  have e : atI (x :: y :: z :: r) 2 = some z := atN (i := 2) (by simp)
  unfold vIdx
  have h1 : dctOf S (.lst (x :: y :: z :: r)) = none := rfl
  have h2 : seqOf S (.lst (x :: y :: z :: r)) = some (x :: y :: z :: r) := rfl
  simp only [h1, h2, e]
@[simp] theorem vAdd_ll {xs ys : List D} : vAdd (.lst xs) (.lst ys) S = if xs.length + ys.length ≤ 16777216 then .ok (.lst (xs ++ ys)) S true else .stuck := rfl
section
variable {α : Type} [BEq α] [LawfulBEq α] {f : α → D} {g : α → PyData}
end
end
end DL
namespace DL
open PySem L2
section
variable {E : KE} {P : KV'} {env : Env'} {S : Store} {α : Type}
theorem ok_compFM {gd : Option (Nat × List D)} {g : MG} {t m : ME} {f : α → D} (p : α → Bool) (h : α → D) {l : List α} (h0 : gdOk gd S) (hs : ∀ x ∈ l, ∃ env1, g (f x) env S = some env1 ∧ Ok NoE (t env1 S) (fun d S' _ => d = .bl (p x) ∧ S' = S) ∧ (p x = true → Ok NoE (m env1 S) fun d S' _ => d = h x ∧ S' = S))
    (hd : P (.lst ((l.filter p).map h)) S true) : Ok E (compL gd g (some t) m env (l.map f) [] S) P := by
  refine ok_compL (fun r acc' S' => S' = S ∧ ∃ done rest : List α, l = done ++ rest ∧ r = rest.map f ∧ acc' = (done.filter p).map h) ⟨rfl, [], l, rfl, rfl, rfl⟩ ?_ ?_
  · rintro x r acc' S' ⟨rfl, done, rest, el, er, rfl⟩
    cases rest with
    | nil => cases er
    | cons y rest =>
      rw [List.map_cons] at er
      cases er
      obtain ⟨env1, eg, ht, hm⟩ := hs y (by rw [el]; simp)
      refine ⟨h0, env1, eg, ?_⟩
      rw [oTest_some]
      refine ht.mono (fun d S' fr q => ?_) fun _ _ q => q
      obtain ⟨rfl, rfl⟩ := q
      refine ⟨p y, rfl, ?_⟩
      cases hp : p y with
      | true =>
        rw [if_pos rfl]
        refine (hm hp).mono (fun d S' fr q => ?_) fun _ _ q => q
        obtain ⟨rfl, rfl⟩ := q
        exact ⟨rfl, done ++ [y], rest, by simp [el], rfl, by simp [hp]⟩
      | false =>
        rw [if_neg Bool.false_ne_true]
        exact ⟨rfl, done ++ [y], rest, by simp [el], rfl, by simp [hp]⟩
  · rintro acc' S' ⟨rfl, done, rest, el, er, rfl⟩
    have : rest = [] := by cases rest with
      | nil => rfl
      | cons _ _ => cases er
    subst this
    rw [List.append_nil] at el
    subst el
    exact ⟨h0, hd⟩
theorem ok_compMM {gd : Option (Nat × List D)} {g : MG} {m : ME} {f : α → D} (h : α → D) {l : List α} (h0 : gdOk gd S) (hs : ∀ x ∈ l, ∃ env1, g (f x) env S = some env1 ∧ Ok NoE (m env1 S) fun d S' _ => d = h x ∧ S' = S)
    (hd : P (.lst (l.map h)) S true) : Ok E (compL gd g none m env (l.map f) [] S) P := by
  refine ok_compL (fun r acc' S' => S' = S ∧ ∃ done rest : List α, l = done ++ rest ∧ r = rest.map f ∧ acc' = done.map h) ⟨rfl, [], l, rfl, rfl, rfl⟩ ?_ ?_
  · rintro x r acc' S' ⟨rfl, done, rest, el, er, rfl⟩
    cases rest with
    | nil => cases er
    | cons y rest =>
      rw [List.map_cons] at er
      cases er
      obtain ⟨env1, eg, hm⟩ := hs y (by rw [el]; simp)
      refine ⟨h0, env1, eg, ?_⟩
      rw [oTest_none, ok_ok]
      refine ⟨true, rfl, ?_⟩
      rw [if_pos rfl]
      refine hm.mono (fun d S' fr q => ?_) fun _ _ q => q
      obtain ⟨rfl, rfl⟩ := q
      exact ⟨rfl, done ++ [y], rest, by simp [el], rfl, by simp⟩
  · rintro acc' S' ⟨rfl, done, rest, el, er, rfl⟩
    have : rest = [] := by cases rest with
      | nil => rfl
      | cons _ _ => cases er
    subst this
    rw [List.append_nil] at el
    subst el
    exact ⟨h0, hd⟩
end
end DL
/-! Plain steps: errors caught. -/
namespace DL
open PySem L2
section
variable {E : KE} {P : KV'} {K : KB} {env : Env'} {S : Store} {Q : List D → Option (Nat × List D) → Store → Prop}
def kClr (i : Nat) (K : KB) : KB := ⟨fun e S => K.nx ((e.map clr).set i .no) S, fun e S => K.bk ((e.map clr).set i .no) S, fun e S => K.ct ((e.map clr).set i .no) S, K.rt, fun _ _ _ => False⟩
def kClr0 (K : KB) : KB := ⟨fun e S => K.nx (e.map clr) S, fun e S => K.bk (e.map clr) S, fun e S => K.ct (e.map clr) S, K.rt, fun _ _ _ => False⟩
theorem oks_fClr {i : Nat} {r : FR} : OkS K (fClr i r) ↔ OkS (kClr i K) r := by cases r <;> exact Iff.rfl
theorem oks_fClr0 {r : FR} : OkS K (fClr0 r) ↔ OkS (kClr0 K) r := by cases r <;> exact Iff.rfl
@[simp] theorem oks_tryAs {root : Nat} {ex : List Nat} {m i : Nat} {a b : MS} : OkS K (sTryAs root ex m i a b env S) ↔
    OkS { K with ex := fun e env1 S1 => (e.c ∈ ex ∧ e.fld = none) ∧ if (e.c == m || m == root) = true then OkS (kClr i K) (b (env1.set i (.exc e)) S1) else K.ex e env1 S1 } (a env S) := by
  unfold sTryAs
  cases a env S with
  | exc e env1 S1 =>
    show OkS K (if e.c ∈ ex ∧ e.fld = none then (if (e.c == m || m == root) = true then fClr i (b (env1.set i (.exc e)) S1) else .exc e env1 S1) else .stuck) ↔ (e.c ∈ ex ∧ e.fld = none) ∧ _
    by_cases h : e.c ∈ ex ∧ e.fld = none
    · rw [if_pos h]
      by_cases h2 : (e.c == m || m == root) = true
      · rw [if_pos h2, if_pos h2, oks_fClr]; exact ⟨fun q => ⟨h, q⟩, fun q => q.2⟩
      · rw [if_neg h2, if_neg h2]; exact ⟨fun q => ⟨h, q⟩, fun q => q.2⟩
    · rw [if_neg h]; exact ⟨fun q => q.elim, fun q => h q.1⟩
  | _ => exact Iff.rfl
@[simp] theorem oks_tryM {root : Nat} {ex : List Nat} {a : MS} {bs : List (Nat × MS)} : OkS K (sTryM root ex a bs env S) ↔
    OkS { K with ex := fun e env1 S1 => (e.c ∈ ex ∧ e.fld = none) ∧ match pickH root e.c bs with | some b => OkS (kClr0 K) (b env1 S1) | none => K.ex e env1 S1 } (a env S) := by
  unfold sTryM
  cases a env S with
  | exc e env1 S1 =>
    show OkS K (if e.c ∈ ex ∧ e.fld = none then (match pickH root e.c bs with | some b => fClr0 (b env1 S1) | none => .exc e env1 S1) else .stuck) ↔ (e.c ∈ ex ∧ e.fld = none) ∧ _
    by_cases h : e.c ∈ ex ∧ e.fld = none
    · rw [if_pos h]
      cases pickH root e.c bs with
      | some b => exact oks_fClr0.trans ⟨fun q => ⟨h, q⟩, fun q => q.2⟩
      | none => exact ⟨fun q => ⟨h, q⟩, fun q => q.2⟩
    · rw [if_neg h]; exact ⟨fun q => q.elim, fun q => h q.1⟩
  | _ => exact Iff.rfl
theorem ok_errOf {ex : List Nat} {i : Nat} {f : Nat → Res} : Ok E (errOf ex env i f) P ↔ ∃ e, env[i]? = some (.exc e) ∧ e.c ∈ ex ∧ Ok E (f e.c) P := by
  unfold errOf
  split
  · rename_i e h
    by_cases hm : e.c ∈ ex
    · rw [if_pos hm]; simp [h, hm]
    · rw [if_neg hm]; simp [h, hm]
  · rename_i h
    simp only [ok_stuck, false_iff, not_exists, not_and]
    exact fun e q => (h e q).elim
@[simp] theorem ok_isE {root : Nat} {ex : List Nat} {i m : Nat} : Ok E (eIsE root ex i m env S) P ↔ ∃ e, env[i]? = some (.exc e) ∧ e.c ∈ ex ∧ P (.bl (e.c == m || m == root)) S false := ok_errOf
@[simp] theorem ok_isV {ex : List Nat} {i : Nat} : Ok E (eIsV ex i env S) P ↔ ∃ e, env[i]? = some (.exc e) ∧ e.c ∈ ex ∧ P (.bl true) S false := ok_errOf
@[simp] theorem ok_isT {root : Nat} {ex : List Nat} {i : Nat} {ms : List Nat} : Ok E (eIsT root ex i ms env S) P ↔ ∃ e, env[i]? = some (.exc e) ∧ e.c ∈ ex ∧ P (.bl (ms.any fun m => e.c == m || m == root)) S false := ok_errOf
@[simp] theorem ok_callE {F : Exc → Store → Res} {i : Nat} : Ok E (eCallE F i env S) P ↔ ∃ e, env[i]? = some (.exc e) ∧ Ok E (F e S) P := by
  unfold eCallE
  split
  · rename_i e h; simp [h]
  · rename_i h
    simp only [ok_stuck, false_iff, not_exists, not_and]
    exact fun e q => (h e q).elim
theorem ok_edef {nl : Nat} {body : MS} {e : Exc} : Ok E (eDef nl body e S) P ↔ OkS (kDef S E P) (body (.exc e :: List.replicate nl .no) S) := by
  unfold eDef
  cases body (.exc e :: List.replicate nl .no) S <;> exact Iff.rfl
@[simp] theorem oki_valH {m : ME} : OkI E (iValH m env S) Q ↔ Ok E (m env S) fun d S1 _ => wkOf d = .l ∧ ∃ xs g, itemsOf S1 d = some (xs, g) ∧ Q xs g S1 := by
  unfold iValH
  cases m env S with
  | ok d S1 fr =>
    show OkI E (fValH d S1) Q ↔ _
    unfold fValH fVal
    simp only [ok_ok]
    by_cases hw : wkOf d = .l
    · rw [if_pos hw]
      cases e : itemsOf S1 d with
      | none => simp
      | some p =>
        obtain ⟨a, b⟩ := p
        constructor
        · exact fun h => ⟨hw, a, b, rfl, h⟩
        · rintro ⟨_, x, y, h1, h2⟩; cases h1; exact h2
    · rw [if_neg hw]; simp [hw]
  | _ => exact Iff.rfl
@[simp] theorem vInX_s {neg : Bool} {z : Str} {y : D} : vInX neg (.str z) y S = vIn neg (.str z) y S := rfl
@[simp] theorem vInX_t {neg : Bool} {z : List D} {y : D} : vInX neg (.tup z) y S = vIn neg (.tup z) y S := rfl
@[simp] theorem vInX_i {neg : Bool} {z : Int} {y : D} : vInX neg (.int z) y S = vIn neg (.int z) y S := rfl
@[simp] theorem vInX_b {neg : Bool} {z : Bool} {y : D} : vInX neg (.bl z) y S = vIn neg (.bl z) y S := rfl
@[simp] theorem vInX_n {neg : Bool} {y : D} : vInX neg .non y S = vIn neg .non y S := rfl
@[simp] theorem vInX_l {neg : Bool} {z : List D} {y : D} : vInX neg (.lst z) y S = vIn neg (.lst z) y S := rfl
@[simp] theorem vMulS_i {i : Int} {y : D} : vMulS (.int i) y S = vMul (.int i) y S := rfl
@[simp] theorem vMulS_l {i : List D} {y : D} : vMulS (.lst i) y S = vMul (.lst i) y S := rfl
@[simp] theorem vMulS_s {x : Str} {k : Int} : vMulS (.str x) (.int k) S = if 0 < x.length ∧ 1 ≤ k ∧ k ≤ 1000 ∧ x.length ≤ 1000 then .ok (.str (Txt.mul x k)) S false else .stuck := rfl
end
end DL
namespace DL
open PySem L2
/-! ### sorted things, sets of texts -/
section
variable {S : Store} {E : KE} {P : KV'} {env : Env'}
end
end DL
namespace DL
open PySem L2
section
variable {S : Store} {E : KE} {P : KV'} {env : Env'}
@[simp] theorem ok_slice3 {a : ME} {lo hi st : Option ME} : Ok E (eSlice3 a lo hi st env S) P ↔ Ok E (a env S) fun x S1 _ => Ok E (ePart lo env S1 fun l S2 => ePart hi env S2 fun u S3 => ePart st env S3 fun k S4 => vSlice3 x l u k S4) P := by
  unfold eSlice3; simp only [ok_bind]
@[simp] theorem vSlice3_rev {xs : List D} : vSlice3 (.lst xs) none none (some (-1)) S = .ok (.lst xs.reverse) S true := by
  have : vSlice3 (.lst xs) none none (some (-1)) S = .ok (.lst (pickL xs none none (some (-1)))) S true := rfl
  rw [this, pick_rev]
@[simp] theorem vLstRng_i {n : Int} : vLstRng (.int n) S = if -(2 ^ 61) ≤ n ∧ n ≤ 16777216 then .ok (.lst (rngL 0 n.toNat)) S true else .stuck := rfl
@[simp] theorem vMin2_i {i j : Int} : vMin2 [.int i, .int j] S = .ok (.int (if j < i then j else i)) S false := rfl
@[simp] theorem vMax2_i {i j : Int} : vMax2 [.int i, .int j] S = .ok (.int (if j > i then j else i)) S false := rfl
@[simp] theorem vTuple_t {xs : List D} : vTuple [.tup xs] S = .ok (.tup xs) S false := rfl
@[simp] theorem vTuple_l {xs : List D} : vTuple [.lst xs] S = .ok (.tup xs) S false := rfl
end
end DL
namespace DL
open PySem L2
section
variable {S : Store} {E : KE} {P : KV'} {env : Env'}
@[simp] theorem vLtX_i {i j : Int} : vLtX (.int i) (.int j) S = .ok (.bl (decide (i < j))) S false := rfl
@[simp] theorem vLtX_2 {a b c d : Int} : vLtX (.tup [.int a, .int b]) (.tup [.int c, .int d]) S = .ok (.bl (if a = c then (if b = d then false else decide (b < d)) else decide (a < c))) S false := rfl
end
end DL
namespace DL
open PySem L2
end DL
namespace DL
open PySem L2
section
variable {S : Store}
end
end DL
/-! dicts by their methods: get, pop, setdefault -/
namespace DL
open PySem PySem.Spec PyProof.Rows L2
/-! ### pop -/
section
variable {G : Gam} {H : Hp} {pi rho : List Addr} {S : Store} {v : V} {d : D}
end
/-! ### setdefault, keys that are tuples -/
end DL
/-! sorted(d) of a dict whose keys are texts -/
namespace DL
open PySem PySem.Spec PyProof.Rows L2
end DL
/-! Plain steps: dicts by their methods. -/
namespace DL
open PySem L2
section
variable {S : Store} {n : Nat} {tk : Bool} {kvs : List (D × D)} {k d : D}
end
end DL
namespace DL
open PySem L2
/-! ### enumerate and zip over lists -/
def enumD (ds : List D) : List D := ds.mapIdx fun i d => .tup [.int (i : Int), d]
def zipD (xs ys : List D) : List D := (List.range (min xs.length ys.length)).map fun i => .tup [xs[i]?.getD .non, ys[i]?.getD .non]
def gdBoth (a b : Option (Nat × List D)) : Option (Option (Nat × List D)) := match a, b with
  | none, g => some g
  | g, none => some g
  | some _, some _ => none
def fEnum : List D → Store → IRes
  | [x], S => if wkOf x = .l then (match itemsOf S x with
    | some (xs, g) => .ok (enumD xs) g S
    | none => .stuck) else .stuck
  | _, _ => .stuck
def fZip : List D → Store → IRes
  | [x, y], S => if wkOf x = .l ∧ wkOf y = .l then (match itemsOf S x, itemsOf S y with
    | some (xs, g), some (ys, g') => (match gdBoth g g' with
      | some gg => .ok (zipD xs ys) gg S
      | none => .stuck)
    | _, _ => .stuck) else .stuck
  | _, _ => .stuck
section
variable {G : Gam} {H H1 H' : Hp} {pi pi1 pi' rho rho' : List Addr} {S S' : Store}
end
section
variable {X : Cx} {c : Ctx} {W : WX} {m : ME}
end
end DL
namespace DL
open PySem L2
section
variable {S : Store}
@[simp] theorem enum_lst {xs : List D} : fEnum [.lst xs] S = .ok (enumD xs) none S := rfl
@[simp] theorem zip_lst {xs ys : List D} : fZip [.lst xs, .lst ys] S = .ok (zipD xs ys) none S := rfl
end
end DL
namespace DL
open PySem PySem.Spec PyProof.Rows L2
/-! ### dict(list of pairs) -/
section
variable {G : Gam} {H : Hp} {pi rho : List Addr} {S : Store}
end
/-! ### a dict locked for good -/
def lockR (x : D) (S : Store) (fr : Bool) : Res := match x with
  | .dct kvs => if fr = true then .ok (.fdct kvs) S false else .stuck
  | _ => .stuck
def eLock (a : ME) : ME := fun env S => (a env S).bind lockR
section
variable {X : Cx} {c : Ctx} {W : WX} {e : Expr} {ma : ME}
end
/-! ### for k in a dict that is locked -/
def fKeys (x : D) (S : Store) : IRes := match x with
  | .fdct kvs => .ok (kvs.map (·.1)) none S
  | _ => .stuck
def iKeysF (m : ME) : MI := fun env S => (m env S).bindI fKeys
section
variable {X : Cx} {c : Ctx} {W : WX} {tg e : Expr} {m : ME}
end
end DL
namespace DL
open PySem PySem.Spec PyProof.Rows L2
/-! ### min and max of two texts -/
def strLt (a b : Str) : Bool := decide (a.cps.toList < b.cps.toList)
section
variable {prog : Program} {w : World} {A : Around} {E : Value → Shared → Prop} {s : Shared}
end
def vMinS : MF
  | [.str a, .str b], S => .ok (.str (if strLt b a = true then b else a)) S false
  | _, _ => .stuck
def vMaxS : MF
  | [.str a, .str b], S => .ok (.str (if strLt a b = true then b else a)) S false
  | _, _ => .stuck
end DL
namespace DL
open PySem L2
section
variable {E : KE} {P : KV'} {S : Store} {env : Env'}
@[simp] theorem ok_lock {a : ME} : Ok E (eLock a env S) P ↔ Ok E (a env S) fun x S1 fr => Ok E (lockR x S1 fr) P := by
  unfold eLock; simp only [ok_bind]
@[simp] theorem lock_dct {kvs : List (D × D)} : lockR (.dct kvs) S true = .ok (.fdct kvs) S false := rfl
@[simp] theorem oki_keys {Q : List D → Option (Nat × List D) → Store → Prop} {m : ME} : OkI E (iKeysF m env S) Q ↔ Ok E (m env S) fun d S1 _ => ∃ kvs, d = .fdct kvs ∧ Q (kvs.map (·.1)) none S1 := by
  unfold iKeysF
  cases h : m env S with
  | ok d S1 fr =>
    show OkI E (fKeys d S1) Q ↔ _
    cases d <;> simp [fKeys, Ok, OkI]
  | exc x S1 => rfl
  | stuck => rfl
@[simp] theorem vMinS_s {a b : Str} : vMinS [.str a, .str b] S = .ok (.str (if strLt b a = true then b else a)) S false := rfl
@[simp] theorem vMaxS_s {a b : Str} : vMaxS [.str a, .str b] S = .ok (.str (if strLt a b = true then b else a)) S false := rfl
end
end DL
namespace DL
open PySem L2
section
variable {K : KB} {E : KE} {P : KV'} {S : Store} {env : Env'}
end
end DL
namespace DL
open PySem PySem.Spec PyProof.Rows L2
/-! ### a tuple turned about: t[::-1] -/
section
variable {prog : Program} {w : World} {A : Around} {E : Value → Shared → Prop} {s : Shared}
end
section
variable {X : Cx} {e : Expr} {te : TE} {lo hi st : Option Expr} {tl th tk : TO} {pos p2 : Pos}
end
def vRevT (x : D) (lo hi st : Option Int) (S : Store) : Res := match x with
  | .tup xs => if lo = none ∧ hi = none ∧ st = some (-1) then .ok (.tup xs.reverse) S false else .stuck
  | _ => .stuck
def eRevT (a : ME) (lo hi st : Option ME) : ME := fun env S => (a env S).bind fun x S1 _ => ePart lo env S1 fun l S2 => ePart hi env S2 fun u S3 => ePart st env S3 fun k S4 => vRevT x l u k S4
section
variable {X : Cx} {c : Ctx} {W : WX} {a : Expr} {ma : ME} {pos p2 : Pos} {lo hi st : Option Expr} {ml mh mk : Option ME}
end
end DL
namespace DL
open PySem L2
section
variable {S : Store} {E : KE} {P : KV'} {env : Env'}
@[simp] theorem ok_revT {a : ME} {lo hi st : Option ME} : Ok E (eRevT a lo hi st env S) P ↔ Ok E (a env S) fun x S1 _ => Ok E (ePart lo env S1 fun l S2 => ePart hi env S2 fun u S3 => ePart st env S3 fun k S4 => vRevT x l u k S4) P := by
  unfold eRevT; simp only [ok_bind]
@[simp] theorem vRevT_t {xs : List D} : vRevT (.tup xs) none none (some (-1)) S = .ok (.tup xs.reverse) S false := rfl
end
end DL
namespace DL
open PySem PySem.Spec PyProof.Rows L2
open PySem.W (minD maxD AlikeAll alike min_list_data min_tuple_data max_list_data max_tuple_data)
/-! ### min and max of a list or a tuple of texts -/
def minT (z : Str) (r : List Str) : Str := r.foldl (fun a y => if strLt y a = true then y else a) z
def maxT (z : Str) (r : List Str) : Str := r.foldl (fun a y => if strLt a y = true then y else a) z
def vExtT (f : Str → List Str → Str) : MF
  | [x], S => match dctOf S x with
    | some _ => .stuck
    | none => match seqOf S x with
      | some ds => match strsOf ds with
        | some (z :: r) => .ok (.str (f z r)) S false
        | _ => .stuck
      | none => .stuck
  | _, _ => .stuck
def vMinT : MF := vExtT minT
def vMaxT : MF := vExtT maxT
/-! ### isinstance(x, an own class) of an instance of just this class -/
structure ClI (K : PySem.W.Frag) (C : Addr) : Prop where
  cl : Cls K C
  ha : PySem.W.findIn K (.ref C) "__class__" = some (some (.builtin "object.__class__"))
  hn : PySem.W.specialIn K (.builtin "object.__class__") "__get__" = some (some (.builtin "getset_descriptor.__get__"))
  ht : PySem.W.takesIn K (.builtin "object.__class__") = some true
  hm : PySem.W.mroIn K C (.type "object") = some true
section
variable {X : Cx} {c : Ctx} {W : WX} {a : Expr} {ma : ME} {pos : Pos}
end
end DL
namespace DL
open PySem L2
section
variable {S : Store}
@[simp] theorem vMinT_two {a b : Str} : vMinT [.tup [.str a, .str b]] S = .ok (.str (if strLt b a = true then b else a)) S false := rfl
@[simp] theorem vMaxT_two {a b : Str} : vMaxT [.tup [.str a, .str b]] S = .ok (.str (if strLt a b = true then b else a)) S false := rfl
end
end DL
namespace DL
open PySem PySem.Spec PyProof.Rows L2
open PySem.W (AllAlike Sortable dataLe sort_maps)
/-! ### sorted(d) of a dict with tuple keys -/
section
variable {X : Cx}
end
end DL
/-! d.items() of a locked dict with tuple keys, walked -/
namespace DL
open PySem PySem.Spec PyProof.Rows L2
section
variable {X : Cx} {pins : List (Addr × Obj)} {σ : L2.St} {H : Hp} {s : Shared} {d : Addr} {o : Obj}
end
section
variable {P : Program} {w : World} {K : PySem.W.Frag} {d : Addr} {o : Obj} {es : Array DictEntry} {ep : Nat}
end
section
variable {X : Cx} {tg e : Expr} {td : TE} {apos cpos : Pos}
end
end DL
/-! a dict with tuple keys locked while an expression runs; its items walked -/
namespace DL
open PySem PySem.Spec PyProof.Rows L2
section
variable {G : Gam} {H H' : Hp} {pi rho : List Addr} {a : Addr}
end
section
variable {X : Cx} {c : Ctx} {W : WX} {e : Expr} {m : ME}
end
/-! ### the items of a locked dict -/
section
variable {X : Cx} {c : Ctx} {W : WX} {e : Expr} {m : ME}
end
end DL
/-! d.update(a dict of texts), l.index(x) over data, get of a dict of the module's own -/
namespace DL
open PySem PySem.Spec PyProof.Rows L2
/-! ### update -/
/-! ### index -/
end DL
/-! get of a dict of the module's own: texts to whole numbers -/
namespace DL
open PySem PySem.Spec PyProof.Rows L2
/-- the entries of a written dict are those of a table -/
def tabIs : List DictEntry → List (Str × Int) → Bool
  | [], [] => true
  | e :: r, (x, i) :: t => Value.isStrOf x e.key && ((match e.val with
    | .int j _ => i == j
    | _ => false) && tabIs r t)
  | _, _ => false
structure KTab (K : PySem.W.Frag) (w : World) (mg : Str → Option Value) (x : Str) (tbl : List (Str × Int)) : Prop where
  ex : ∃ (d : Addr) (es : Array DictEntry) (n : Nat), mg x = some (.ref d) ∧ K.lookup d = some ⟨.type "dict", none, .dict es n, #[]⟩ ∧ PySem.W.KeysLit w.params es.toList ∧ (d == sysModules) = false ∧ tabIs es.toList tbl = true
section
variable {X : Cx} {c : Ctx} {W : WX} {a : Expr} {ma : ME} {ta : TE} {x : Str} {px apos cpos : Pos} {tbl : List (Str × Int)}
end
end DL
namespace DL
open PySem PySem.Spec PyProof.Rows L2
open PySem.W (dataLe AllAlike Sortable alike EachIs sorted_data list_sort_data sort_maps dataLe_str list_sort_vals)
def vSortedU : MF
  | [.tup ds], S => match strsOf ds with
    | some zs => .ok (.lst ((zs.mergeSort strLe).map D.str)) S true
    | none => .stuck
  | _, _ => .stuck
end DL
namespace DL
open PySem L2
@[simp] theorem vSortedU_two {S : Store} {a b : Str} : vSortedU [.tup [.str a, .str b]] S = .ok (.lst (([a, b].mergeSort strLe).map D.str)) S true := rfl
end DL
/-! a dict with tuple keys locked while a statement runs -/
namespace DL
open PySem PySem.Spec PyProof.Rows L2
section
variable {G : Gam} {H H' H1 : Hp} {pi pi1 rho : List Addr} {a : Addr} {σ : L2.St} {env : Env'} {S : Store}
end
section
variable {X : Cx} {c : Ctx} {W : WX} {st : Stmt} {m : MS}
end
end DL
namespace DL
open PySem L2
end DL
/-! a def's derivation in short: what it leans on is handed in -/
namespace DL
open PySem PySem.Spec PyProof.Rows L2
def scBool (N ps : List Str) (sc : Scope) : Bool :=
  (match sc.kind with
    | .function => true
    | _ => false) && (!sc.isCoroutine && (!sc.isGenerator && (decide N.Nodup && (decide (N.take ps.length = ps) && ((ps.all fun x => match sc.names.lookup x with
    | some .local => true
    | some .cell => true
    | _ => false) && sc.names.all fun y => match y.2 with
    | .free => false
    | _ => true)))))
theorem scB {N ps : List Str} {sc : Scope} (h : scBool N ps sc = true) : FnScope N ps sc := by
  unfold scBool at h
  simp only [Bool.and_eq_true, Bool.not_eq_true', decide_eq_true_eq, List.all_eq_true] at h
  obtain ⟨h1, h2, h3, h4, h5, h6, h7⟩ := h
  refine ⟨?_, h2, h3, h4, h5, fun x hx => ?_, fun y hy e => ?_⟩
  · cases e : sc.kind <;> rw [e] at h1 <;> first | rfl | cases h1
  · have := h6 x hx
    cases e : sc.names.lookup x with
    | none => rw [e] at this; cases this
    | some k => rw [e] at this; cases k <;> first | exact .inl rfl | exact .inr rfl | cases this
  · have := h7 y hy
    rw [e] at this; cases this
section
variable {P : Program} {w : World} {K : PySem.W.Frag} {mg : Str → Option Value} {base : Heap} {cl : Nat → Addr}
theorem def_okT {x qual : Str} {st : Stmt} {f : Addr} {fd : FuncData} {N ps : List Str} {k n nl : Nat} {body : MS} (F : Fun K x qual st f fd) (S : scBool N ps (defScope st) = true) (hn : ps.length = n) (hl : N.length = n + nl)
    (hb : ∀ (cdv : Value) (A : Around) (outer : List Env) (s : Shared) (H : Hp) (E : XK), Room k (A.deeper (envOfC qual (defScope st) s.heap.objs.size f cdv)) →
      L2N.Takes (cxOf (L2N.CX P w) P w K mg base N qual (defScope st) f cdv A outer s H E) (fun cls d _ H => E cls d H) → PassesOwn (model P w) (cxOf (L2N.CX P w) P w K mg base N qual (defScope st) f cdv A outer s H E).A (cxOf (L2N.CX P w) P w K mg base N qual (defScope st) f cdv A outer s H E).env (cxOf (L2N.CX P w) P w K mg base N qual (defScope st) f cdv A outer s H E).xe → N.Nodup →
      DSs (cxOf (L2N.CX P w) P w K mg base N qual (defScope st) f cdv A outer s H E) (cl, none) (fun cls dx _ H' => E cls dx H') (defBody st) body) :
    FnOk P w K mg base (L2N.CX P w) (k + 1) f fd ps (spD ⟨K, cl, none⟩ n (dDef nl body)) :=
  def_ok F (scB S) hn hl fun cdv A outer s H E hr => hb cdv A outer s H E hr (@L2N.takes_of (cxOf (L2N.CX P w) P w K mg base N qual (defScope st) f cdv A outer s H E) E rfl rfl rfl _ rfl) (@passes_of (cxOf (L2N.CX P w) P w K mg base N qual (defScope st) f cdv A outer s H E) _ _ rfl) (scB S).nd
theorem hot_okT {x qual : Str} {st : Stmt} {f : Addr} {fd : FuncData} {N ps : List Str} {k nl : Nat} {body : MS} (F : Fun K x qual st f fd) (S : scBool N ps (defScope st) = true) (hn : ps.length = 1) (hl : N.length = 1 + nl)
    (hb : ∀ (cdv : Value) (A : Around) (outer : List Env) (s : Shared) (H : Hp) (E : XK) (a : Addr) (oe : Obj) (e : Exc), L2H.RoomH k (A.deeper (envOfC qual (defScope st) s.heap.objs.size f cdv)) →
      Held (L2H.cxH (L2N.CX P w) P w K mg base N qual (defScope st) f cdv A outer s H E (a, oe)) cl a e →
      L2N.Takes (L2H.cxH (L2N.CX P w) P w K mg base N qual (defScope st) f cdv A outer s H E (a, oe)) (fun cls d _ H => E cls d H) → N.Nodup →
      DSs (L2H.cxH (L2N.CX P w) P w K mg base N qual (defScope st) f cdv A outer s H E (a, oe)) (cl, some (a, e)) (fun cls dx _ H' => E cls dx H') (defBody st) body) :
    HotFn P w K mg base cl (k + 1) f fd ps (eDef nl body) :=
  hot_ok F (scB S) hn hl fun cdv A outer s H E a oe e hr hd => hb cdv A outer s H E a oe e hr hd (@L2N.takes_of (L2H.cxH (L2N.CX P w) P w K mg base N qual (defScope st) f cdv A outer s H E (a, oe)) E rfl rfl rfl _ rfl) (scB S).nd
/-! ### from a def's law to what its callers lean on -/
variable {x q : Str} {st : Stmt} {f : Addr} {fd : FuncData} {ps : List Str} {k n : Nat} {F : MF} (P base)
theorem mkD (o : FnOk P w K mg base (L2N.CX P w) k f fd ps (spD ⟨K, cl, none⟩ n F)) (u : Fun K x q st f fd) (e : mg x = some (.ref f)) (hb : Binds K fd ps []) : DefOk P w K mg base cl k x n F := ⟨f, fd, ps, o, e, u.kp, hb⟩
theorem mkM (cn : Nat) {m : Str} (o : FnOk P w K mg base (L2N.CX P w) k f fd ps (spD ⟨K, cl, none⟩ n F)) (hm : Meth K (cl cn) m f) (hc : Cls K (cl cn)) (hb : Binds K fd ps []) : MethOk P w K mg base cl k cn m n F := ⟨f, fd, ps, o, hm, hc, hb⟩
theorem mkI (cn : Nat) {x : Str} (o : FnOk P w K mg base (L2N.CX P w) k f fd ps (spD ⟨K, cl, none⟩ n F)) (e : mg x = some (.ref (cl cn))) (hm : Mk K (cl cn) f) (hb : Binds K fd ps []) : InitOk P w K mg base cl k x cn n F := ⟨f, fd, ps, o, e, hm, hb⟩
theorem mkH {G : Exc → Store → Res} (o : HotFn P w K mg base cl k f fd ps G) (u : Fun K x q st f fd) (e : mg x = some (.ref f)) (hb : Binds K fd ps []) : HotDef P w K mg base cl k x G := ⟨f, fd, ps, o, e, u.kp, hb⟩
theorem bdT (u : Fun K x q st f fd) {p : Str} (h : ∀ (kV doc pm : Value) (an : Option Addr) (cdv ct : Value) (a : Value), bindArgs (PySem.W.fnOf x q (defArgs st) (defBody st) (defScope st) .none kV doc pm an cdv ct) ⟨[a], []⟩ = pure [(p, a)]) (s : Shared) (a : Value) : BindsTo s fd ⟨[a], []⟩ [(p, a)] := by
  obtain ⟨oc, od, kV, doc, pm, an, cdv, ct, osl, rfl, _, _⟩ := u.ex
  exact .of_eq (h kV doc pm an cdv ct a)
theorem bd0 (u : Fun K x q st f fd) (h : ∀ (kV doc pm : Value) (an : Option Addr) (cdv ct : Value), bindArgs (PySem.W.fnOf x q (defArgs st) (defBody st) (defScope st) .none kV doc pm an cdv ct) ⟨[], []⟩ = pure []) : Binds K fd [] [] :=
  u.binds (ps := []) fun kV doc pm an cdv ct us hl => match us, hl with | [], _ => h kV doc pm an cdv ct
theorem bd1 (u : Fun K x q st f fd) {p : Str} (h : ∀ (kV doc pm : Value) (an : Option Addr) (cdv ct a : Value), bindArgs (PySem.W.fnOf x q (defArgs st) (defBody st) (defScope st) .none kV doc pm an cdv ct) ⟨[a], []⟩ = pure [(p, a)]) : Binds K fd [p] [] :=
  u.binds (ps := [p]) fun kV doc pm an cdv ct us hl => match us, hl with | [a], _ => h kV doc pm an cdv ct a
theorem bd2 (u : Fun K x q st f fd) {p p2 : Str} (h : ∀ (kV doc pm : Value) (an : Option Addr) (cdv ct a b : Value), bindArgs (PySem.W.fnOf x q (defArgs st) (defBody st) (defScope st) .none kV doc pm an cdv ct) ⟨[a, b], []⟩ = pure [(p, a), (p2, b)]) : Binds K fd [p, p2] [] :=
  u.binds (ps := [p, p2]) fun kV doc pm an cdv ct us hl => match us, hl with | [a, b], _ => h kV doc pm an cdv ct a b
end
end DL
/-! == of dicts that change, of flat values: alike ones -/
namespace DL
open PySem PySem.Spec PyProof.Rows L2
end DL
/-! l.count(x) over data -/
namespace DL
open PySem PySem.Spec PyProof.Rows L2
end DL
/-! d.clear() -/
namespace DL
open PySem PySem.Spec PyProof.Rows L2
end DL
namespace DL
open PySem PySem.Spec PyProof.Rows L2
/-! ### == of a tuple and the empty one, whatever is in it -/
end DL
/-! a[b] of a dict with tuple keys that is locked -/
namespace DL
open PySem PySem.Spec PyProof.Rows L2
section
variable {X : Cx} {c : Ctx} {W : WX} {a b e : Expr} {ma mb : ME} {pos : Pos}
end
end DL
/-! the items of a dict that was locked for good -/
namespace DL
open PySem PySem.Spec PyProof.Rows L2
section
variable {X : Cx} {c : Ctx} {W : WX} {e : Expr} {m : ME}
end
end DL
/-! a list or None, or else another value -/
namespace DL
open PySem PySem.Spec PyProof.Rows L2
def orV (x : D) (S : Store) (r : Res) : Res := match x with
  | .non => r
  | .lst [] => r
  | .lst (d :: ds) => .ok (.lst (d :: ds)) S false
  | _ => .stuck
def eOrV (a b : ME) : ME := fun env S => (a env S).bind fun x S1 _ => orV x S1 (b env S1)
section
variable {X : Cx} {c : Ctx} {W : WX} {a b : Expr} {ma mb : ME} {pos : Pos}
end
section
variable {E : KE} {P : KV'} {env : Env'} {S : Store} {a b : ME}
@[simp] theorem ok_orV : Ok E (eOrV a b env S) P ↔ Ok E (a env S) fun x S1 _ => Ok E (orV x S1 (b env S1)) P := by
  unfold eOrV; rw [ok_bind]
end
end DL
namespace DL
open PySem PySem.Spec PyProof.Rows L2
/-! ### every second thing of a tuple: t[::2] -/
section
variable {prog : Program} {w : World} {A : Around} {E : Value → Shared → Prop} {s : Shared}
end
section
variable {X : Cx} {e : Expr} {te : TE} {lo hi st : Option Expr} {tl th tk : TO} {pos p2 : Pos}
end
section
variable {X : Cx} {c : Ctx} {W : WX} {a : Expr} {ma : ME} {pos p2 : Pos} {lo hi st : Option Expr} {ml mh mk : Option ME}
end
end DL
/-! d.get(None): a dict of texts and whole numbers has no such key -/
namespace DL
open PySem PySem.Spec PyProof.Rows L2
section
variable {P : Program} {w : PySem.World}
end
end DL
/-! zip of two lists, or of two tuples -/
namespace DL
open PySem PySem.Spec PyProof.Rows L2
section
variable {G : Gam} {H H1 H' : Hp} {pi pi1 pi' rho rho' : List Addr} {S S' : Store}
end
section
variable {X : Cx} {c : Ctx} {W : WX} {m : ME}
end
end DL
/-! x.split(sep); a statement that is never come to -/
namespace DL
open PySem PySem.Spec PyProof.Rows L2
end DL
/-! t < u of two pairs of texts -/
namespace DL
open PySem PySem.Spec PyProof.Rows L2
end DL
/-! == of dicts with tuple keys, of flat values: alike ones -/
namespace PySem.W
open Lean Elab Tactic Meta PySem PySem.Calls PyProof.Rows PyProof.V PySem.Spec
section
variable {prog : Program} {w : World} {K : Type} [DecidableEq K] {knd : HeapKind prog w K} {A : Around} {E : Value → Shared → Prop} {s : Shared}
end
end PySem.W
namespace DL
open PySem PySem.Spec PyProof.Rows L2
section
variable {X : Cx}
end
end DL
/-! dicts with tuple keys: ==, values() of a locked one, walked -/
namespace DL
open PySem PySem.Spec PyProof.Rows L2
/-! ### values() of a locked dict with tuple keys -/
section
variable {P : Program} {w : World} {K : PySem.W.Frag} {tg : Expr} {d : Addr} {o : Obj} {es : Array DictEntry} {ep : Nat}
end
section
variable {X : Cx} {tg e : Expr} {td : TE} {apos cpos : Pos}
end
section
variable {X : Cx} {c : Ctx} {W : WX} {tg e : Expr} {m : ME}
end
end DL
/-! d.clear() of a dict with tuple keys -/
namespace DL
open PySem PySem.Spec PyProof.Rows L2
end DL
/-! str of a text or of a whole number; int of a text; range by a step -/
namespace DL
open PySem PySem.Spec PyProof.Rows L2
/-! ### range by a step of two -/
section
variable {X : Cx} {c : Ctx} {W : WX} {tg : Expr}
end
end DL
/-! an own error class whose __init__ keeps a whole number as its line: made and raised; caught; read. -/
namespace DL
open PySem PySem.Spec PyProof.Rows L2

/-- what is told of such a class, C, over another own class, B -/
structure XC (K : PySem.W.Frag) (C B : Addr) : Prop where
  oex : OexC K C
  xf : XfC K C
  no : PySem.W.findIn K (.ref C) "line" = some none
  gB : PySem.W.specialIn K (.ref B) "__getattribute__" = some (some (.builtin "type.__getattribute__"))
  rB : PySem.W.readsIn K B (.type "type") = true
  vB : PySem.W.findCls K (.ref B) (.type "type") "__init__" = some (.val (.builtin "ValueError.__init__"))

section
variable {X : Cx} {e : Expr} {es : List Expr} {ta : TA} {p p1 p2 pos : Pos}
end
section
variable {P : Program} {w : World} {K : PySem.W.Frag} {mg : Str → Option Value} {base : Heap} {cl : Nat → Addr}
end
section
variable {X : Cx} {e : Expr} {te : TE} {p pos pos2 : Pos}
end
section
variable {X : Cx} {c : Ctx} {W : WX} {e : Expr} {m : ME} {p pos pos2 : Pos}
end
/-! ### except C as n, whatever the error bears -/
section
variable {X : Cx} {cl : Nat → Addr} {W : WX} {root m : Nat} {ex : List Nat} {x n : Str} {body suite : List Stmt} {b₀ : Stmt} {np pos pos' : Pos} {ma mb : MS}
end
/-! ### its line, read -/
section
variable {X : Cx} {cl : Nat → Addr} {W : WX} {a : Addr} {e : Exc} {pos q : Pos} {n : Str}
end
end DL
namespace DL
open PySem PySem.Spec PyProof.Rows L2
end DL
/-! xs.insert(i, y) -/
namespace DL
open PySem PySem.Spec PyProof.Rows L2
end DL
/-! a >= b of texts; t <= u of two pairs of texts -/
namespace DL
open PySem PySem.Spec PyProof.Rows L2
end DL
/-! errors made and not raised, as values -/
namespace DL
open PySem PySem.Spec PyProof.Rows L2
/-- X("..") as a value -/
def eErr (cn : Nat) : ME := fun _ S => .ok (.err cn) S false
section
variable {X : Cx} {c : Ctx} {W : WX} {e : Expr} {me : ME} {p pos : Pos}
theorem de_err {x m : Str} {j cn : Nat} {p2 : Pos} (T : ExcOk X.K X.mg c.1 x cn) (hg : Gl X x := by rfl) (hdb : (x == ("__debug__" : Str)) = false := by decide)
    (hs : starEach [.Constant (.str m) j p2] X.env = (false, eval (.Constant (.str m) j p2) X.env) :: starEach [] X.env := by rfl) : DE X c W (.Call (.Name x p) [.Constant (.str m) j p2] [] pos) (eErr cn) :=
  PE_weak (pe_exc1 PySem.F.excBase_ValueError T.x T.g T.k hg pe_str hs hdb) fun σ H Q ⟨pi, rho, S, env, R, N, h⟩ a hn =>
    PostE.fin (PostE.base (Go.new hn) h) (R.new hn) (.err upd_same (R.free hn) (R.freeR hn))
/-- isinstance(e, c) of an error that is a value -/
def rErrV (K : PySem.W.Frag) (cl : Nat → Addr) (ex : List Nat) : List V → Hp → VK → Prop := fun xs H Q => ∃ (a : Addr) (n : Nat) (v : V) (cv : Value) (b : Bool), xs = [.ref a, v] ∧ n ∈ ex ∧ H a = some (ExO (.ref (cl n)) a) ∧ ClsV v cv ∧ PySem.W.kitOne K (.ref (cl n)) cv = some b ∧ Q (.bl b) H
theorem call_errV {cl : Nat → Addr} {root : Nat} {ex : List Nat} (T : ErrTab X.K cl root ex) : CallR X (.builtin "isinstance") (rErrV X.K cl ex) := by
  intro pins s σ H xs us Q I r h
  obtain ⟨a, n, v, cv, b, rfl, hn, ha, k, e1, q⟩ := h
  obtain ⟨u1, u2, rfl, r1, r2⟩ := vals2 r
  cases (show u1 = Value.ref a from r1)
  have e2 := k.eq r2
  subst e2
  have C := T.is n hn
  obtain ⟨⟨oe, vs, ho, hz, hd, _⟩, _, _⟩ := (show ObjOk X.prog X.w H s.heap a (ExO (.ref (cl n)) a) from I.hok a _ ha)
  have J : PySem.W.InstAt s.heap a oe (cl n) none := ⟨ho, hz.1, by unfold PySem.W.notCls; rw [hd] <;> rfl, by rw [hz.2]; trivial⟩
  have kit := PySem.W.kitx_exc (x := a) (ox := oe) (od := none) (T.cls n hn).1 C.hg C.hk C.hs C.ha C.hn C.ht C.hm
  exact PySem.W.kia_one kit I.kIn J e1 (fun z => nomatch z) fun tk => ⟨.bl b, H, I.tok tk, rfl, q⟩
def vIsErr (root : Nat) (ex : List Nat) (m : Nat) : D → Store → Res := fun d S => match d with
  | .err n => if n ∈ ex then .ok (.bl (n == m || m == root)) S false else .stuck
  | _ => .stuck
def vIsErrV (ex : List Nat) : D → Store → Res := fun d S => match d with
  | .err n => if n ∈ ex then .ok (.bl true) S false else .stuck
  | _ => .stuck
theorem de_isErr {root m : Nat} {ex : List Nat} {x : Str} {px : Pos} (T : ErrTab X.K c.1 root ex) (hg : Gl X "isinstance") (hm : X.mg "isinstance" = none) (hv : bootBuiltins "isinstance" = some (.builtin "isinstance")) (hc : X.mg x = some (.ref (c.1 m))) (hmx : m ∈ ex) (he : DE X c W e me)
    (hgx : Gl X x := by rfl) (hdx : (x == ("__debug__" : Str)) = false := by decide)
    (hs : starEach [e, .Name x px] X.env = (false, eval e X.env) :: starEach [.Name x px] X.env := by rfl) (hs2 : starEach [.Name x px] X.env = (false, eval (.Name x px) X.env) :: starEach [] X.env := by rfl) (hpl : (backTo pos (starEach [.Name x px] X.env)).any (·.1) = false := by rfl) :
    DE X c W (.Call (.Name "isinstance" p) [e, .Name x px] [] pos) (eUn (vIsErr root ex m) me) :=
  PE_weak (pe_callB (call_errV T) hg hm hv (pa_cons he (pa_cons (pe_glob (v := V.ref (c.1 m)) hgx hc rfl hdx) pa_nil hs2) hs) (by decide) (by decide) hs hpl) fun σ H Q ⟨pi, rho, S, env, R, N, h⟩ => tD.bind R N h fun v H1 d pi1 S1 _ R1 r1 g1 _ h1 => by
    unfold vIsErr at h1
    split at h1
    · rename_i n
      split at h1
      · rename_i hn
        cases r1 with | err ha n1 m1 =>
        exact ⟨_, _, _, _, _, rfl, hn, ha, .own _, T.kit hn hmx, PostE.fin h1 R1 (.bl _)⟩
      · exact h1.elim
    · exact h1.elim
theorem de_isErrV {root : Nat} {ex : List Nat} {px : Pos} (T : ErrTab X.K c.1 root ex) (hg : Gl X "isinstance") (hm : X.mg "isinstance" = none) (hv : bootBuiltins "isinstance" = some (.builtin "isinstance")) (hgx : Gl X "ValueError") (hmv : X.mg "ValueError" = none) (hvv : bootBuiltins "ValueError" = some (.type "ValueError")) (he : DE X c W e me)
    (hs : starEach [e, .Name "ValueError" px] X.env = (false, eval e X.env) :: starEach [.Name "ValueError" px] X.env := by rfl) (hs2 : starEach [.Name "ValueError" px] X.env = (false, eval (.Name "ValueError" px) X.env) :: starEach [] X.env := by rfl) (hpl : (backTo pos (starEach [.Name "ValueError" px] X.env)).any (·.1) = false := by rfl) :
    DE X c W (.Call (.Name "isinstance" p) [e, .Name "ValueError" px] [] pos) (eUn (vIsErrV ex) me) :=
  PE_weak (pe_callB (call_errV T) hg hm hv (pa_cons he (pa_cons (pe_bltn (v := V.ty "ValueError") hgx hmv hvv rfl) pa_nil hs2) hs) (by decide) (by decide) hs hpl) fun σ H Q ⟨pi, rho, S, env, R, N, h⟩ => tD.bind R N h fun v H1 d pi1 S1 _ R1 r1 g1 _ h1 => by
    unfold vIsErrV at h1
    split at h1
    · rename_i n
      split at h1
      · rename_i hn
        cases r1 with | err ha n1 m1 =>
        exact ⟨_, _, _, _, _, rfl, hn, ha, .ty _, T.kitV hn, PostE.fin h1 R1 (.bl _)⟩
      · exact h1.elim
    · exact h1.elim
end
end DL
namespace G
open PySem L2 DL
set_option maxHeartbeats 4000000
def m_l_mixed : MF := dDef 1
  (sSeq (sSet 2 (eBin vMod (eBin vMulS (eBin vAdd (eBin vAdd (eBin vMod (eVar 0) (eC (.int 2147483629))) (eBin vMulS (eC (.int 69621)) (eVar 1))) (eC (.int 1))) (eC (.int 48271))) (eC (.int 2147483629))))
  (sSeq (sSet 2 (eBin vMod (eBin vMulS (eVar 2) (eBin vAdd (eBin vFdiv (eVar 2) (eC (.int 1009))) (eC (.int 69621)))) (eC (.int 2147483629))))
  (sSeq (sSet 2 (eBin vMod (eBin vMulS (eVar 2) (eBin vAdd (eBin vAdd (eBin vFdiv (eVar 2) (eC (.int 907))) (eC (.int 16807))) (eVar 1))) (eC (.int 2147483629))))
  (sRet (eBin vMod (eBin vMulS (eVar 2) (eBin vAdd (eBin vFdiv (eVar 2) (eC (.int 1201))) (eC (.int 30011)))) (eC (.int 2147483629)))))))
def m_l_digits : MF := dDef 0
  (sRet (eLst [(eBin vMulS (eBin vFdiv (eVar 0) (eC (.int 2))) (eBin vSub (eC (.int 1)) (eBin vMod (eVar 0) (eC (.int 2))))), (eVar 0), (eC (.int 0))]))
def m_l_next : MF := dDef 1
  (sSeq (sIf (eBin vGt (eBin vIdx (eVar 0) (eC (.int 0))) (eC (.int 0))) (sSeq (sSet 2 (eBin vMod (eBin vIdx (eVar 0) (eC (.int 0))) (eVar 1)))
  (sSeq (sItem (eVar 0) (eC (.int 0)) (eBin vFdiv (eBin vIdx (eVar 0) (eC (.int 0))) (eVar 1)))
  (sRet (eVar 2)))) sPass)
  (sSeq (sItem (eVar 0) (eC (.int 2)) (eBin vAdd (eBin vIdx (eVar 0) (eC (.int 2))) (eC (.int 1))))
  (sRet (eBin vMod (eCallF m_l_mixed [(eBin vIdx (eVar 0) (eC (.int 1))), (eBin vIdx (eVar 0) (eC (.int 2)))]) (eVar 1)))))
def m_l_kinds : Exc → Store → Res := eDef 4
  (sSeq (sSet 1 (eLst [(eIsE 0 xall13 0 1), (eIsE 0 xall13 0 2), (eIsE 0 xall13 0 3), (eIsE 0 xall13 0 4)]))
  (sSeq (sSet 1 (eBin vAdd (eVar 1) (eLst [(eIsE 0 xall13 0 5), (eIsE 0 xall13 0 6), (eIsE 0 xall13 0 7), (eIsE 0 xall13 0 8)])))
  (sSeq (sSet 1 (eBin vAdd (eVar 1) (eLst [(eIsE 0 xall13 0 9), (eIsE 0 xall13 0 10), (eIsE 0 xall13 0 11), (eIsE 0 xall13 0 12)])))
  (sSeq (sSet 2 (eLst [(eC (.str "tree")), (eC (.str "house")), (eC (.str "seat")), (eC (.str "asker")), (eC (.str "letter")), (eC (.str "right")), (eC (.str "row")), (eC (.str "tie")), (eC (.str "down")), (eC (.str "mend")), (eC (.str "text")), (eC (.str "line"))]))
  (sSeq (sSet 3 (eComp [4] (iArg fRng1 [(eC (.int 12))]) (gN 4) (some (eBin vIdx (eVar 1) (eVar 4))) (eBin vIdx (eVar 2) (eVar 4))))
  (sSeq (sIf (eOr (eBin vNe (eCallF vLen [(eVar 3)]) (eC (.int 1))) (eNot (eIsV xall13 0))) (sRet (eC (.str "several"))) sPass)
  (sRet (eBin vIdx (eVar 3) (eC (.int 0))))))))))
def m_l_alike : Nat → MF
  | 0 => fun _ _ => .stuck
  | k + 1 => dDef 1
      (sSeq (sIf (eUn (vIsiT [.lst, .tup]) (eVar 1)) (sSeq (sIf (eOr (eBin vNe (eUn (vIsi .lst) (eVar 1)) (eUn (vIsi .lst) (eVar 0))) (eBin vNe (eUn (vIsi .tup) (eVar 1)) (eUn (vIsi .tup) (eVar 0)))) (sRet (eC (.bl false))) sPass)
        (sSeq (sIf (eBin vNe (eCallF vLen [(eVar 0)]) (eCallF vLen [(eVar 1)])) (sRet (eC (.bl false))) sPass)
        (sRet (eCallF vAll [(eComp [2] (iArg fRng1 [(eCallF vLen [(eVar 1)])]) (gN 2) none (eCallF (m_l_alike k) [(eBin vIdx (eVar 0) (eVar 2)), (eBin vIdx (eVar 1) (eVar 2))]))])))) sPass)
        (sRet (eAnd (eBin vEq (eUn (vIsi .bl) (eVar 0)) (eUn (vIsi .bl) (eVar 1))) (eBin vEq (eVar 0) (eVar 1)))))
end G
namespace G
open PySem L2 DL
set_option maxHeartbeats 4000000
def m_is_name : MF := dDef 1
  (sSeq (sIf (eOr (eNot (eUn (vIsi .str) (eVar 0))) (eNot (eChain vLe vLe (eC (.int 1)) (eCallF vLen [(eVar 0)]) (eC (.int 8))))) (sRet (eC (.bl false))) sPass)
  (sRet (eCallF vAll [(eComp [1] (iVal (eVar 0)) (gN 1) none (eBin (vInX false) (eVar 1) (eC (.str "abcdefghijklmnopqrstuvwxyz"))))])))
def m_Seat_init : MF := dDef 0
  (sSeq (sIf (eAnd (eBin vIsNot (eVar 1) (eC .non)) (eNot (eCallF m_is_name [(eVar 1)]))) (sRaise 3) sPass)
  (sSeq (sFldM 14 "led" (eVar 0) (eVar 1))
  (sSeq (sFldM 14 "waiting" (eVar 0) (eThaw (eLst [])))
  (sSeq (sFldM 14 "holder" (eVar 0) (eC .non))
  (sFldM 14 "asking" (eVar 0) (eC (.bl false)))))))
def m_Seat_arrow : MF := dDef 0
  (sRet (eFld 14 "led" (eVar 0)))
def m_Seat_row : MF := dDef 0
  (sRet (eCallF vList [(eFld 14 "waiting" (eVar 0))]))
def m_Seat_inside : MF := dDef 0
  (sRet (eFld 14 "holder" (eVar 0)))
def m_Seat_has_asked : MF := dDef 0
  (sRet (eFld 14 "asking" (eVar 0)))
end G
namespace G
open PySem L2 DL
set_option maxHeartbeats 4000000
def Src (S : Store) (n : Nat) : Prop := ∃ a c k : Int, S[n]? = some (.lst [.int a, .int c, .int k])
def Adv (n : Nat) (S S' : Store) : Prop := ∃ a c k : Int, S' = S.set n (.lst [.int a, .int c, .int k])
theorem Src.lt {S : Store} {n : Nat} (h : Src S n) : n < S.length := by
  obtain ⟨a, c, k, h⟩ := h
  exact (List.getElem?_eq_some_iff.mp h).1
theorem Adv.src {S S' : Store} {n : Nat} (h : Src S n) (a : Adv n S S') : Src S' n := by
  obtain ⟨a, c, k, rfl⟩ := a
  exact ⟨a, c, k, List.getElem?_set_self h.lt⟩
theorem Adv.len {S S' : Store} {n : Nat} (a : Adv n S S') : S'.length = S.length := by
  obtain ⟨a, c, k, rfl⟩ := a
  exact List.length_set
theorem Adv.trans {S S' S'' : Store} {n : Nat} (a : Adv n S S') (b : Adv n S' S'') : Adv n S S'' := by
  obtain ⟨a, c, k, rfl⟩ := a
  obtain ⟨a, c, k, rfl⟩ := b
  exact ⟨_, _, _, List.set_set ..⟩
theorem mixed_ok {a k : Int} {S : Store} {E : KE} : Ok E (m_l_mixed [.int a, .int k] S) fun d S' _ => ∃ i, d = .int i ∧ S' = S := by
  unfold m_l_mixed; rw [ok_def]
  simp [kDef]
  omega
theorem digits_ok {a : Int} {S : Store} {E : KE} : Ok E (m_l_digits [.int a] S) fun d S' fr => ∃ i, d = .lst [.int i, .int a, .int 0] ∧ S' = S ∧ fr = true := by
  unfold m_l_digits; rw [ok_def]
  simp [kDef]
  omega
theorem next_ok {n : Nat} {m : Int} {S : Store} {E : KE} (h : Src S n) (hm : 0 < m) (hb : m < 1000000000000000000000000000000) : Ok E (m_l_next [.ref n, .int m] S) fun d S' _ => ∃ i, d = .int i ∧ 0 ≤ i ∧ i < m ∧ Adv n S S' := by
  have hn := h.lt
  obtain ⟨a, c, k, h⟩ := h
  have e0 : vIdx (.ref n) (.int 0) S = .ok (.int a) S false := vIdx_ref h rfl
  have e2 : vIdx (.ref n) (.int 2) S = .ok (.int k) S false := vIdx_ref h rfl
  unfold m_l_next; rw [ok_def]
  simp [kDef, e0, e2]
  by_cases ha : 0 < a
  · simp only [ha, if_true]
    refine ⟨hm, ⟨hm, hb⟩, _, vSetItem_ref h rfl, ?_⟩
    simp
    exact ⟨Int.emod_nonneg _ (by omega), Int.emod_lt_of_pos _ hm, _, _, _, rfl⟩
  · simp only [ha, if_false]
    refine ⟨_, vSetItem_ref (j := 2) h rfl, ?_⟩
    have h' : (S.set n (.lst ([D.int a, .int c, .int k].set 2 (.int (k + 1)))))[n]? = some (.lst [.int a, .int c, .int (k + 1)]) := List.getElem?_set_self hn
    rw [vIdx_ref (i := 1) (d := .int c) h' rfl, ok_ok]
    have e2' := vIdx_ref (i := 2) (d := .int (k + 1)) h' rfl
    simp [e2', -List.set_cons_succ]
    refine mixed_ok.call fun d S' fr q => ?_
    obtain ⟨i, rfl, rfl⟩ := q
    simp
    exact ⟨hm, Int.emod_nonneg _ (by omega), Int.emod_lt_of_pos _ hm, _, _, _, rfl⟩
/-- small letters alone -/
def Low (x : Str) : Prop := ∀ c ∈ x.cps.toList, 97 ≤ c ∧ c ≤ 122
theorem letters_len : (Str.ofString "abcdefghijklmnopqrstuvwxyz").length = 26 := by decide +kernel
/-! ### alike -/
theorem vLen_seq {x : D} {S : Store} {xs : List D} (hd : dctOf S x = none) (hs : seqOf S x = some xs) : vLen [x] S = .ok (.int xs.length) S false := by
  cases x with
  | str z => cases hs
  | _ => unfold vLen; simp only [hd, hs]
theorem vIdx_seq {x : D} {S : Store} {xs : List D} {i : Int} {d : D} (hd : dctOf S x = none) (hs : seqOf S x = some xs) (e : atI xs i = some d) : vIdx x (.int i) S = .ok d S false := by
  cases x with
  | str z => cases hs
  | _ => unfold vIdx; simp only [hd, hs, e]
theorem atI_nat {α : Type} {xs : List α} {i : Nat} (h : i < xs.length) : atI xs (i : Int) = some xs[i] := by
  unfold atI ixN
  rw [if_pos (by omega), if_pos (by omega)]
  simp [List.getElem?_eq_getElem h]
@[simp] theorem vIsiT_eq {c : List Tag} {x : D} {t : Tag} {S : Store} (h : tagOf S x = some t) : vIsiT c x S = .ok (.bl (c.any fun c => isTag t c)) S false := by unfold vIsiT; rw [h]
theorem vIsi_eq {c : Tag} {x : D} {t : Tag} {S : Store} (h : tagOf S x = some t) : vIsi c x S = .ok (.bl (isTag t c)) S false := by unfold vIsi; rw [h]
theorem alike_seq {k : Nat} {x y : D} {S : Store} {xs : List D} {t : Tag} (ht : t = .lst ∨ t = .tup) (hx : tagOf S x = some t) (hy : tagOf S y = some t) (dx : dctOf S x = none) (dy : dctOf S y = none) (sx : seqOf S x = some xs) (sy : seqOf S y = some xs)
    (hl : xs.length ≤ 16777216) (h : ∀ d ∈ xs, m_l_alike k [d, d] S = .ok (.bl true) S false) : m_l_alike (k + 1) [x, y] S = .ok (.bl true) S false := by
  refine ok_eq ?_
  unfold m_l_alike; rw [ok_def]
  have i1 : ∀ c, vIsi c x S = .ok (.bl (isTag t c)) S false := fun c => vIsi_eq hx
  have i2 : ∀ c, vIsi c y S = .ok (.bl (isTag t c)) S false := fun c => vIsi_eq hy
  have i3 : ∀ c, vIsiT c y S = .ok (.bl (c.any fun c => isTag t c)) S false := fun c => vIsiT_eq hy
  have l1 := vLen_seq dx sx
  have l2 := vLen_seq dy sy
  have ht2 : (t = .lst ∨ t = .tup) := ht
  have hany : ([Tag.lst, Tag.tup].any fun c => isTag t c) = true := by rcases ht with rfl | rfl <;> rfl
  simp only [kDef, List.map_cons, List.map_nil, List.replicate, List.cons_append, List.nil_append, oks_seq, oks_if, ok_eun, ok_var]
  refine ⟨y, rfl, ?_⟩
  rw [i3, ok_ok, hany]
  simp [i1, i2, l1, l2]
  refine ⟨by omega, ?_⟩
  refine ok_compMap (fun _ => .bl true) (gdOk_none.mpr trivial) ?_ ?_
  · intro z hz
    unfold rngL at hz
    rw [List.mem_map] at hz
    obtain ⟨i, hi, rfl⟩ := hz
    have hi : i < xs.length := by simpa using hi
    have v1 := vIdx_seq dx sx (atI_nat hi)
    have v2 := vIdx_seq dy sy (atI_nat hi)
    have e : (0 : Int) + (i : Int) = (i : Int) := by omega
    simp [wipeE, v1, v2, h _ (List.getElem_mem hi)]
  · have e := vAll_map (S := S) (f := fun _ => true) (rngL 0 xs.length)
    rw [List.nil_append]
    simp [e]
/-- a value of no list or tuple that is like itself -/
def atomD : D → Bool
  | .non => true
  | .bl _ => true
  | .int _ => true
  | .str _ => true
  | _ => false
theorem vEq_atom {d : D} {S : Store} (h : atomD d = true) : vEq d d S = .ok (.bl true) S false := by
  cases d with
  | non => rfl
  | bl b => simp
  | int i => simp
  | str z =>
    show Res.ok (.bl (PyData.eqv (.str z) (.str z))) S false = _
    have : PyData.eqv (.str z) (.str z) = true := by simp [PyData.eqv]
    rw [this]
  | _ => cases h
theorem alike_atom {k : Nat} {d : D} {S : Store} (h : atomD d = true) : m_l_alike (k + 1) [d, d] S = .ok (.bl true) S false := by
  refine ok_eq ?_
  unfold m_l_alike; rw [ok_def]
  have e := vEq_atom (S := S) h
  cases d with
  | non => simp [kDef, e, vIsiT_eq (t := .non) (x := .non) rfl]
  | bl b => simp [kDef, e, vIsiT_eq (t := .bl) (x := .bl b) rfl]
  | int i => simp [kDef, e, vIsiT_eq (t := .int) (x := .int i) rfl]
  | str z => simp [kDef, e, vIsiT_eq (t := .str) (x := .str z) rfl]
  | _ => cases h
/-- lists and tuples of atoms, k deep -/
def plainD : Nat → D → Prop
  | 0, _ => False
  | k + 1, d => atomD d = true ∨ (∃ xs, (d = .lst xs ∨ d = .tup xs) ∧ xs.length ≤ 16777216 ∧ ∀ x ∈ xs, plainD k x)
theorem alike_plain {S : Store} : ∀ {k : Nat} {d : D}, plainD k d → m_l_alike k [d, d] S = .ok (.bl true) S false
  | 0, _, h => h.elim
  | k + 1, d, .inl h => alike_atom h
  | k + 1, _, .inr ⟨xs, .inl e, hl, h⟩ => by subst e; exact alike_seq (.inl rfl) rfl rfl rfl rfl rfl rfl hl fun d hd => alike_plain (h d hd)
  | k + 1, _, .inr ⟨xs, .inr e, hl, h⟩ => by subst e; exact alike_seq (.inr rfl) rfl rfl rfl rfl rfl rfl hl fun d hd => alike_plain (h d hd)
/-! ### the script's numbers -/
theorem src_new {S : Store} {j i : Int} : Src (S ++ [.lst [.int j, .int i, .int 0]]) S.length := ⟨j, i, 0, by simp⟩
end G
namespace G
open PySem L2 DL
set_option maxHeartbeats 4000000
def goodT (x : Str) : Bool := !(Builtin.Str.occurrences (Str.ofString "abcdefghijklmnopqrstuvwxyz") x 0 (Str.ofString "abcdefghijklmnopqrstuvwxyz").length 1).isEmpty
def goodC (c : Nat) : Bool := goodT ⟨#[c]⟩
def goodS (z : Str) : Bool := z.cps.toList.all goodC
def isName (z : Str) : Bool := decide (1 ≤ z.length ∧ z.length ≤ 8) && goodS z
theorem signs_ok {E1 E2 : KE} {P : KV'} {env : Env'} {S : Store} {z : Str} {b : Nat} (hz : z.length ≤ 16777216) (hb : b < env.length) (h : P (.bl (goodS z)) S false) :
    ∃ xs g, itemsOf S (.str z) = some (xs, g) ∧ Ok E1 (compL g (gN b) none (eBin (vInX false) (eVar b) (eC (.str "abcdefghijklmnopqrstuvwxyz"))) env xs [] S) fun d S1 _ => Ok E2 (vAll [d] S1) P := by
  have hi : itemsOf S (.str z) = some (z.cps.toList.map fun c => .str ⟨#[c]⟩, none) := if_pos hz
  refine ⟨_, _, hi, ok_compMap (fun x => match x with | .str s => .bl (goodT s) | _ => .non) (gdOk_none.mpr trivial) ?_ ?_⟩
  · intro x hx
    rw [List.mem_map] at hx
    obtain ⟨c, _, rfl⟩ := hx
    simp [List.getElem?_set_self hb]
    exact ⟨rfl, rfl⟩
  · rw [List.nil_append, List.map_map]
    show Ok E2 (vAll [.lst (z.cps.toList.map fun c => .bl (goodC c))] S) P
    rw [vAll_map]
    exact h
theorem is_name_str {z : Str} {S : Store} (hz : z.length ≤ 16777216) : m_is_name [.str z] S = .ok (.bl (isName z)) S false := by
  refine ok_eq ?_
  unfold m_is_name; rw [ok_def]
  simp [kDef]
  refine ⟨hz, ?_⟩
  split
  · split
    · refine signs_ok hz (by simp [wipeE]) ?_
      simp [isName]; omega
    · simp [isName]; omega
  · simp [isName]; omega
/-- a name of one to eight letters -/
def NameOk (z : Str) : Prop := Low z ∧ 1 ≤ z.length ∧ z.length ≤ 8
theorem NameOk.isName {z : Str} (h : NameOk z) : isName z = true := by
  have hg : ∀ c, c < 26 → goodC (97 + c) = true := by decide +kernel
  unfold G.isName goodS
  rw [Bool.and_eq_true, decide_eq_true_eq, List.all_eq_true]
  refine ⟨h.2, fun c hc => ?_⟩
  have := h.1 c hc
  have e := hg (c - 97) (by omega)
  rwa [show 97 + (c - 97) = c by omega] at e
theorem NameOk.is_name {z : Str} {S : Store} (h : NameOk z) : m_is_name [.str z] S = .ok (.bl true) S false := by
  rw [is_name_str (by have := h.2.2; omega), h.isName]
/-! ### a seat -/
structure SeatS where
  led : Option Str
  row : List (Str × Str)
  ins : Option Str
  ask : Bool
def optD : Option Str → D
  | none => .non
  | some z => .str z
def seatF (b : Nat) (s : SeatS) : List (Str × D) := [("led", optD s.led), ("waiting", .ref b), ("holder", optD s.ins), ("asking", .bl s.ask)]
theorem seat_no {b : Nat} {s : SeatS} {m : Str} (h1 : (m == "led") = false) (h2 : (m == "waiting") = false) (h3 : (m == "holder") = false) (h4 : (m == "asking") = false) : noAttr (seatF b s) m := by
  unfold noAttr
  simp only [seatF, List.lookup, h1, h2, h3, h4]
  rfl
structure SeatAt (S : Store) (a b : Nat) (s : SeatS) : Prop where
  ha : S[a]? = some (.ins 14 (seatF b s))
  hb : S[b]? = some (.lst (s.row.map pairD))
  ne : a ≠ b
  fit : s.row.length ≤ 10000
section
variable {S : Store} {a b : Nat} {s : SeatS} {E : KE}
theorem SeatAt.f_led (h : SeatAt S a b s) : vFld 14 "led" (.ref a) S = .ok (optD s.led) S false := vFld_ref h.ha (by simp [seatF])
theorem SeatAt.f_wait (h : SeatAt S a b s) : vFld 14 "waiting" (.ref a) S = .ok (.ref b) S false := vFld_ref h.ha (by simp [seatF, List.lookup_cons])
theorem SeatAt.f_hold (h : SeatAt S a b s) : vFld 14 "holder" (.ref a) S = .ok (optD s.ins) S false := vFld_ref h.ha (by simp [seatF, List.lookup_cons])
theorem SeatAt.f_ask (h : SeatAt S a b s) : vFld 14 "asking" (.ref a) S = .ok (.bl s.ask) S false := vFld_ref h.ha (by simp [seatF, List.lookup_cons])
end
/-! ### a seat's doors -/
section
variable {S : Store} {a b : Nat} {s : SeatS} {E : KE} {z : Str}
theorem arrow_ok (h : SeatAt S a b s) : m_Seat_arrow [.ref a] S = .ok (optD s.led) S false := by
  refine ok_eq ?_
  unfold m_Seat_arrow; rw [ok_def]
  simp [kDef, h.f_led]
theorem inside_ok (h : SeatAt S a b s) : m_Seat_inside [.ref a] S = .ok (optD s.ins) S false := by
  refine ok_eq ?_
  unfold m_Seat_inside; rw [ok_def]
  simp [kDef, h.f_hold]
theorem asked_ok (h : SeatAt S a b s) : m_Seat_has_asked [.ref a] S = .ok (.bl s.ask) S false := by
  refine ok_eq ?_
  unfold m_Seat_has_asked; rw [ok_def]
  simp [kDef, h.f_ask]
theorem row_ok (h : SeatAt S a b s) : m_Seat_row [.ref a] S = .ok (.lst (s.row.map pairD)) S true := by
  refine ok_eq ?_
  unfold m_Seat_row; rw [ok_def]
  simp [kDef, h.f_wait, vList_ref h.hb]
end
theorem SeatAt.keep {S S' : Store} {a b : Nat} {s : SeatS} (h : SeatAt S a b s) (ea : S'[a]? = S[a]?) (eb : S'[b]? = S[b]?) : SeatAt S' a b s := ⟨ea.trans h.ha, eb.trans h.hb, h.ne, h.fit⟩
theorem init_ok {S : Store} {E : KE} {o : Option Str} (ho : ∀ z, o = some z → NameOk z) : Ok E (m_Seat_init [.ref S.length, optD o] (S ++ [.ins 14 []])) fun d S' _ => d = .non ∧ SeatAt S' S.length (S.length + 1) ⟨o, [], none, false⟩ ∧ S'.length = S.length + 2 ∧ ∀ n, n < S.length → S'[n]? = S[n]? := by
  have hc : m_Seat_init [.ref S.length, optD o] (S ++ [.ins 14 []]) = .ok .non (S ++ [.ins 14 (seatF (S.length + 1) ⟨o, [], none, false⟩), .lst []]) false := by
    refine ok_eq ?_
    unfold m_Seat_init; rw [ok_def]
    have hg : (S ++ [O.ins 14 []])[S.length]? = some (.ins 14 []) := by simp
    have hn : ∀ z S, o = some z → m_is_name [.str z] S = .ok (.bl true) S false := fun z S e => (ho z e).is_name
    have fin : ∀ led : Option Str, finR false (S ++ [O.ins 14 []]) .non (S ++ [.ins 14 (seatF (S.length + 1) ⟨led, [], none, false⟩), .lst []]) false = .ok .non (S ++ [.ins 14 (seatF (S.length + 1) ⟨led, [], none, false⟩), .lst []]) false := fun led => by
      refine finR_keep (n := S.length) (o := .ins 14 (seatF (S.length + 1) ⟨led, [], none, false⟩)) (by simp) (by simp) (by simp [seatF]) ?_
      cases led <;> simp [O.lo, D.loF, D.lo, seatF, optD]
    cases o with
    | none =>
      simp [kDef, optD, thaw_lst, putD, List.getElem?_append, List.set_append]
      have := fin none
      simp [seatF, optD] at this
      simp [this, seatF, optD]
    | some z =>
      simp [kDef, optD, hn z, thaw_lst, putD, List.getElem?_append, List.set_append]
      have := fin (some z)
      simp [seatF, optD] at this
      simp [this, seatF, optD]
  rw [hc]
  refine ⟨rfl, ⟨by simp, by simp, by omega, by simp⟩, by simp, fun n hn => ?_⟩
  rw [List.getElem?_append_left hn]
end G
namespace G
open PySem L2 DL
set_option maxHeartbeats 4000000
/-! ### what a seat refuses -/
theorem trunc_self {S : Store} : trunc S S = S := by unfold trunc; split <;> simp
theorem ok_exc' {r : Res} {x : Exc} {S : Store} (h : Ok (fun e S' => e = x ∧ S' = S) r fun _ _ _ => False) : r = .exc x S := by
  cases r with
  | ok d S' fr => exact h.elim
  | exc e S' => obtain ⟨rfl, rfl⟩ := h; rfl
  | stuck => exact h.elim
/-- what is no name -/
def NotName (d : D) : Prop := ∀ S, m_is_name [d] S = .ok (.bl false) S false
section
variable {S : Store} {a b : Nat} {s : SeatS} {E : KE} {z : Str} {d : D}
end
/-! ### deeds -/
inductive Dd where
  | want (z : Str) | leave (z : Str) | done (z : Str) | ask (z : Str) | come (z : Str) (k : D)
section
variable {S : Store} {a b : Nat} {s : SeatS} {z : Str}
end
end G
namespace G
open PySem L2 DL
set_option maxHeartbeats 4000000
def m_l_names : MF := dDef 4
  (sSeq (sSet 2 (eC (.str "abcdefghijklmnopqrstuvwxyz")))
  (sSeq (sSet 3 (eCallF m_l_next [(eVar 0), (eC (.int 26))]))
  (sSeq (sSet 4 (eBM isStrD vJoin (eC (.str "")) [(eComp [5] (iArg fRng1 [(eC (.int 7))]) (gN 5) none (eBin vIdx (eVar 2) (eCallF m_l_next [(eVar 0), (eC (.int 26))])))]))
  (sRet (eComp [5] (iArg fRng1 [(eVar 1)]) (gN 5) none (eBin vAdd (eSlice (eVar 4) none (some (eCallF m_l_next [(eVar 0), (eC (.int 8))]))) (eBin vIdx (eVar 2) (eBin vMod (eBin vAdd (eVar 3) (eVar 5)) (eC (.int 26))))))))))
def m_l_odd : MF := dDef 4
  (sSeq (sSet 2 (eCallF m_l_next [(eVar 0), (eC (.int 4))]))
  (sSeq (sSet 3 (eLst [(eC (.str "")), (eC (.str "ninesigns")), (eC (.str "Gate")), (eC (.str "a1")), (eC (.str "a b")), (eC (.str "-")), (eC (.int 7)), (eC (.int 0)), (eC (.bl true)), (eC (.bl false)), (eLst [(eC (.str "a"))]), (eTup [(eC (.str "a")), (eC (.str "b"))]), eDct0, (eC (.str "gate ")), (eC (.str "\n"))]))
  (sSeq (sSet 4 (eC (.str " !\"#$&'()*+,-./0123456789:;<=>?@ABCDEFGHIJKLMNOPQRSTUVWXYZ[\\]^_`{|}~\n")))
  (sSeq (sIf (eBin vEq (eVar 2) (eC (.int 0))) (sSeq (sSet 5 (eCallF m_l_next [(eVar 0), (eCallF vLen [(eVar 1)])]))
  (sRet (eBin vAdd (eBin vAdd (eSlice (eVar 1) none (some (eVar 5))) (eBin vIdx (eVar 4) (eCallF m_l_next [(eVar 0), (eCallF vLen [(eVar 4)])]))) (eSlice (eVar 1) (some (eBin vAdd (eVar 5) (eC (.int 1)))) none)))) sPass)
  (sSeq (sIf (eBin vEq (eVar 2) (eC (.int 1))) (sRet (eSlice (eBin vMulS (eVar 1) (eC (.int 9))) none (some (eBin vAdd (eC (.int 9)) (eCallF m_l_next [(eVar 0), (eC (.int 3))]))))) sPass)
  (sRet (eBin vIdx (eVar 3) (eCallF m_l_next [(eVar 0), (eCallF vLen [(eVar 3)])]))))))))
end G
namespace G
open PySem L2 DL
set_option maxHeartbeats 4000000
def errWords : List String := ["tree", "house", "seat", "asker", "letter", "right", "row", "tie", "down", "mend", "text", "line"]
def wordOf (n : Nat) : Str := Str.ofString (errWords.getD (n - 1) "")
theorem vIdx_lst {xs : List D} {i : Nat} {d : D} {S : Store} (h : xs[i]? = some d) : vIdx (.lst xs) (.int (i : Int)) S = .ok d S false := by
  obtain ⟨hl, e⟩ := List.getElem?_eq_some_iff.mp h
  refine vIdx_seq rfl rfl ?_
  rw [atI_nat hl, e]
theorem kinds_ok {n : Nat} {S : Store} (h1 : 1 ≤ n) (h2 : n ≤ 12) : m_l_kinds ⟨n, none⟩ S = .ok (.str (wordOf n)) S false := by
  refine ok_eq ?_
  unfold m_l_kinds; rw [ok_edef]
  have hx : n ∈ xall13 := by simp; omega
  simp [kDef, hx, -List.mem_cons]
  have hr : rngL 0 12 = (List.range 12).map fun i : Nat => D.int (i : Int) := by unfold rngL; refine List.map_congr_left fun i _ => ?_; simp
  rw [hr]
  refine ok_compFM (fun i : Nat => i == n - 1) (fun i : Nat => .str (errWords.getD i "")) (gdOk_none.mpr trivial) ?_ ?_
  · intro i hi
    have hi : i < 12 := List.mem_range.mp hi
    refine ⟨_, rfl, ?_, fun _ => ?_⟩
    · simp [wipeE]
      rw [vIdx_lst (d := .bl (i == n - 1))]
      · exact ⟨rfl, rfl⟩
      · clear hx
        have hn : n = 1 ∨ n = 2 ∨ n = 3 ∨ n = 4 ∨ n = 5 ∨ n = 6 ∨ n = 7 ∨ n = 8 ∨ n = 9 ∨ n = 10 ∨ n = 11 ∨ n = 12 := by omega
        have : i = 0 ∨ i = 1 ∨ i = 2 ∨ i = 3 ∨ i = 4 ∨ i = 5 ∨ i = 6 ∨ i = 7 ∨ i = 8 ∨ i = 9 ∨ i = 10 ∨ i = 11 := by omega
        rcases this with rfl | rfl | rfl | rfl | rfl | rfl | rfl | rfl | rfl | rfl | rfl | rfl <;> (rcases hn with rfl | rfl | rfl | rfl | rfl | rfl | rfl | rfl | rfl | rfl | rfl | rfl <;> rfl)
    · simp [wipeE]
      rw [vIdx_lst (d := .str (errWords.getD i ""))]
      · exact ⟨rfl, rfl⟩
      · have : i = 0 ∨ i = 1 ∨ i = 2 ∨ i = 3 ∨ i = 4 ∨ i = 5 ∨ i = 6 ∨ i = 7 ∨ i = 8 ∨ i = 9 ∨ i = 10 ∨ i = 11 := by omega
        rcases this with rfl | rfl | rfl | rfl | rfl | rfl | rfl | rfl | rfl | rfl | rfl | rfl <;> rfl
  · have hf : (List.range 12).filter (fun i => i == n - 1) = [n - 1] := by
      have : n = 1 ∨ n = 2 ∨ n = 3 ∨ n = 4 ∨ n = 5 ∨ n = 6 ∨ n = 7 ∨ n = 8 ∨ n = 9 ∨ n = 10 ∨ n = 11 ∨ n = 12 := by omega
      rcases this with rfl | rfl | rfl | rfl | rfl | rfl | rfl | rfl | rfl | rfl | rfl | rfl <;> decide
    rw [hf]
    simp [hx, -List.mem_cons]
    rfl
/-! ### drawn names -/
theorem Adv.refl {S : Store} {n : Nat} (h : Src S n) : Adv n S S := by
  obtain ⟨a, c, k, h⟩ := h
  refine ⟨a, c, k, (List.ext_getElem? fun i => ?_)⟩
  by_cases hi : n = i
  · subst hi
    rw [List.getElem?_set_self (List.getElem?_eq_some_iff.mp h).1, h]
  · rw [List.getElem?_set_ne hi]
theorem letters_at {S : Store} {i : Int} (h0 : 0 ≤ i) (h1 : i < 26) : vIdx (.str "abcdefghijklmnopqrstuvwxyz") (.int i) S = .ok (.str ⟨#[97 + i.toNat]⟩) S false := by
  obtain ⟨c, ec, e⟩ := vIdx_s (S := S) (z := Str.ofString "abcdefghijklmnopqrstuvwxyz") h0 (by rw [letters_len]; exact h1) (by rw [letters_len]; decide)
  rw [e]
  have hall : ∀ j, j < 26 → (Str.ofString "abcdefghijklmnopqrstuvwxyz").cps.toList[j]? = some (97 + j) := by decide +kernel
  rw [hall i.toNat (by omega)] at ec
  rw [← Option.some.inj ec]
theorem low_one {i : Nat} (h : i < 26) : Low ⟨#[97 + i]⟩ := fun d hd => by
  have : d = 97 + i := by simpa using hd
  omega
theorem letters_comp {E : KE} {P : KV'} {n b : Nat} {env : Env'} {items : List D} {S : Store} (h : Src S n) (e0 : env[0]? = some (.val (.ref n))) (e2 : env[2]? = some (.val (.str "abcdefghijklmnopqrstuvwxyz"))) (b0 : b ≠ 0) (b2 : b ≠ 2)
    (k : ∀ (ws : List Str) S', Adv n S S' → ws.length = items.length → (∀ w ∈ ws, w.length = 1 ∧ Low w) → P (.lst (ws.map fun x => D.str x)) S' true) :
    Ok E (compL none (gN b) none (eBin vIdx (eVar 2) (eCallF m_l_next [(eVar 0), (eC (.int 26))])) env items [] S) P := by
  refine ok_compL (fun r acc S' => Src S' n ∧ Adv n S S' ∧ acc.length + r.length = items.length ∧ ∃ ws : List Str, acc = ws.map (fun x => D.str x) ∧ ∀ w ∈ ws, w.length = 1 ∧ Low w) ⟨h, .refl h, by simp, [], rfl, by simp⟩ ?_ ?_
  · rintro x r acc S2 ⟨s2, a2, hl, ws, rfl, hw⟩
    simp [List.getElem?_set_ne b0, List.getElem?_set_ne b2, e0, e2]
    refine (next_ok s2 (by omega) (by omega)).call fun d S3 fr q => ?_
    obtain ⟨j, rfl, h2, h3, a3⟩ := q
    rw [letters_at h2 h3]
    refine ⟨a3.src s2, a2.trans a3, by simp at hl ⊢; omega, ws ++ [⟨#[97 + j.toNat]⟩], by simp, ?_⟩
    intro w hw'
    rw [List.mem_append] at hw'
    rcases hw' with hw' | hw'
    · exact hw w hw'
    · rw [List.mem_singleton] at hw'
      subst hw'
      exact ⟨rfl, low_one (by omega)⟩
  · rintro acc S2 ⟨s2, a2, hl, ws, rfl, hw⟩
    exact ⟨gdOk_none.mpr trivial, k ws S2 a2 (by simpa using hl) hw⟩
theorem sum_ones : ∀ {ws : List Str}, (∀ w ∈ ws, w.length = 1 ∧ Low w) → (ws.map fun y => y.length).sum = ws.length
  | [], _ => rfl
  | w :: r, hw => by
    rw [List.map_cons, List.sum_cons, (hw w List.mem_cons_self).1, sum_ones fun x hx => hw x (List.mem_cons_of_mem _ hx), List.length_cons]; omega
theorem join_ones {ws : List Str} {S : Store} (hw : ∀ w ∈ ws, w.length = 1 ∧ Low w) (hl : ws.length ≤ 1000) : vJoin (.str "") [.lst (ws.map fun x => D.str x)] S = .ok (.str (Txt.join "" ws)) S false ∧ Low (Txt.join "" ws) ∧ (Txt.join "" ws).length = ws.length := by
  have hll := sum_ones hw
  have ez : (Str.ofString "").length = 0 := by decide +kernel
  refine ⟨?_, fun c hc => ?_, ?_⟩
  · unfold vJoin
    have e1 : seqOf S (.lst (ws.map fun x => D.str x)) = some (ws.map fun x => D.str x) := rfl
    have e2 : strsOf (ws.map fun x => D.str x) = some ws := by have := strsOf_map (f := fun x => x) ws; simpa using this
    simp only [e1, e2]
    rw [if_pos (by rw [hll, ez]; omega)]
  · rw [join0_tl, List.mem_flatten] at hc
    obtain ⟨l, hl, hc⟩ := hc
    rw [List.mem_map] at hl
    obtain ⟨w, hw', rfl⟩ := hl
    exact (hw w hw').2 c hc
  · rw [str_len, join0_tl, List.length_flatten, List.map_map]
    have e : (ws.map (List.length ∘ fun y => y.cps.toList)) = ws.map fun y => y.length := by
      apply List.map_congr_left; intro y _; exact (str_len y).symm
    rw [e, hll]
theorem cutS_pre (z : Str) (i : Int) (h0 : 0 ≤ i) : (cutS z none (some i)).cps.toList = z.cps.toList.take i.toNat := by
  unfold cutS
  have : HT.sIx z.length z.length (some i) = min i.toNat z.length := by
    show (if i < 0 then _ else min i.toNat z.length) = _
    rw [if_neg (by omega)]
  rw [this, HT.sIx_none]
  simp only [List.drop_zero, Nat.sub_zero]
  rw [str_len]
  rw [List.take_eq_take_iff]
  omega
theorem Low.append {x y : Str} (hx : Low x) (hy : Low y) : Low (x ++ y) := fun c hc => by
  rw [append_tl, List.mem_append] at hc
  exact hc.elim (hx c) (hy c)
theorem Low.cut {x : Str} (h : Low x) (lo hi : Option Int) : Low (cutS x lo hi) := fun c hc => h c (cutS_mem hc)
def lastC (z : Str) : Option Nat := z.cps.toList.getLast?
theorem nodup_of_last {f : Nat → Nat} {zs : List Str} (h : ∀ i (hi : i < zs.length), lastC zs[i] = some (f i)) (hf : ∀ i j, i < zs.length → j < zs.length → f i = f j → i = j) : zs.Nodup := by
  unfold List.Nodup
  rw [List.pairwise_iff_getElem]
  intro i j hi hj hij e
  have h1 := h i hi
  have h2 := h j hj
  rw [e, h2] at h1
  have := hf j i hj hi (Option.some.inj h1)
  omega
theorem lastC_app (x : Str) (c : Nat) : lastC (x ++ ⟨#[c]⟩) = some c := by
  unfold lastC
  rw [append_tl]
  simp
theorem names_ok {n : Nat} {m : Int} {S : Store} {E : KE} (h : Src S n) (hm : 0 ≤ m) (hb : m ≤ 26) : Ok E (m_l_names [.ref n, .int m] S) fun d S' fr => ∃ zs : List Str, d = .lst (zs.map fun x => D.str x) ∧ zs.length = m ∧ zs.Nodup ∧ (∀ z ∈ zs, NameOk z) ∧ Adv n S S' ∧ fr = true := by
  unfold m_l_names; rw [ok_def]
  simp [kDef]
  refine (next_ok h (by omega) (by omega)).call fun d S1 fr q => ?_
  obtain ⟨st, rfl, h0, h1, a1⟩ := q
  simp
  refine letters_comp (a1.src h) rfl rfl (by decide) (by decide) fun ws S2 a2 hl hw => ?_
  have hl : ws.length = 7 := by simpa [rngL] using hl
  obtain ⟨ej, lj, jl⟩ := join_ones (S := S2) hw (by omega)
  simp [ej]
  generalize Txt.join "" ws = stem at lj jl
  refine ⟨by omega, ?_⟩
  have s2 := a2.src (a1.src h)
  refine ok_compL (fun r acc S' => Src S' n ∧ Adv n S S' ∧ ∃ zs : List Str, acc = zs.map (fun x => D.str x) ∧ r = (rngL 0 m.toNat).drop zs.length ∧ zs.length ≤ m.toNat ∧ (∀ z ∈ zs, NameOk z) ∧ ∀ i (hi : i < zs.length), lastC zs[i] = some (97 + ((st + i) % 26).toNat)) ⟨s2, a1.trans a2, [], rfl, rfl, by simp, by simp, by simp⟩ ?_ ?_
  · rintro x r acc S3 ⟨s3, a3, zs, rfl, er, hz, hn, hlast⟩
    have hlt : zs.length < m.toNat := by
      have := congrArg List.length er
      simp [rngL] at this
      omega
    have ex : x = .int zs.length := by
      have := congrArg (fun l => l[0]?) er
      simp [rngL, hlt] at this
      exact this
    have er' : r = (rngL 0 m.toNat).drop (zs.length + 1) := by
      have := congrArg List.tail er
      simpa using this
    subst ex
    simp [wipeE]
    refine (next_ok s3 (by omega) (by omega)).call fun d S4 fr q => ?_
    obtain ⟨c, rfl, h2, h3, a4⟩ := q
    have hmod := Int.emod_nonneg (st + (zs.length : Int)) (by omega : (26 : Int) ≠ 0)
    have hmod2 := Int.emod_lt_of_pos (st + (zs.length : Int)) (by omega : (0 : Int) < 26)
    have c1 := cutS_len stem none (some c)
    have hq : (⟨#[97 + ((st + (zs.length : Int)) % 26).toNat]⟩ : Str).length = 1 := rfl
    simp [letters_at hmod hmod2, hq]
    refine ⟨by omega, by omega, a4.src s3, a3.trans a4, zs ++ [cutS stem none (some c) ++ ⟨#[97 + ((st + (zs.length : Int)) % 26).toNat]⟩], by simp, by simpa using er', by simp; omega, ?_, ?_⟩
    · intro z hz'
      rw [List.mem_append, List.mem_singleton] at hz'
      rcases hz' with hz' | rfl
      · exact hn z hz'
      · refine ⟨(lj.cut _ _).append (low_one (by omega)), ?_, ?_⟩
        · rw [str_len_append, hq]; omega
        · rw [str_len_append, hq]; omega
    · intro i hi
      by_cases hi2 : i < zs.length
      · rw [List.getElem_append_left hi2]; exact hlast i hi2
      · have : i = zs.length := by simp at hi; omega
        subst this
        rw [List.getElem_append_right (by omega)]
        simp [lastC_app]
  · rintro acc S3 ⟨s3, a3, zs, rfl, er, hz, hn, hlast⟩
    have hlen : zs.length = m.toNat := by
      have := congrArg List.length er
      simp [rngL] at this
      omega
    refine ⟨gdOk_none.mpr trivial, ?_⟩
    simp [a3.len]
    refine ⟨zs, rfl, by omega, nodup_of_last hlast fun i j hi hj e => ?_, hn, a3⟩
    omega

/-! ### odd things -/
structure OddOk (d : D) : Prop where
  nn : NotName d
  noIn : ∀ (zs : List Str) (neg : Bool) (S : Store), (∀ z ∈ zs, NameOk z) → vInX neg d (.lst (zs.map D.str)) S = inRes neg false S
  lo : ∀ k, D.lo k d = true
  flat : ∀ n, d ≠ .ref n
  kind : (∃ z, d = .str z ∧ z.length ≤ 1000 ∧ isName z = false) ∨ ∀ S, vIsi .str d S = .ok (.bl false) S false
theorem odd_str {z : Str} (hl : z.length ≤ 1000) (h : isName z = false) : OddOk (.str z) := by
  refine ⟨fun S => by rw [is_name_str (by omega), h], fun zs neg S hz => ?_, fun _ => rfl, (fun n e => by cases e), .inl ⟨z, rfl, hl, h⟩⟩
  rw [vInX_s]
  have := vIn_lst (S := S) (neg := neg) (l := zs) (a := z) tells_str
  rw [this, decide_eq_false]
  intro hm
  rw [(hz z hm).isName] at h
  cases h
theorem in_none {d : D} {p : PyData} {zs : List Str} {neg : Bool} {S : Store} (h : snap 60 S d = some p) (hp : ∀ z, PyData.eqv (.str z) p = false) : vIn neg d (.lst (zs.map D.str)) S = inRes neg false S := by
  have e2 := tells_str.all 57 S zs
  unfold vIn
  have h1 : dctOf S (.lst (zs.map D.str)) = none := rfl
  have h2 : lstOf S (.lst (zs.map D.str)) = some (zs.map D.str) := rfl
  simp only [h1, h2, h, e2]
  have : ((zs.map PyData.str).any fun z => PyData.eqv z p) = false := by
    rw [List.any_eq_false]
    intro x hx
    rw [List.mem_map] at hx
    obtain ⟨z, _, rfl⟩ := hx
    rw [hp z]; simp
  rw [this]
theorem nn_of {d : D} (h : ∀ S, vIsi .str d S = .ok (.bl false) S false) : NotName d := fun S => by
  refine ok_eq ?_
  unfold m_is_name; rw [ok_def]
  simp [kDef, h]
theorem odd_int (i : Int) : OddOk (.int i) := ⟨nn_of fun S => rfl, fun zs neg S _ => in_none (p := .int i) rfl fun z => rfl, fun _ => rfl, (fun n e => by cases e), .inr fun S => rfl⟩
theorem odd_bl (b : Bool) : OddOk (.bl b) := ⟨nn_of fun S => rfl, fun zs neg S _ => in_none (p := .bool b) rfl fun z => rfl, fun _ => rfl, (fun n e => by cases e), .inr fun S => rfl⟩
theorem odd_lst : OddOk (.lst [.str "a"]) := ⟨nn_of fun S => rfl, fun zs neg S _ => in_none (p := .list [.str "a"]) rfl fun z => rfl, fun _ => rfl, (fun n e => by cases e), .inr fun S => rfl⟩
theorem odd_tup : OddOk (.tup [.str "a", .str "b"]) := ⟨nn_of fun S => rfl, fun zs neg S _ => in_none (p := .tuple [.str "a", .str "b"]) rfl fun z => rfl, fun _ => rfl, (fun n e => by cases e), .inr fun S => rfl⟩
theorem all_isS (zs : List Str) : (zs.map D.str).all isS = true := by
  rw [List.all_eq_true]
  intro x hx
  rw [List.mem_map] at hx
  obtain ⟨z, _, rfl⟩ := hx
  rfl
theorem odd_dct : OddOk (.dct []) := ⟨nn_of fun S => rfl, fun zs neg S _ => by
  show (match lstOf S (.lst (zs.map D.str)) with
    | some ys => if ys.all isS = true then inRes neg false S else .stuck
    | none => .stuck) = _
  show (if (zs.map D.str).all isS = true then inRes neg false S else .stuck) = _
  rw [all_isS, if_pos rfl], fun _ => rfl, (fun n e => by cases e), .inr fun S => rfl⟩
def oddMenu : List D := [.str "", .str "ninesigns", .str "Gate", .str "a1", .str "a b", .str "-", .int 7, .int 0, .bl true, .bl false, .lst [.str "a"], .tup [.str "a", .str "b"], .dct [], .str "gate ", .str "\n"]
theorem odd_menu : ∀ d ∈ oddMenu, OddOk d := by
  have s : ∀ x : String, (Str.ofString x).length ≤ 1000 → isName (Str.ofString x) = false → OddOk (.str x) := fun x => odd_str
  intro d hd
  simp only [oddMenu, List.mem_cons, List.not_mem_nil, or_false] at hd
  rcases hd with rfl | rfl | rfl | rfl | rfl | rfl | rfl | rfl | rfl | rfl | rfl | rfl | rfl | rfl | rfl
  · exact s "" (by decide +kernel) (by decide +kernel)
  · exact s "ninesigns" (by decide +kernel) (by decide +kernel)
  · exact s "Gate" (by decide +kernel) (by decide +kernel)
  · exact s "a1" (by decide +kernel) (by decide +kernel)
  · exact s "a b" (by decide +kernel) (by decide +kernel)
  · exact s "-" (by decide +kernel) (by decide +kernel)
  · exact odd_int 7
  · exact odd_int 0
  · exact odd_bl true
  · exact odd_bl false
  · exact odd_lst
  · exact odd_tup
  · exact odd_dct
  · exact s "gate " (by decide +kernel) (by decide +kernel)
  · exact s "\n" (by decide +kernel) (by decide +kernel)
def oddSigns : String := " !\"#$&'()*+,-./0123456789:;<=>?@ABCDEFGHIJKLMNOPQRSTUVWXYZ[\\]^_`{|}~\n"
theorem odd_signs : ∀ c ∈ (Str.ofString oddSigns).cps.toList, goodC c = false := by decide +kernel
theorem odd_len : (Str.ofString oddSigns).length = 69 := by decide +kernel
theorem notName_sign {x y : Str} {c : Nat} (h : goodC c = false) : isName (x ++ ⟨#[c]⟩ ++ y) = false := by
  unfold isName goodS
  rw [Bool.and_eq_false_iff]
  right
  rw [List.all_eq_false]
  refine ⟨c, ?_, by rw [h]; simp⟩
  rw [append_tl, append_tl]
  simp
theorem notName_long {z : Str} (h : 9 ≤ z.length) : isName z = false := by
  unfold isName
  rw [Bool.and_eq_false_iff]
  left
  rw [decide_eq_false_iff_not]
  omega
theorem mul_len {x : Str} {k : Int} (h : 1 ≤ k) (hx : 0 < x.length) : (Txt.mul x k).length = k.toNat * x.length := by
  rw [str_len, mul_tl h hx, List.length_flatten, List.map_replicate, List.sum_replicate_nat, ← str_len]
theorem cut_to_len {z : Str} {i : Int} (h : 0 ≤ i) : (cutS z none (some i)).length = min i.toNat z.length := by
  rw [str_len, cutS_pre z i h, List.length_take, ← str_len]
theorem vIdx_l {xs : List D} {i : Int} {S : Store} (h0 : 0 ≤ i) (h1 : i < xs.length) : ∃ d ∈ xs, vIdx (.lst xs) (.int i) S = .ok d S false := by
  have hl : i.toNat < xs.length := by omega
  refine ⟨xs[i.toNat], List.getElem_mem hl, ?_⟩
  have := vIdx_lst (S := S) (List.getElem?_eq_getElem hl)
  rwa [show ((i.toNat : Nat) : Int) = i by omega] at this
theorem odd_okn {n : Nat} {S : Store} {E : KE} {z : Str} (h : Src S n) (hz : NameOk z) : Ok E (m_l_odd [.ref n, .str z] S) fun d S' _ => OddOk d ∧ d ≠ .non ∧ Adv n S S' := by
  obtain ⟨lz, z1, z8⟩ := hz
  unfold m_l_odd; rw [ok_def]
  simp [kDef]
  refine (next_ok h (by omega) (by omega)).call fun d S1 fr q => ?_
  obtain ⟨w, rfl, w0, w4, a1⟩ := q
  have s1 := a1.src h
  simp
  by_cases e0 : w = 0
  · simp [e0]
    refine ⟨by omega, ?_⟩
    refine (next_ok s1 (by omega) (by omega)).call fun d S2 fr q => ?_
    obtain ⟨p, rfl, p0, p1, a2⟩ := q
    have s2 := a2.src s1
    simp
    refine ⟨by omega, ?_⟩
    have hol : (Str.ofString oddSigns).length = 69 := odd_len
    have hol : (Str.ofString " !\"#$&'()*+,-./0123456789:;<=>?@ABCDEFGHIJKLMNOPQRSTUVWXYZ[\\]^_`{|}~\n").length = 69 := hol
    simp [hol]
    refine (next_ok s2 (by omega) (by omega)).call fun d S3 fr q => ?_
    obtain ⟨j, rfl, j0, j1, a3⟩ := q
    obtain ⟨c, ec, ev⟩ := vIdx_s (S := S3) (z := Str.ofString " !\"#$&'()*+,-./0123456789:;<=>?@ABCDEFGHIJKLMNOPQRSTUVWXYZ[\\]^_`{|}~\n") j0 (by rw [hol]; omega) (by rw [hol]; decide)
    have c1 := cutS_len z none (some p)
    have c2 := cutS_len z (some (p + 1)) none
    have hone : (⟨#[c]⟩ : Str).length = 1 := rfl
    have hl3 : S3.length = S.length := by rw [a3.len, a2.len, a1.len]
    simp [ev, hone, hl3]
    refine ⟨by omega, by omega, by omega, odd_str (by simp [hone]; omega) (notName_sign (odd_signs c (List.mem_of_getElem? ec))), (a1.trans a2).trans a3⟩
  · simp [e0]
    by_cases e1 : w = 1
    · simp [e1]
      refine ⟨⟨by omega, by omega⟩, ?_⟩
      refine (next_ok s1 (by omega) (by omega)).call fun d S2 fr q => ?_
      obtain ⟨p, rfl, p0, p1, a2⟩ := q
      have hm := mul_len (x := z) (k := 9) (by omega) (by omega)
      have hm : (Txt.mul z 9).length = 9 * z.length := hm
      have hl2 : S2.length = S.length := by rw [a2.len, a1.len]
      simp [hl2]
      have hc := cut_to_len (z := Txt.mul z 9) (i := 9 + p) (by omega)
      refine ⟨by omega, odd_str (by omega) (notName_long (by omega)), a1.trans a2⟩
    · simp [e1]
      refine (next_ok s1 (by omega) (by omega)).call fun d S2 fr q => ?_
      obtain ⟨p, rfl, p0, p1, a2⟩ := q
      have hl2 : S2.length = S.length := by rw [a2.len, a1.len]
      obtain ⟨d, hd, ed⟩ := vIdx_l (xs := oddMenu) (i := p) (S := S2) p0 (by simpa [oddMenu] using p1)
      have ed : vIdx (.lst [.str "", .str "ninesigns", .str "Gate", .str "a1", .str "a b", .str "-", .int 7, .int 0, .bl true, .bl false, .lst [.str "a"], .tup [.str "a", .str "b"], .dct [], .str "gate ", .str "\n"]) (.int p) S2 = .ok d S2 false := ed
      simp [ed, hl2]
      exact ⟨odd_menu d hd, (fun e => by subst e; simp [oddMenu] at hd), a1.trans a2⟩
end G
namespace G
open PySem L2 DL
set_option maxHeartbeats 4000000
/-! ### a machine's seat: a dict -/
section
variable {S : Store} {m r : Nat} {s : SeatS} {E : KE} {z : Str}
end
end G
namespace G
open PySem L2 DL
set_option maxHeartbeats 4000000
def m_l_told : MF := dDef 0
  (sRet (eLst [(eMeth 14 "arrow" m_Seat_arrow (eVar 0) []), (eMeth 14 "row" m_Seat_row (eVar 0) []), (eMeth 14 "inside" m_Seat_inside (eVar 0) []), (eMeth 14 "has_asked" m_Seat_has_asked (eVar 0) [])]))
end G
namespace G
open PySem L2 DL
set_option maxHeartbeats 4000000
/-! ### deeds told to a seat and to the machine -/
section
variable {S : Store} {a b m r : Nat} {s : SeatS} {E : KE} {z : Str}
end
section
variable {S : Store} {a b : Nat} {s : SeatS} {E : KE} {z : Str}
theorem told_ok (h : SeatAt S a b s) : m_l_told [.ref a] S = .ok (.lst [optD s.led, .lst (s.row.map pairD), optD s.ins, .bl s.ask]) S true := by
  refine ok_eq ?_
  have hi := insOf_ref h.ha
  unfold m_l_told; rw [ok_def]
  simp [kDef]
  refine ⟨_, hi, seat_no (by simp) (by simp) (by simp) (by simp), ?_⟩
  simp [arrow_ok h]
  refine ⟨_, hi, seat_no (by simp) (by simp) (by simp) (by simp), ?_⟩
  simp [row_ok h]
  refine ⟨_, hi, seat_no (by simp) (by simp) (by simp) (by simp), ?_⟩
  simp [inside_ok h]
  refine ⟨_, hi, seat_no (by simp) (by simp) (by simp) (by simp), ?_⟩
  simp [asked_ok h]
end
/-! ### pools -/
end G
namespace G
open PySem L2 DL
set_option maxHeartbeats 4000000
/-! ### the machine's answer -/
section
variable {S : Store} {m r : Nat} {s : SeatS} {E : KE} {z : Str}
end
/-! ### what is told, alike -/
theorem optD_atom (h : Option Str) : atomD (optD h) = true := by cases h <;> rfl
theorem pair_plain {k : Nat} (p : Str × Str) : plainD (k + 2) (pairD p) := .inr ⟨_, .inr rfl, by simp, fun x hx => by
  simp only [List.mem_cons, List.not_mem_nil, or_false] at hx
  rcases hx with rfl | rfl <;> exact .inl rfl⟩
theorem told_alike {S : Store} {row : List (Str × Str)} {led h : Option Str} {k : Bool} (hl : row.length ≤ 10000) : m_l_alike 6 [.lst [optD led, .lst (row.map pairD), optD h, .bl k], .lst [optD led, .lst (row.map pairD), optD h, .bl k]] S = .ok (.bl true) S false := by
  refine alike_plain (.inr ⟨_, .inl rfl, by simp, fun x hx => ?_⟩)
  simp only [List.mem_cons, List.not_mem_nil, or_false] at hx
  rcases hx with rfl | rfl | rfl | rfl
  · exact .inl (optD_atom _)
  · refine .inr ⟨_, .inl rfl, by simp; omega, fun y hy => ?_⟩
    rw [List.mem_map] at hy
    obtain ⟨p, _, rfl⟩ := hy
    exact pair_plain p
  · exact .inl (optD_atom _)
  · exact .inl rfl
end G
namespace G
open PySem L2 DL
set_option maxHeartbeats 4000000
/-! ### alike, through the store -/
section
variable {S : Store} {k : Nat}
end
end G
namespace G
open PySem L2 DL
set_option maxHeartbeats 4000000
end G
namespace G
open PySem L2 DL
set_option maxHeartbeats 4000000
/-! ### all that can be done -/
/-! ### deeds of known names -/
end G
namespace G
open PySem L2 DL
set_option maxHeartbeats 4000000
theorem items_int {ns : List Int} {lo hi : Option Int} : (∀ x ∈ cutD (ns.map D.int) lo hi, ∃ i, x = .int i) ∧ (cutD (ns.map D.int) lo hi).length ≤ ns.length := by
  refine ⟨fun x hx => ?_, ?_⟩
  · unfold cutD at hx
    have := List.mem_of_mem_drop (List.mem_of_mem_take hx)
    rw [List.mem_map] at this
    obtain ⟨i, _, rfl⟩ := this
    exact ⟨i, rfl⟩
  · unfold cutD
    rw [List.length_take, List.length_drop, List.length_map]
    omega
end G
namespace G
open PySem L2 DL
set_option maxHeartbeats 4000000
/-! ### the mirrors -/
def m_l_kindsv : MF := dDef 4
  (sSeq (sSet 1 (eLst [(eUn (vIsErr 0 xall13 1) (eVar 0)), (eUn (vIsErr 0 xall13 2) (eVar 0)), (eUn (vIsErr 0 xall13 3) (eVar 0)), (eUn (vIsErr 0 xall13 4) (eVar 0))]))
  (sSeq (sSet 1 (eBin vAdd (eVar 1) (eLst [(eUn (vIsErr 0 xall13 5) (eVar 0)), (eUn (vIsErr 0 xall13 6) (eVar 0)), (eUn (vIsErr 0 xall13 7) (eVar 0)), (eUn (vIsErr 0 xall13 8) (eVar 0))])))
  (sSeq (sSet 1 (eBin vAdd (eVar 1) (eLst [(eUn (vIsErr 0 xall13 9) (eVar 0)), (eUn (vIsErr 0 xall13 10) (eVar 0)), (eUn (vIsErr 0 xall13 11) (eVar 0)), (eUn (vIsErr 0 xall13 12) (eVar 0))])))
  (sSeq (sSet 2 (eLst [(eC (.str "tree")), (eC (.str "house")), (eC (.str "seat")), (eC (.str "asker")), (eC (.str "letter")), (eC (.str "right")), (eC (.str "row")), (eC (.str "tie")), (eC (.str "down")), (eC (.str "mend")), (eC (.str "text")), (eC (.str "line"))]))
  (sSeq (sSet 3 (eComp [4] (iArg fRng1 [(eC (.int 12))]) (gN 4) (some (eBin vIdx (eVar 1) (eVar 4))) (eBin vIdx (eVar 2) (eVar 4))))
  (sSeq (sIf (eOr (eBin vNe (eCallF vLen [(eVar 3)]) (eC (.int 1))) (eNot (eUn (vIsErrV xall13) (eVar 0)))) (sRet (eC (.str "several"))) sPass)
  (sRet (eBin vIdx (eVar 3) (eC (.int 0))))))))))
def m_l_made_of_texts : MF := dDef 3
  (sSeq (sSet 0 (eLst [(eErr 1), (eErr 2), (eErr 3), (eErr 4), (eErr 5)]))
  (sSeq (sSet 0 (eBin vAdd (eVar 0) (eLst [(eErr 6), (eErr 7), (eErr 8), (eErr 9), (eErr 10)])))
  (sSeq (sSet 0 (eBin vAdd (eVar 0) (eLst [(eErr 12)])))
  (sSeq (sSet 1 (eLst [(eC (.str "tree")), (eC (.str "house")), (eC (.str "seat")), (eC (.str "asker")), (eC (.str "letter")), (eC (.str "right")), (eC (.str "row")), (eC (.str "tie")), (eC (.str "down")), (eC (.str "mend")), (eC (.str "line"))]))
  (sSeq (sIf (eBin vNe (eComp [2] (iVal (eVar 0)) (gN 2) none (eCallF m_l_kindsv [(eVar 2)])) (eVar 1)) (sRet (eC (.bl false))) sPass)
  (sRet (eCallF vAll [(eComp [2] (iVal (eVar 0)) (gN 2) none (eUn (vIsErr 0 xall13 0) (eVar 2)))])))))))
def m_l_refusal : MF := dDef 1
  (sSeq (sTryAs 0 xall13 0 1 (sExpr (eNew 14 m_Seat_init [(eVar 0)])) (sRet (eCallE m_l_kinds 1)))
  (sRet (eC (.str "made"))))
def m_law_b1 : MS :=
  (sSeq (sIf (eNot (eCallF (m_l_alike 6) [(eCallF m_l_told [(eVar 5)]), (eLst [(eVar 4), (eLst []), (eC .non), (eC (.bl false))])])) (sRet (eC (.bl false))) sPass)
  (sExpr (eBM isLstD vAppend (eThaw (eMeth 14 "row" m_Seat_row (eVar 5) [])) [(eTup [(eC (.str "asker")), (eVar 3)])])))
def m_law_b2 : MS :=
  (sSeq (sSet 5 (eNew 14 m_Seat_init [(eVar 4)]))
  (sFor (iArg fRng1 [(eC (.int 2))]) (gN 6) m_law_b1))
def m_law_b3 : MS :=
  (sSeq (sSet 2 (eThaw (eCallF m_l_digits [(eVar 1)])))
  (sSeq (sSet 3 (eBin vIdx (eCallF m_l_names [(eVar 2), (eC (.int 1))]) (eC (.int 0))))
  (sSeq (sFor (iVal (eLst [(eVar 3), (eC .non)])) (gN 4) m_law_b2)
  (sIf (eBin vNe (eCallF m_l_refusal [(eCallF m_l_odd [(eVar 2), (eVar 3)])]) (eC (.str "seat"))) (sRet (eC (.bl false))) sPass))))
def m_law : MF := dDef 6
  (sSeq (sIf (eNot (eCallF m_l_made_of_texts [])) (sRet (eC (.bl false))) sPass)
  (sSeq (sFor (iVal (eBin vAdd (eLst [(eC (.int 0))]) (eSlice (eVar 0) none (some (eC (.int 12)))))) (gN 1) m_law_b3)
  (sRet (eC (.bl true)))))
end G
namespace G
open PySem L2 DL
set_option maxHeartbeats 4000000
section
variable {α : Type} [BEq α] [LawfulBEq α] {f : α → D} {g : α → PyData}
theorem eqvAll_self (T : Tells f g) : ∀ l : List α, PyData.eqvAll (l.map g) (l.map g) = true
  | [] => by simp [PyData.eqvAll]
  | a :: r => by
    have e : PyData.eqv (g a) (g a) = true := by have := T.eqv a a; simpa using this
    simp [PyData.eqvAll, e, eqvAll_self T r]
theorem vNe_self (T : Tells f g) {l : List α} {S : Store} : vNe (.lst (l.map f)) (.lst (l.map f)) S = .ok (.bl false) S false := by
  have e2 : DL.snap 60 S (.lst (l.map f)) = some (.list (l.map g)) := by
    show (allSome ((l.map f).map (DL.snap 59 S))).map PyData.list = _
    rw [T.all 56 S l]; rfl
  unfold vNe
  simp only [e2]
  simp [PyData.eqv, eqvAll_self T]
end
section
variable {S : Store}
theorem ok_err {E : KE} {P : KV'} {env : Env'} {cn : Nat} : Ok E (eErr cn env S) P ↔ P (.err cn) S false := Iff.rfl
theorem isErr {n m : Nat} (h : n ∈ xall13) : vIsErr 0 xall13 m (.err n) S = .ok (.bl (n == m || m == 0)) S false := if_pos h
theorem isErrV {n : Nat} (h : n ∈ xall13) : vIsErrV xall13 (.err n) S = .ok (.bl true) S false := if_pos h
theorem kindsv_ok {n : Nat} (h1 : 1 ≤ n) (h2 : n ≤ 12) : m_l_kindsv [.err n] S = .ok (.str (wordOf n)) S false := by
  refine ok_eq ?_
  unfold m_l_kindsv; rw [ok_def]
  have hx : n ∈ xall13 := by simp; omega
  have ie : ∀ m S, vIsErr 0 xall13 m (.err n) S = .ok (.bl (n == m || m == 0)) S false := fun m S => isErr hx
  have iv : ∀ S, vIsErrV xall13 (.err n) S = .ok (.bl true) S false := fun S => isErrV hx
  simp [kDef, ie, iv, -List.mem_cons]
  have hr : rngL 0 12 = (List.range 12).map fun i : Nat => D.int (i : Int) := by unfold rngL; refine List.map_congr_left fun i _ => ?_; simp
  rw [hr]
  refine ok_compFM (fun i : Nat => i == n - 1) (fun i : Nat => .str (errWords.getD i "")) (gdOk_none.mpr trivial) ?_ ?_
  · intro i hi
    have hi : i < 12 := List.mem_range.mp hi
    refine ⟨_, rfl, ?_, fun _ => ?_⟩
    · simp [wipeE]
      rw [vIdx_lst (d := .bl (i == n - 1))]
      · exact ⟨rfl, rfl⟩
      · clear hx ie iv
        have hn : n = 1 ∨ n = 2 ∨ n = 3 ∨ n = 4 ∨ n = 5 ∨ n = 6 ∨ n = 7 ∨ n = 8 ∨ n = 9 ∨ n = 10 ∨ n = 11 ∨ n = 12 := by omega
        have : i = 0 ∨ i = 1 ∨ i = 2 ∨ i = 3 ∨ i = 4 ∨ i = 5 ∨ i = 6 ∨ i = 7 ∨ i = 8 ∨ i = 9 ∨ i = 10 ∨ i = 11 := by omega
        rcases this with rfl | rfl | rfl | rfl | rfl | rfl | rfl | rfl | rfl | rfl | rfl | rfl <;> (rcases hn with rfl | rfl | rfl | rfl | rfl | rfl | rfl | rfl | rfl | rfl | rfl | rfl <;> rfl)
    · simp [wipeE]
      rw [vIdx_lst (d := .str (errWords.getD i ""))]
      · exact ⟨rfl, rfl⟩
      · have : i = 0 ∨ i = 1 ∨ i = 2 ∨ i = 3 ∨ i = 4 ∨ i = 5 ∨ i = 6 ∨ i = 7 ∨ i = 8 ∨ i = 9 ∨ i = 10 ∨ i = 11 := by omega
        rcases this with rfl | rfl | rfl | rfl | rfl | rfl | rfl | rfl | rfl | rfl | rfl | rfl <;> rfl
  · have hf : (List.range 12).filter (fun i => i == n - 1) = [n - 1] := by
      have : n = 1 ∨ n = 2 ∨ n = 3 ∨ n = 4 ∨ n = 5 ∨ n = 6 ∨ n = 7 ∨ n = 8 ∨ n = 9 ∨ n = 10 ∨ n = 11 ∨ n = 12 := by omega
      rcases this with rfl | rfl | rfl | rfl | rfl | rfl | rfl | rfl | rfl | rfl | rfl | rfl <;> decide
    rw [hf]
    simp [iv]
    rfl
/-- errors made of texts, each of its class alone -/
theorem texts11 : m_l_made_of_texts [] S = .ok (.bl true) S false := by
  refine ok_eq ?_
  unfold m_l_made_of_texts; rw [ok_def]
  have a1 : ∀ (a b : List D) S, a.length + b.length ≤ 100 → vAdd (.lst a) (.lst b) S = .ok (.lst (a ++ b)) S true := fun a b S h => by rw [vAdd_ll, if_pos (by omega)]
  have e1 : vAdd (.lst [.err 1, .err 2, .err 3, .err 4, .err 5]) (.lst [.err 6, .err 7, .err 8, .err 9, .err 10]) S = .ok (.lst [.err 1, .err 2, .err 3, .err 4, .err 5, .err 6, .err 7, .err 8, .err 9, .err 10]) S true := a1 _ _ S (by decide)
  have e2 : vAdd (.lst [.err 1, .err 2, .err 3, .err 4, .err 5, .err 6, .err 7, .err 8, .err 9, .err 10]) (.lst [.err 12]) S = .ok (.lst ([1, 2, 3, 4, 5, 6, 7, 8, 9, 10, 12].map D.err)) S true := a1 _ _ S (by decide)
  simp -implicitDefEqProofs only [kDef, List.map_cons, List.map_nil, List.replicate, List.cons_append, List.nil_append, oks_seq, oks_set, ok_lst, ok_err, ok_ebin, ok_c, oka_cons, oka_nil, ok_var, List.set_cons_succ, List.set_cons_zero, List.getElem?_cons_succ, List.getElem?_cons_zero, Option.some.injEq, Sl.val.injEq, exists_eq_left', e1, e2, ok_ok]
  simp -implicitDefEqProofs only [oks_if, ok_ebin, ok_comp, oki_val, ok_var, List.getElem?_cons_succ, List.getElem?_cons_zero, Option.some.injEq, Sl.val.injEq, exists_eq_left']
  have e2 : vAdd (.lst [.err 1, .err 2, .err 3, .err 4, .err 5, .err 6, .err 7, .err 8, .err 9, .err 10]) (.lst [.err 12]) S = .ok (.lst ([1, 2, 3, 4, 5, 6, 7, 8, 9, 10, 12].map D.err)) S true := a1 _ _ S (by decide)
  refine ⟨_, none, rfl, ?_⟩
  refine ok_compMM (f := D.err) (l := [1, 2, 3, 4, 5, 6, 7, 8, 9, 10, 12]) (fun n => .str (wordOf n)) (gdOk_none.mpr trivial) (fun n hn => ⟨_, rfl, ?_⟩) ?_
  · have h : 1 ≤ n ∧ n ≤ 12 := by
      simp only [List.mem_cons, List.not_mem_nil, or_false] at hn
      omega
    simp -implicitDefEqProofs only [wipeE, gN, List.foldl_cons, List.foldl_nil, ok_callF, oka_cons, oka_nil, ok_var, List.set_cons_succ, List.set_cons_zero, List.getElem?_cons_succ, List.getElem?_cons_zero, Option.some.injEq, Sl.val.injEq, exists_eq_left', kindsv_ok h.1 h.2, ok_ok]
    exact ⟨trivial, trivial⟩
  have ew : ([1, 2, 3, 4, 5, 6, 7, 8, 9, 10, 12].map fun n => D.str (wordOf n)) = ([1, 2, 3, 4, 5, 6, 7, 8, 9, 10, 12].map wordOf).map D.str := rfl
  rw [ew]
  have ne : vNe (.lst (([1, 2, 3, 4, 5, 6, 7, 8, 9, 10, 12].map wordOf).map D.str)) (.lst [.str "tree", .str "house", .str "seat", .str "asker", .str "letter", .str "right", .str "row", .str "tie", .str "down", .str "mend", .str "line"]) S = .ok (.bl false) S false := vNe_self tells_str (l := [1, 2, 3, 4, 5, 6, 7, 8, 9, 10, 12].map wordOf)
  simp -implicitDefEqProofs only [oka_nil, ne, ok_ok, oks_onS, Bool.false_eq_true, if_false, oks_pass, oks_ret, ok_callF, oka_cons, ok_comp, oki_val, ok_var, List.getElem?_cons_succ, List.getElem?_cons_zero, Option.some.injEq, Sl.val.injEq, exists_eq_left']
  refine ⟨_, none, rfl, ?_⟩
  refine ok_compMM (f := D.err) (l := [1, 2, 3, 4, 5, 6, 7, 8, 9, 10, 12]) (fun n => .bl true) (gdOk_none.mpr trivial) (fun n hn => ⟨_, rfl, ?_⟩) ?_
  · have h : n ∈ xall13 := by
      simp only [List.mem_cons, List.not_mem_nil, or_false] at hn
      simp; omega
    have ie : vIsErr 0 xall13 0 (.err n) S = .ok (.bl true) S false := by rw [isErr h]; simp
    simp -implicitDefEqProofs only [wipeE, gN, List.foldl_cons, List.foldl_nil, ok_eun, ok_var, List.set_cons_succ, List.set_cons_zero, List.getElem?_cons_succ, List.getElem?_cons_zero, Option.some.injEq, Sl.val.injEq, exists_eq_left', ie, ok_ok]
    exact ⟨trivial, trivial⟩
  have al := vAll_map (S := S) (f := fun _ : Nat => true) [1, 2, 3, 4, 5, 6, 7, 8, 9, 10, 12]
  rw [oka_nil, al, ok_ok, finR_same rfl, ok_ok]
  exact ⟨rfl, rfl, rfl⟩
/-- a seat of what is no name, and not None -/
theorem refusal11 {d : D} (h : OddOk d) (hn : d ≠ .non) : m_l_refusal [d] S = .ok (.str "seat") S false := by
  refine ok_eq ?_
  have ini : ∀ S, m_Seat_init [.ref S.length, d] (S ++ [.ins 14 []]) = .exc ⟨3, none⟩ (S ++ [.ins 14 []]) := fun S => by
    refine ok_exc' ?_
    have vn : vIsNot d .non (S ++ [.ins 14 []]) = .ok (.bl true) (S ++ [.ins 14 []]) false := by
      rw [vIsNot_n]; simp [hn]
    unfold m_Seat_init; rw [ok_def]
    simp -implicitDefEqProofs [kDef, vn, h.nn _, trunc_self, hn]
  unfold m_l_refusal; rw [ok_def]
  have hx : 3 ∈ xall13 := by simp
  simp [kDef, -List.mem_cons, ini, hx, kClr, kinds_ok (n := 3) (by omega) (by omega)]
  have et : trunc S (S ++ [O.ins 14 []]) = S := by
    have : okDrop S (S ++ [O.ins 14 []]) = true := by
      unfold okDrop
      rw [List.all_eq_true]
      intro n hn
      have hn := List.mem_range.mp hn
      simp [List.getElem?_append_left hn]
    unfold trunc; simp [this]
  rw [et, finR_same rfl, ok_ok]
  exact ⟨rfl, rfl, rfl⟩
end
end G
namespace G
open PySem L2 DL
set_option maxHeartbeats 4000000
theorem oks_rng11 {K : KB} {lo : Int} {n : Nat} {g : MG} {b : MS} {env : Env'} {S : Store} (I : Nat → Env' → Store → Prop) (h0 : I 0 env S)
    (hs : ∀ i env S, i < n → I i env S → ∃ env1, g (.int (lo + (i : Nat))) env S = some env1 ∧ OkS { K with nx := I (i + 1), ct := I (i + 1), bk := K.nx } (b env1 S)) (hd : ∀ env S, I n env S → K.nx env S) : OkS K (forL none g b (rngL lo n) env S) := by
  refine oks_for (fun rr env S => ∃ k, k ≤ n ∧ rr = (rngL lo n).drop k ∧ I k env S) ⟨0, Nat.zero_le _, rfl, h0⟩ ?_ ?_
  · rintro x rr env S ⟨k, hk, e, hI⟩
    have hlen : ((rngL lo n).drop k).length = n - k := by simp [rngL]
    have hkn : k < n := by rw [← e, List.length_cons] at hlen; omega
    have hk2 : k < (rngL lo n).length := by simpa [rngL] using hkn
    rw [List.drop_eq_getElem_cons hk2] at e
    injection e with e1 e2
    have e3 : (rngL lo n)[k] = .int (lo + (k : Nat)) := by simp [rngL]
    rw [e3] at e1
    subst e1
    obtain ⟨env1, h1, h2⟩ := hs k env S hkn hI
    have conv : ∀ {r : FR} {Q : KS}, OkS { K with nx := Q, ct := Q, bk := K.nx } r → ∀ Q', (∀ e S, Q e S → Q' e S) → OkS { K with nx := Q', ct := Q', bk := K.nx } r := by
      intro r Q h Q' hq
      cases r with
      | nx e S => exact hq _ _ h
      | ct e S => exact hq _ _ h
      | _ => exact h
    exact ⟨gdOk_none.mpr trivial, env1, h1, conv h2 _ fun e S q => ⟨k + 1, hkn, e2, q⟩⟩
  · rintro env S ⟨k, hk, e, hI⟩
    have hlen : ((rngL lo n).drop k).length = n - k := by simp [rngL]
    rw [← e] at hlen
    have : k = n := by simp at hlen; omega
    subst this
    exact ⟨gdOk_none.mpr trivial, hd _ _ hI⟩
section
variable {S : Store} {n : Nat} {z : Str} {o : Option Str}
/-- a seat made and asked, twice -/
theorem seat11 {K : KB} {e0 e1 e5 e6 : Sl} (hs : Src S n) (ho : ∀ z, o = some z → NameOk z)
    (k : ∀ e5 e6 S', Src S' n → K.nx [e0, e1, .val (.ref n), .val (.str z), .val (optD o), e5, e6] S') :
    OkS K (m_law_b2 [e0, e1, .val (.ref n), .val (.str z), .val (optD o), e5, e6] S) := by
  unfold m_law_b2
  simp -implicitDefEqProofs only [oks_seq, oks_set, ok_new, oka_cons, oka_nil, ok_var, List.set_cons_succ, List.set_cons_zero, List.getElem?_cons_succ, List.getElem?_cons_zero, Option.some.injEq, Sl.val.injEq, exists_eq_left']
  refine (init_ok ho).call fun d S1 fr q => ?_
  obtain ⟨rfl, hS, l1, low1⟩ := q
  refine ⟨rfl, ?_⟩
  have s1 : Src S1 n := by
    obtain ⟨a, c, j, e⟩ := hs
    exact ⟨a, c, j, by rw [low1 n (List.getElem?_eq_some_iff.mp e).1]; exact e⟩
  simp -implicitDefEqProofs only [oks_sfor, oki_arg, ok_c, oka_cons, oka_nil, rng1, oki_ite, oki_ok, List.set_cons_succ, List.set_cons_zero]
  refine ⟨by omega, ?_⟩
  refine oks_rng11 (n := 2) (fun t env S' => Src S' n ∧ SeatAt S' S.length (S.length + 1) ⟨o, [], none, false⟩ ∧ ∃ e6, env = [e0, e1, .val (.ref n), .val (.str z), .val (optD o), .val (.ref S.length), e6]) ⟨s1, hS, _, rfl⟩ ?_ ?_
  · rintro t env S2 ht ⟨s2, h2, e6, rfl⟩
    refine ⟨_, rfl, ?_⟩
    have tl := told_ok h2
    have ta : m_l_alike 6 [.lst [optD o, .lst [], .non, .bl false], .lst [optD o, .lst [], .non, .bl false]] S2 = .ok (.bl true) S2 false := told_alike (row := []) (led := o) (h := none) (k := false) (by simp)
    have tl : m_l_told [.ref S.length] S2 = .ok (.lst [optD o, .lst [], .non, .bl false]) S2 true := tl
    have ro : m_Seat_row [.ref S.length] S2 = .ok (.lst []) S2 true := row_ok h2
    unfold m_law_b1
    simp -implicitDefEqProofs only [gN, oks_seq, oks_if, ok_not, ok_callF, ok_lst, ok_c, oka_cons, oka_nil, ok_var, List.set_cons_succ, List.set_cons_zero, List.getElem?_cons_succ, List.getElem?_cons_zero, Option.some.injEq, Sl.val.injEq, exists_eq_left', tl, ta, ok_ok, Bool.not_true, oks_onS, Bool.false_eq_true, if_false, oks_pass]
    simp -implicitDefEqProofs only [ok_onB, if_true, ok_ok, Bool.not_true, oks_onS, Bool.false_eq_true, if_false, oks_pass, oks_expr, ok_bm, ok_thaw, ok_meth, ok_tup, ok_c, oka_cons, oka_nil, ok_var, List.getElem?_cons_succ, List.getElem?_cons_zero, Option.some.injEq, Sl.val.injEq, exists_eq_left']
    refine ⟨_, insOf_ref h2.ha, seat_no (by simp) (by simp) (by simp) (by simp), ?_⟩
    rw [ro, ok_ok, thaw_lst, ok_ok]
    have g3 : (S2 ++ [O.lst []])[S2.length]? = some (.lst []) := by simp
    have va := vAppend_ref (y := .tup [.str (Str.ofString "asker"), .str z]) g3 (by simp)
    refine ⟨isLst_ref g3, ?_⟩
    simp -implicitDefEqProofs only [oka_cons, oka_nil, ok_tup, ok_c, ok_var, List.getElem?_cons_succ, List.getElem?_cons_zero, Option.some.injEq, Sl.val.injEq, exists_eq_left']
    rw [va, ok_ok]
    have hlt := (List.getElem?_eq_some_iff.mp h2.ha).1
    have hlt2 := (List.getElem?_eq_some_iff.mp h2.hb).1
    have e : ∀ j, j < S2.length → ((S2 ++ [O.lst []]).set S2.length (.lst ([] ++ [.tup [.str (Str.ofString "asker"), .str z]])))[j]? = S2[j]? := fun j hj => by
      rw [List.getElem?_set_ne (by omega), List.getElem?_append_left hj]
    refine ⟨?_, h2.keep (e _ hlt) (e _ hlt2), _, rfl⟩
    obtain ⟨a, c, j, q⟩ := s2
    exact ⟨a, c, j, by rw [e n (List.getElem?_eq_some_iff.mp q).1]; exact q⟩
  · rintro env S2 ⟨s2, h2, e6, rfl⟩
    exact k _ _ _ s2
end
/-- the turn of one number -/
theorem cell11 {K : KB} {c : Int} {S : Store} {e0 e2 e3 e4 e5 e6 : Sl} (k : ∀ e2 e3 e4 e5 e6 S', K.nx [e0, .val (.int c), e2, e3, e4, e5, e6] S') :
    OkS K (m_law_b3 [e0, .val (.int c), e2, e3, e4, e5, e6] S) := by
  unfold m_law_b3
  simp -implicitDefEqProofs only [oks_seq, oks_set, ok_thaw, ok_ebin, ok_callF, ok_c, oka_cons, oka_nil, ok_var, List.set_cons_succ, List.set_cons_zero, List.getElem?_cons_succ, List.getElem?_cons_zero, Option.some.injEq, Sl.val.injEq, exists_eq_left']
  refine digits_ok.call fun d S0 fr q => ?_
  obtain ⟨j, rfl, rfl, rfl⟩ := q
  rw [thaw_lst, ok_ok]
  have hs0 := src_new (S := S0) (j := j) (i := c)
  generalize S0 ++ [O.lst [.int j, .int c, .int 0]] = S1 at hs0
  try simp -implicitDefEqProofs only [oks_seq, oks_set, ok_ebin, ok_callF, ok_c, oka_cons, oka_nil, ok_var, List.set_cons_succ, List.set_cons_zero, List.getElem?_cons_succ, List.getElem?_cons_zero, Option.some.injEq, Sl.val.injEq, exists_eq_left']
  refine (names_ok hs0 (by omega) (by omega)).call fun d S2 fr q => ?_
  obtain ⟨zs, rfl, hl, hn, hk, a2, rfl⟩ := q
  have s2 := a2.src hs0
  obtain ⟨z, rfl⟩ : ∃ z, zs = [z] := by
    match zs, hl with
    | [z], _ => exact ⟨z, rfl⟩
    | [], h => cases h
    | _ :: _ :: _, h => simp at h; omega
  have nz := hk z (by simp)
  have i0 : vIdx (.lst ([z].map fun x => D.str x)) (.int 0) S2 = .ok (.str z) S2 false := vIdx_lst (i := 0) rfl
  simp -implicitDefEqProofs only [ok_c]
  rw [i0, ok_ok]
  simp -implicitDefEqProofs only [oks_seq, oks_sfor, oki_val, ok_lst, ok_c, oka_cons, oka_nil, ok_var, List.set_cons_succ, List.set_cons_zero, List.getElem?_cons_succ, List.getElem?_cons_zero, Option.some.injEq, Sl.val.injEq, exists_eq_left']
  refine ⟨_, none, rfl, ?_⟩
  refine oks_for (fun rr env S' => (∀ x ∈ rr, ∃ o, x = optD o ∧ ∀ y, o = some y → NameOk y) ∧ Src S' S0.length ∧ ∃ e4 e5 e6, env = [e0, .val (.int c), .val (.ref S0.length), .val (.str z), e4, e5, e6]) ⟨fun x hx => ?_, s2, _, _, _, rfl⟩ ?_ ?_
  · simp only [List.mem_cons, List.not_mem_nil, or_false] at hx
    rcases hx with rfl | rfl
    · exact ⟨some z, rfl, fun y h => by cases h; exact nz⟩
    · exact ⟨none, rfl, fun y h => by cases h⟩
  · rintro x rr env S3 ⟨hx, s3, e4, e5, e6, rfl⟩
    obtain ⟨o, rfl, ho⟩ := hx _ List.mem_cons_self
    refine ⟨gdOk_none.mpr trivial, _, rfl, ?_⟩
    simp only [gN, List.set_cons_succ, List.set_cons_zero]
    exact seat11 s3 ho fun e5 e6 S4 s4 => ⟨fun x h => hx x (List.mem_cons_of_mem _ h), s4, _, _, _, rfl⟩
  · rintro env S3 ⟨-, s3, e4, e5, e6, rfl⟩
    refine ⟨gdOk_none.mpr trivial, ?_⟩
    simp -implicitDefEqProofs only [oks_if, ok_ebin, ok_callF, ok_c, oka_cons, oka_nil, ok_var, List.getElem?_cons_succ, List.getElem?_cons_zero, Option.some.injEq, Sl.val.injEq, exists_eq_left']
    refine (odd_okn s3 nz).call fun d S4 fr q => ?_
    obtain ⟨hd, hn, a4⟩ := q
    have re := refusal11 (S := S4) hd hn
    have ne : vNe (.str (Str.ofString "seat")) (.str (Str.ofString "seat")) S4 = .ok (.bl false) S4 false := by simp
    simp -implicitDefEqProofs only [oka_nil, re, ne, ok_ok, ok_c, oks_onS, Bool.false_eq_true, if_false, oks_pass]
    exact k _ _ _ _ _ _
theorem law_true : ∀ ns : List Int, ns.length ≤ 63 → ∃ S fr, G.m_law [.scr ns] [] = .ok (.bl true) S fr := by
  intro ns hl
  refine law_of ?_
  unfold m_law; rw [ok_def]
  have hcut : vSlice (.scr ns) none (some 12) [] = .ok (.lst (cutD (ns.map .int) none (some 12))) [] true := rfl
  have t0 := texts11 (S := [])
  have hit := items_int (ns := ns) (lo := none) (hi := some 12)
  have va : vAdd (.lst [.int 0]) (.lst (cutD (ns.map .int) none (some 12))) [] = .ok (.lst (.int 0 :: cutD (ns.map .int) none (some 12))) [] true := by
    rw [vAdd_ll, if_pos (by have := hit.2; simp only [List.length_cons, List.length_nil]; omega)]; rfl
  simp -implicitDefEqProofs only [kDef, List.map_cons, List.map_nil, List.replicate, List.cons_append, List.nil_append, oks_seq, oks_if, ok_not, ok_callF, oka_nil, t0, ok_ok, Bool.not_true, oks_onS, Bool.false_eq_true, if_false, oks_pass, oks_sfor, oki_val, ok_ebin, ok_lst, oka_cons, ok_slice, ok_part0, ok_part1, ok_c, ok_var, List.getElem?_cons_succ, List.getElem?_cons_zero, Option.some.injEq, Sl.val.injEq, exists_eq_left', D.int.injEq, hcut, va]
  simp -implicitDefEqProofs only [ok_onB, if_true, Bool.not_true, oks_onS, Bool.false_eq_true, if_false, oks_pass, oks_seq, oks_sfor, oki_val, ok_ebin, ok_lst, oka_cons, oka_nil, ok_slice, ok_part0, ok_part1, ok_c, ok_var, List.getElem?_cons_succ, List.getElem?_cons_zero, Option.some.injEq, Sl.val.injEq, exists_eq_left', D.int.injEq, hcut, va, ok_ok]
  refine ⟨_, none, rfl, ?_⟩
  generalize cutD (ns.map .int) none (some 12) = cells at hit
  refine oks_for (fun rr env S' => (∀ x ∈ rr, ∃ i, x = .int i) ∧ ∃ e0 e1 e2 e3 e4 e5 e6, env = [e0, e1, e2, e3, e4, e5, e6]) ⟨fun x hx => ?_, _, _, _, _, _, _, _, rfl⟩ ?_ ?_
  · rcases List.mem_cons.mp hx with rfl | hx
    · exact ⟨0, rfl⟩
    · exact hit.1 x hx
  · rintro y rr env S' ⟨hi, e0, e1, e2, e3, e4, e5, e6, rfl⟩
    obtain ⟨i, rfl⟩ := hi y List.mem_cons_self
    refine ⟨gdOk_none.mpr trivial, _, rfl, ?_⟩
    simp only [gN, List.set_cons_succ, List.set_cons_zero]
    exact cell11 fun e2 e3 e4 e5 e6 S2 => ⟨fun z hz => hi z (List.mem_cons_of_mem _ hz), _, _, _, _, _, _, _, rfl⟩
  · rintro env S' ⟨-, e0, e1, e2, e3, e4, e5, e6, rfl⟩
    refine ⟨gdOk_none.mpr trivial, ?_⟩
    simp -implicitDefEqProofs only [oks_ret, ok_c]
    exact ok_fin (fun n h => by cases h) rfl
end G
namespace G
open PySem L2 DL
set_option maxHeartbeats 4000000
/-! ### the walk -/
structure Tx (K : PySem.W.Frag) (w : World) (mg : Str → Option Value) (cl : Nat → Addr) : Prop where
  nop : True
  b_ValueError : mg "ValueError" = none
  b_all : mg "all" = none
  b_bool : mg "bool" = none
  b_isinstance : mg "isinstance" = none
  b_len : mg "len" = none
  b_list : mg "list" = none
  b_range : mg "range" = none
  b_str : mg "str" = none
  b_tuple : mg "tuple" = none
  c_LETTERS : CS mg "LETTERS" "abcdefghijklmnopqrstuvwxyz"
  c_MOST_LETTERS : CI mg "MOST_LETTERS" 8
  f_Seat_led : ClF K (cl 14) "led"
  f_Seat_waiting : ClF K (cl 14) "waiting"
  f_Seat_holder : ClF K (cl 14) "holder"
  f_Seat_asking : ClF K (cl 14) "asking"
  e_TreeError : ExcOk K mg cl "TreeError" 0
  g_TreeError : mg "TreeError" = some (.ref (cl 0))
  e_NoTree : ExcOk K mg cl "NoTree" 1
  g_NoTree : mg "NoTree" = some (.ref (cl 1))
  e_NoHouse : ExcOk K mg cl "NoHouse" 2
  g_NoHouse : mg "NoHouse" = some (.ref (cl 2))
  e_NoSeat : ExcOk K mg cl "NoSeat" 3
  g_NoSeat : mg "NoSeat" = some (.ref (cl 3))
  e_NoAsker : ExcOk K mg cl "NoAsker" 4
  g_NoAsker : mg "NoAsker" = some (.ref (cl 4))
  e_NoLetter : ExcOk K mg cl "NoLetter" 5
  g_NoLetter : mg "NoLetter" = some (.ref (cl 5))
  e_NoRight : ExcOk K mg cl "NoRight" 6
  g_NoRight : mg "NoRight" = some (.ref (cl 6))
  e_NoRow : ExcOk K mg cl "NoRow" 7
  g_NoRow : mg "NoRow" = some (.ref (cl 7))
  e_NoTie : ExcOk K mg cl "NoTie" 8
  g_NoTie : mg "NoTie" = some (.ref (cl 8))
  e_Down : ExcOk K mg cl "Down" 9
  g_Down : mg "Down" = some (.ref (cl 9))
  e_NoMend : ExcOk K mg cl "NoMend" 10
  g_NoMend : mg "NoMend" = some (.ref (cl 10))
  g_NoText : mg "NoText" = some (.ref (cl 11))
  e_NoLine : ExcOk K mg cl "NoLine" 12
  g_NoLine : mg "NoLine" = some (.ref (cl 12))
  et : ErrTab K cl 0 xall13
section
variable {P : Program} {w : World} {K : PySem.W.Frag} {mg : Str → Option Value} {base : Heap} {cl : Nat → Addr} {f : Addr} {fd : FuncData}
theorem ok_is_name (F : Fun K "is_name" "is_name" s_is_name f fd) (T : Tx K w mg cl)  :
  FnOk P w K mg base (L2N.CX P w) 1 f fd ["thing"] (spD ⟨K, cl, none⟩ 1 m_is_name) :=
  def_okT (N := ["thing", "sign"]) F (by decide +kernel) rfl rfl fun cdv A outer s H E hr tk hp nd => (dss_cons (ds_if (dt_of_w (dw_or (dt_not (dt_val (de_isi (by rfl) T.b_isinstance (by decide +kernel) (de_var 0) (tyNm (by rfl) T.b_str (by decide +kernel))))) (dw_or1 (dt_not (dt_chain op_le op_le vLe_ok vLe_ok de_int (de_callB call_lenU vLen_ok (by rfl) T.b_len (by decide +kernel) (da_cons (de_var 0) da_nil)) (de_ci T.c_MOST_LETTERS)))))) (dss_one (ds_ret de_bl)) dss_nil)
  (dss_one (ds_ret (de_callB (cr_all rfl) vAll_ok (by rfl) T.b_all (by decide +kernel) (da_cons (de_comp (own := [("sign", 1)]) rfl nd (di_val (de_var 0)) (blkOk_by (N := ["thing", "sign"]) (sc := defScope s_is_name) (by decide +kernel)) (fun _ _ _ _ _ => (dg_name 1 nd)) (fun _ _ _ _ _ => .none) (fun _ _ _ _ _ => (de_cmp ((op_inDS (hu65 hr)).or (op_inU (hu65 hr))) vInX_ok (de_var 1) (de_cs T.c_LETTERS) (by rfl)))) da_nil)))))
theorem ok_Seat_init (F : Fun K "__init__" "Seat.__init__" s_Seat_init f fd) (T : Tx K w mg cl) (h_is_name : DefOk P w K mg base cl 1 "is_name" 1 m_is_name) :
  FnOk P w K mg base (L2N.CX P w) 2 f fd ["self", "arrow"] (spD ⟨K, cl, none⟩ 2 m_Seat_init) :=
  def_okT (N := ["self", "arrow"]) F (by decide +kernel) rfl rfl fun cdv A outer s H E hr tk hp nd => (dss_cons (ds_if (dt_of_w (dw_and (dt_cmp op_isNotU vIsNot_ok (de_var 1) de_non (nomark _)) (dw_and1 (dt_not (dt_val (de_call h_is_name hr (by omega) tk (da_cons (de_var 1) da_nil))))))) (dss_one (ds_raise T.e_NoSeat rfl tk)) dss_nil)
  (dss_cons (ds_fld T.f_Seat_led (de_var 0) (de_var 1))
  (dss_cons (ds_fld T.f_Seat_waiting (de_var 0) (de_thaw (de_lst da_nil)))
  (dss_cons (ds_fld T.f_Seat_holder (de_var 0) de_non)
  (dss_one (ds_fld T.f_Seat_asking (de_var 0) de_bl))))))
theorem ok_Seat_row (F : Fun K "row" "Seat.row" s_Seat_row f fd) (T : Tx K w mg cl)  :
  FnOk P w K mg base (L2N.CX P w) 1 f fd ["self"] (spD ⟨K, cl, none⟩ 1 m_Seat_row) :=
  def_okT (N := ["self"]) F (by decide +kernel) rfl rfl fun cdv A outer s H E hr tk hp nd => (dss_one (ds_ret (de_callTy (call_listU rfl) vList_ok (by rfl) T.b_list (by decide +kernel) (da_cons (de_fld T.f_Seat_waiting (de_var 0)) da_nil))))
theorem ok_l_alike (F : Fun K "_law_alike" "_law_alike" s_l_alike f fd) (T : Tx K w mg cl)  (k : Nat) (h_l_alike : DefOk P w K mg base cl (0 + k) "_law_alike" 2 (m_l_alike k)) :
  FnOk P w K mg base (L2N.CX P w) (0 + k + 1) f fd ["_law_found", "_law_due"] (spD ⟨K, cl, none⟩ 2 (m_l_alike (k + 1))) :=
  def_okT (N := ["_law_found", "_law_due", "_law_k"]) F (by decide +kernel) rfl rfl fun cdv A outer s H E hr tk hp nd => (dss_cons (ds_if (dt_val (de_isiT (by rfl) T.b_isinstance (by decide +kernel) (de_var 1) (.cons (tyNm (by rfl) T.b_list (by decide +kernel)) (.cons (tyNm (by rfl) T.b_tuple (by decide +kernel)) .nil)) (by decide))) (dss_cons (ds_if (dt_of_w (dw_or (dt_cmp (op_neD (hu64 hr)) vNe_ok (de_isi (by rfl) T.b_isinstance (by decide +kernel) (de_var 1) (tyNm (by rfl) T.b_list (by decide +kernel))) (de_isi (by rfl) T.b_isinstance (by decide +kernel) (de_var 0) (tyNm (by rfl) T.b_list (by decide +kernel))) (nomark _)) (dw_or1 (dt_cmp (op_neD (hu64 hr)) vNe_ok (de_isi (by rfl) T.b_isinstance (by decide +kernel) (de_var 1) (tyNm (by rfl) T.b_tuple (by decide +kernel))) (de_isi (by rfl) T.b_isinstance (by decide +kernel) (de_var 0) (tyNm (by rfl) T.b_tuple (by decide +kernel))) (nomark _))))) (dss_one (ds_ret de_bl)) dss_nil)
  (dss_cons (ds_if (dt_cmp (op_neD (hu64 hr)) vNe_ok (de_callB call_lenU vLen_ok (by rfl) T.b_len (by decide +kernel) (da_cons (de_var 0) da_nil)) (de_callB call_lenU vLen_ok (by rfl) T.b_len (by decide +kernel) (da_cons (de_var 1) da_nil)) (nomark _)) (dss_one (ds_ret de_bl)) dss_nil)
  (dss_one (ds_ret (de_callB (cr_all rfl) vAll_ok (by rfl) T.b_all (by decide +kernel) (da_cons (de_comp (own := [("_law_k", 2)]) rfl nd (di_range1 (by rfl) T.b_range (da_cons (de_callB call_lenU vLen_ok (by rfl) T.b_len (by decide +kernel) (da_cons (de_var 1) da_nil)) da_nil)) (blkOk_by (N := ["_law_found", "_law_due", "_law_k"]) (sc := defScope s_l_alike) (by decide +kernel)) (fun _ _ _ _ _ => (dg_name 2 nd)) (fun _ _ _ _ _ => .none) (fun _ _ _ _ _ => (de_call h_l_alike hr (by omega) takesN0 (da_cons (de_ix (hu1 hr) (de_var 0) (de_var 2)) (da_cons (de_ix (hu1 hr) (de_var 1) (de_var 2)) da_nil))))) da_nil)))))) dss_nil)
  (dss_one (ds_ret (de_and (de_cmp (op_eqD (hu64 hr)) vEq_ok (de_isi (by rfl) T.b_isinstance (by decide +kernel) (de_var 0) (tyNm (by rfl) T.b_bool (by decide +kernel))) (de_isi (by rfl) T.b_isinstance (by decide +kernel) (de_var 1) (tyNm (by rfl) T.b_bool (by decide +kernel))) (nomark _)) (de_one (de_cmp (op_eqD (hu64 hr)) vEq_ok (de_var 0) (de_var 1) (nomark _)))))))
theorem ok_l_digits (F : Fun K "_law_digits" "_law_digits" s_l_digits f fd) (T : Tx K w mg cl)  :
  FnOk P w K mg base (L2N.CX P w) 1 f fd ["_law_cell"] (spD ⟨K, cl, none⟩ 1 m_l_digits) :=
  def_okT (N := ["_law_cell"]) F (by decide +kernel) rfl rfl fun cdv A outer s H E hr tk hp nd => (dss_one (ds_ret (de_lst (da_cons (de_bin (op_mulS.or (op_mul.or op_rep)) vMulS_ok (de_bin op_fdivW vFdiv_ok (de_var 0) de_int) (de_bin op_sub vSub_ok de_int (de_bin op_mod vMod_ok (de_var 0) de_int))) (da_cons (de_var 0) (da_cons de_int da_nil))))))
theorem ok_l_kindsv (F : Fun K "_law_kinds" "_law_kinds" s_l_kindsv f fd) (T : Tx K w mg cl)  :
  FnOk P w K mg base (L2N.CX P w) 1 f fd ["_law_e"] (spD ⟨K, cl, none⟩ 1 m_l_kindsv) :=
  def_okT (N := ["_law_e", "_law_kinds_here", "_law_words", "_law_found", "_law_k"]) F (by decide +kernel) rfl rfl fun cdv A outer s H E hr tk hp nd => (dss_cons (ds_set 1 nd (de_lst (da_cons (de_isErr T.et (by rfl) T.b_isinstance (by decide +kernel) T.g_NoTree (by decide) (de_var 0)) (da_cons (de_isErr T.et (by rfl) T.b_isinstance (by decide +kernel) T.g_NoHouse (by decide) (de_var 0)) (da_cons (de_isErr T.et (by rfl) T.b_isinstance (by decide +kernel) T.g_NoSeat (by decide) (de_var 0)) (da_cons (de_isErr T.et (by rfl) T.b_isinstance (by decide +kernel) T.g_NoAsker (by decide) (de_var 0)) da_nil))))))
  (dss_cons (ds_set 1 nd (de_bin op_addU vAdd_ok (de_var 1) (de_lst (da_cons (de_isErr T.et (by rfl) T.b_isinstance (by decide +kernel) T.g_NoLetter (by decide) (de_var 0)) (da_cons (de_isErr T.et (by rfl) T.b_isinstance (by decide +kernel) T.g_NoRight (by decide) (de_var 0)) (da_cons (de_isErr T.et (by rfl) T.b_isinstance (by decide +kernel) T.g_NoRow (by decide) (de_var 0)) (da_cons (de_isErr T.et (by rfl) T.b_isinstance (by decide +kernel) T.g_NoTie (by decide) (de_var 0)) da_nil)))))))
  (dss_cons (ds_set 1 nd (de_bin op_addU vAdd_ok (de_var 1) (de_lst (da_cons (de_isErr T.et (by rfl) T.b_isinstance (by decide +kernel) T.g_Down (by decide) (de_var 0)) (da_cons (de_isErr T.et (by rfl) T.b_isinstance (by decide +kernel) T.g_NoMend (by decide) (de_var 0)) (da_cons (de_isErr T.et (by rfl) T.b_isinstance (by decide +kernel) T.g_NoText (by decide) (de_var 0)) (da_cons (de_isErr T.et (by rfl) T.b_isinstance (by decide +kernel) T.g_NoLine (by decide) (de_var 0)) da_nil)))))))
  (dss_cons (ds_set 2 nd (de_lst (da_cons de_str (da_cons de_str (da_cons de_str (da_cons de_str (da_cons de_str (da_cons de_str (da_cons de_str (da_cons de_str (da_cons de_str (da_cons de_str (da_cons de_str (da_cons de_str da_nil))))))))))))))
  (dss_cons (ds_setLc 3 (own := [("_law_k", 4)]) rfl nd (di_range1 (by rfl) T.b_range (da_cons de_int da_nil)) (blkOk_by (N := ["_law_e", "_law_kinds_here", "_law_words", "_law_found", "_law_k"]) (sc := defScope s_l_kindsv) (by decide +kernel)) (fun _ _ _ _ _ => (dg_name 4 nd)) (fun _ _ _ _ _ => .one (dt_val (de_ix (hu1 hr) (de_var 1) (de_var 4)))) (fun _ _ _ _ _ => (de_ix (hu1 hr) (de_var 2) (de_var 4))))
  (dss_cons (ds_if (dt_of_w (dw_or (dt_cmp (op_neD (hu64 hr)) vNe_ok (de_callB call_lenU vLen_ok (by rfl) T.b_len (by decide +kernel) (da_cons (de_var 3) da_nil)) de_int (nomark _)) (dw_or1 (dt_not (dt_val (de_isErrV T.et (by rfl) T.b_isinstance (by decide +kernel) (by rfl) T.b_ValueError (by decide +kernel) (de_var 0))))))) (dss_one (ds_ret de_str)) dss_nil)
  (dss_one (ds_ret (de_ix (hu1 hr) (de_var 3) de_int)))))))))
theorem ok_l_made_of_texts (F : Fun K "_law_made_of_texts" "_law_made_of_texts" s_l_made_of_texts f fd) (T : Tx K w mg cl) (h_l_kindsv : DefOk P w K mg base cl 1 "_law_kinds" 1 m_l_kindsv) :
  FnOk P w K mg base (L2N.CX P w) 2 f fd [] (spD ⟨K, cl, none⟩ 0 m_l_made_of_texts) :=
  def_okT (N := ["_law_some", "_law_words", "_law_e"]) F (by decide +kernel) rfl rfl fun cdv A outer s H E hr tk hp nd => (dss_cons (ds_set 0 nd (de_lst (da_cons (de_err T.e_NoTree) (da_cons (de_err T.e_NoHouse) (da_cons (de_err T.e_NoSeat) (da_cons (de_err T.e_NoAsker) (da_cons (de_err T.e_NoLetter) da_nil)))))))
  (dss_cons (ds_set 0 nd (de_bin op_addU vAdd_ok (de_var 0) (de_lst (da_cons (de_err T.e_NoRight) (da_cons (de_err T.e_NoRow) (da_cons (de_err T.e_NoTie) (da_cons (de_err T.e_Down) (da_cons (de_err T.e_NoMend) da_nil))))))))
  (dss_cons (ds_set 0 nd (de_bin op_addU vAdd_ok (de_var 0) (de_lst (da_cons (de_err T.e_NoLine) da_nil))))
  (dss_cons (ds_set 1 nd (de_lst (da_cons de_str (da_cons de_str (da_cons de_str (da_cons de_str (da_cons de_str (da_cons de_str (da_cons de_str (da_cons de_str (da_cons de_str (da_cons de_str (da_cons de_str da_nil)))))))))))))
  (dss_cons (ds_if (dt_cmp (op_neD (hu64 hr)) vNe_ok (de_comp (own := [("_law_e", 2)]) rfl nd (di_val (de_var 0)) (blkOk_by (N := ["_law_some", "_law_words", "_law_e"]) (sc := defScope s_l_made_of_texts) (by decide +kernel)) (fun _ _ _ _ _ => (dg_name 2 nd)) (fun _ _ _ _ _ => .none) (fun _ _ _ _ _ => (de_call h_l_kindsv hr (by omega) takesN0 (da_cons (de_var 2) da_nil)))) (de_var 1) (nomark _)) (dss_one (ds_ret de_bl)) dss_nil)
  (dss_one (ds_ret (de_callB (cr_all rfl) vAll_ok (by rfl) T.b_all (by decide +kernel) (da_cons (de_comp (own := [("_law_e", 2)]) rfl nd (di_val (de_var 0)) (blkOk_by (N := ["_law_some", "_law_words", "_law_e"]) (sc := defScope s_l_made_of_texts) (by decide +kernel)) (fun _ _ _ _ _ => (dg_name 2 nd)) (fun _ _ _ _ _ => .none) (fun _ _ _ _ _ => (de_isErr T.et (by rfl) T.b_isinstance (by decide +kernel) T.g_TreeError (by decide) (de_var 2)))) da_nil)))))))))
theorem ok_l_mixed (F : Fun K "_law_mixed" "_law_mixed" s_l_mixed f fd) (T : Tx K w mg cl)  :
  FnOk P w K mg base (L2N.CX P w) 1 f fd ["_law_cell", "_law_k"] (spD ⟨K, cl, none⟩ 2 m_l_mixed) :=
  def_okT (N := ["_law_cell", "_law_k", "_law_number"]) F (by decide +kernel) rfl rfl fun cdv A outer s H E hr tk hp nd => (dss_cons (ds_set 2 nd (de_bin op_mod vMod_ok (de_bin (op_mulS.or (op_mul.or op_rep)) vMulS_ok (de_bin op_addU vAdd_ok (de_bin op_addU vAdd_ok (de_bin op_mod vMod_ok (de_var 0) de_int) (de_bin (op_mulS.or (op_mul.or op_rep)) vMulS_ok de_int (de_var 1))) de_int) de_int) de_int))
  (dss_cons (ds_set 2 nd (de_bin op_mod vMod_ok (de_bin (op_mulS.or (op_mul.or op_rep)) vMulS_ok (de_var 2) (de_bin op_addU vAdd_ok (de_bin op_fdivW vFdiv_ok (de_var 2) de_int) de_int)) de_int))
  (dss_cons (ds_set 2 nd (de_bin op_mod vMod_ok (de_bin (op_mulS.or (op_mul.or op_rep)) vMulS_ok (de_var 2) (de_bin op_addU vAdd_ok (de_bin op_addU vAdd_ok (de_bin op_fdivW vFdiv_ok (de_var 2) de_int) de_int) (de_var 1))) de_int))
  (dss_one (ds_ret (de_bin op_mod vMod_ok (de_bin (op_mulS.or (op_mul.or op_rep)) vMulS_ok (de_var 2) (de_bin op_addU vAdd_ok (de_bin op_fdivW vFdiv_ok (de_var 2) de_int) de_int)) de_int))))))
theorem ok_l_next (F : Fun K "_law_next" "_law_next" s_l_next f fd) (T : Tx K w mg cl) (h_l_mixed : DefOk P w K mg base cl 1 "_law_mixed" 2 m_l_mixed) :
  FnOk P w K mg base (L2N.CX P w) 2 f fd ["_law_source", "_law_many"] (spD ⟨K, cl, none⟩ 2 m_l_next) :=
  def_okT (N := ["_law_source", "_law_many", "_law_found"]) F (by decide +kernel) rfl rfl fun cdv A outer s H E hr tk hp nd => (dss_cons (ds_if (dt_cmp op_gt vGt_ok (de_ix (hu1 hr) (de_var 0) de_int) de_int (nomark _)) (dss_cons (ds_set 2 nd (de_bin op_mod vMod_ok (de_ix (hu1 hr) (de_var 0) de_int) (de_var 1)))
  (dss_cons (ds_item (hu1 hr) (de_var 0) de_int (de_bin op_fdivW vFdiv_ok (de_ix (hu1 hr) (de_var 0) de_int) (de_var 1)))
  (dss_one (ds_ret (de_var 2))))) dss_nil)
  (dss_cons (ds_item (hu1 hr) (de_var 0) de_int (de_bin op_addU vAdd_ok (de_ix (hu1 hr) (de_var 0) de_int) de_int))
  (dss_one (ds_ret (de_bin op_mod vMod_ok (de_call h_l_mixed hr (by omega) tk (da_cons (de_ix (hu1 hr) (de_var 0) de_int) (da_cons (de_ix (hu1 hr) (de_var 0) de_int) da_nil))) (de_var 1))))))
theorem ok_l_names (F : Fun K "_law_names" "_law_names" s_l_names f fd) (T : Tx K w mg cl) (h_l_next : DefOk P w K mg base cl 2 "_law_next" 2 m_l_next) :
  FnOk P w K mg base (L2N.CX P w) 3 f fd ["_law_source", "_law_many"] (spD ⟨K, cl, none⟩ 2 m_l_names) :=
  def_okT (N := ["_law_source", "_law_many", "_law_letters", "_law_start", "_law_stem", "_law_k"]) F (by decide +kernel) rfl rfl fun cdv A outer s H E hr tk hp nd => (dss_cons (ds_set 2 nd de_str)
  (dss_cons (ds_set 3 nd (de_call h_l_next hr (by omega) tk (da_cons (de_var 0) (da_cons de_int da_nil))))
  (dss_cons (ds_set 4 nd (de_bm PySem.F.plainAttrs_str PySem.F.slot_str_join PySem.F.type_str_join mt_join ty_str vJoin_ok de_str (da_cons (de_comp (own := [("_law_k", 5)]) rfl nd (di_range1 (by rfl) T.b_range (da_cons de_int da_nil)) (blkOk_by (N := ["_law_source", "_law_many", "_law_letters", "_law_start", "_law_stem", "_law_k"]) (sc := defScope s_l_names) (by decide +kernel)) (fun _ _ _ _ _ => (dg_name 5 nd)) (fun _ _ _ _ _ => .none) (fun _ _ _ _ _ => (de_ix (hu1 hr) (de_var 2) (de_call h_l_next hr (by omega) takesN0 (da_cons (de_var 0) (da_cons de_int da_nil)))))) da_nil)))
  (dss_one (ds_ret (de_comp (own := [("_law_k", 5)]) rfl nd (di_range1 (by rfl) T.b_range (da_cons (de_var 1) da_nil)) (blkOk_by (N := ["_law_source", "_law_many", "_law_letters", "_law_start", "_law_stem", "_law_k"]) (sc := defScope s_l_names) (by decide +kernel)) (fun _ _ _ _ _ => (dg_name 5 nd)) (fun _ _ _ _ _ => .none) (fun _ _ _ _ _ => (de_bin op_addU vAdd_ok (de_slice (de_var 4) .none (.some (de_call h_l_next hr (by omega) takesN0 (da_cons (de_var 0) (da_cons de_int da_nil))))) (de_ix (hu1 hr) (de_var 2) (de_bin op_mod vMod_ok (de_bin op_addU vAdd_ok (de_var 3) (de_var 5)) de_int))))))))))
theorem ok_l_odd (F : Fun K "_law_odd" "_law_odd" s_l_odd f fd) (T : Tx K w mg cl) (h_l_next : DefOk P w K mg base cl 2 "_law_next" 2 m_l_next) :
  FnOk P w K mg base (L2N.CX P w) 3 f fd ["_law_source", "_law_name"] (spD ⟨K, cl, none⟩ 2 m_l_odd) :=
  def_okT (N := ["_law_source", "_law_name", "_law_way", "_law_some", "_law_signs", "_law_at"]) F (by decide +kernel) rfl rfl fun cdv A outer s H E hr tk hp nd => (dss_cons (ds_set 2 nd (de_call h_l_next hr (by omega) tk (da_cons (de_var 0) (da_cons de_int da_nil))))
  (dss_cons (ds_set 3 nd (de_lst (da_cons de_str (da_cons de_str (da_cons de_str (da_cons de_str (da_cons de_str (da_cons de_str (da_cons de_int (da_cons de_int (da_cons de_bl (da_cons de_bl (da_cons (de_lst (da_cons de_str da_nil)) (da_cons (de_tup (da_cons de_str (da_cons de_str da_nil))) (da_cons de_dct0 (da_cons de_str (da_cons de_str da_nil)))))))))))))))))
  (dss_cons (ds_set 4 nd de_str)
  (dss_cons (ds_if (dt_cmp (op_eqD (hu64 hr)) vEq_ok (de_var 2) de_int (nomark _)) (dss_cons (ds_set 5 nd (de_call h_l_next hr (by omega) tk (da_cons (de_var 0) (da_cons (de_callB call_lenU vLen_ok (by rfl) T.b_len (by decide +kernel) (da_cons (de_var 1) da_nil)) da_nil))))
  (dss_one (ds_ret (de_bin op_addU vAdd_ok (de_bin op_addU vAdd_ok (de_slice (de_var 1) .none (.some (de_var 5))) (de_ix (hu1 hr) (de_var 4) (de_call h_l_next hr (by omega) tk (da_cons (de_var 0) (da_cons (de_callB call_lenU vLen_ok (by rfl) T.b_len (by decide +kernel) (da_cons (de_var 4) da_nil)) da_nil))))) (de_slice (de_var 1) (.some (de_bin op_addU vAdd_ok (de_var 5) de_int)) .none))))) dss_nil)
  (dss_cons (ds_if (dt_cmp (op_eqD (hu64 hr)) vEq_ok (de_var 2) de_int (nomark _)) (dss_one (ds_ret (de_slice (de_bin (op_mulS.or (op_mul.or op_rep)) vMulS_ok (de_var 1) de_int) .none (.some (de_bin op_addU vAdd_ok de_int (de_call h_l_next hr (by omega) tk (da_cons (de_var 0) (da_cons de_int da_nil)))))))) dss_nil)
  (dss_one (ds_ret (de_ix (hu1 hr) (de_var 3) (de_call h_l_next hr (by omega) tk (da_cons (de_var 0) (da_cons (de_callB call_lenU vLen_ok (by rfl) T.b_len (by decide +kernel) (da_cons (de_var 3) da_nil)) da_nil)))))))))))
theorem ok_l_kinds (F : Fun K "_law_kinds" "_law_kinds" s_l_kinds f fd) (T : Tx K w mg cl)  :
  HotFn P w K mg base cl 1 f fd ["_law_e"] m_l_kinds :=
  hot_okT (N := ["_law_e", "_law_kinds_here", "_law_words", "_law_found", "_law_k"]) F (by decide +kernel) rfl rfl fun cdv A outer s H E a oe e hr hd tk nd => (dss_cons (ds_set 1 nd (de_lst (da_cons (de_isE T.et hd 0 1 (by rfl) T.b_isinstance (by decide +kernel) T.g_NoTree (by decide)) (da_cons (de_isE T.et hd 0 2 (by rfl) T.b_isinstance (by decide +kernel) T.g_NoHouse (by decide)) (da_cons (de_isE T.et hd 0 3 (by rfl) T.b_isinstance (by decide +kernel) T.g_NoSeat (by decide)) (da_cons (de_isE T.et hd 0 4 (by rfl) T.b_isinstance (by decide +kernel) T.g_NoAsker (by decide)) da_nil))))))
  (dss_cons (ds_set 1 nd (de_bin op_addU vAdd_ok (de_var 1) (de_lst (da_cons (de_isE T.et hd 0 5 (by rfl) T.b_isinstance (by decide +kernel) T.g_NoLetter (by decide)) (da_cons (de_isE T.et hd 0 6 (by rfl) T.b_isinstance (by decide +kernel) T.g_NoRight (by decide)) (da_cons (de_isE T.et hd 0 7 (by rfl) T.b_isinstance (by decide +kernel) T.g_NoRow (by decide)) (da_cons (de_isE T.et hd 0 8 (by rfl) T.b_isinstance (by decide +kernel) T.g_NoTie (by decide)) da_nil)))))))
  (dss_cons (ds_set 1 nd (de_bin op_addU vAdd_ok (de_var 1) (de_lst (da_cons (de_isE T.et hd 0 9 (by rfl) T.b_isinstance (by decide +kernel) T.g_Down (by decide)) (da_cons (de_isE T.et hd 0 10 (by rfl) T.b_isinstance (by decide +kernel) T.g_NoMend (by decide)) (da_cons (de_isE T.et hd 0 11 (by rfl) T.b_isinstance (by decide +kernel) T.g_NoText (by decide)) (da_cons (de_isE T.et hd 0 12 (by rfl) T.b_isinstance (by decide +kernel) T.g_NoLine (by decide)) da_nil)))))))
  (dss_cons (ds_set 2 nd (de_lst (da_cons de_str (da_cons de_str (da_cons de_str (da_cons de_str (da_cons de_str (da_cons de_str (da_cons de_str (da_cons de_str (da_cons de_str (da_cons de_str (da_cons de_str (da_cons de_str da_nil))))))))))))))
  (dss_cons (ds_setLcH 3 (own := [("_law_k", 4)]) hd.hotC nd (dih_range1 (by rfl) T.b_range (da_cons de_int da_nil)) (blkOk_by (N := ["_law_e", "_law_kinds_here", "_law_words", "_law_found", "_law_k"]) (sc := defScope s_l_kinds) (by decide +kernel)) (fun _ _ _ _ _ => (dg_name 4 nd)) (fun _ _ _ _ _ => .one (dt_val (de_ix (hu1H hr) (de_var 1) (de_var 4)))) (fun _ _ _ _ _ => (de_ix (hu1H hr) (de_var 2) (de_var 4))))
  (dss_cons (ds_if (dt_of_w (dw_or (dt_cmp (op_neD (hu64H hr)) vNe_ok (de_callB call_lenU vLen_ok (by rfl) T.b_len (by decide +kernel) (da_cons (de_var 3) da_nil)) de_int (nomark _)) (dw_or1 (dt_not (dt_val (de_isV T.et hd 0 (by rfl) T.b_isinstance (by decide +kernel) (by rfl) T.b_ValueError (by decide +kernel))))))) (dss_one (ds_ret de_str)) dss_nil)
  (dss_one (ds_ret (de_ix (hu1H hr) (de_var 3) de_int)))))))))
theorem ok_l_refusal (F : Fun K "_law_refusal" "_law_refusal" s_l_refusal f fd) (T : Tx K w mg cl) (h_Seat_init : InitOk P w K mg base cl 2 "Seat" 14 2 m_Seat_init) (h_l_kinds : HotDef P w K mg base cl 1 "_law_kinds" m_l_kinds) :
  FnOk P w K mg base (L2N.CX P w) 4 f fd ["_law_arrow"] (spD ⟨K, cl, none⟩ 1 m_l_refusal) :=
  def_okT (N := ["_law_arrow", "_law_e"]) F (by decide +kernel) rfl rfl fun cdv A outer s H E hr tk hp nd => (dss_cons (ds_tryAs T.et (by decide) T.g_TreeError nd tk 1 (fun W pn xe tk hp => (dss_one (ds_expr (de_new h_Seat_init hr (by omega) tk (da_cons (de_var 0) da_nil))))) (fun a oe e pn hd => (dss_one (ds_ret (de_callE h_l_kinds (roomS hr) (by omega) hd takesN0 1)))))
  (dss_one (ds_ret de_str)))
theorem ok_Seat_arrow (F : Fun K "arrow" "Seat.arrow" s_Seat_arrow f fd) (T : Tx K w mg cl)  :
  FnOk P w K mg base (L2N.CX P w) 1 f fd ["self"] (spD ⟨K, cl, none⟩ 1 m_Seat_arrow) :=
  def_okT (N := ["self"]) F (by decide +kernel) rfl rfl fun cdv A outer s H E hr tk hp nd => (dss_one (ds_ret (de_fld T.f_Seat_led (de_var 0))))
theorem ok_Seat_has_asked (F : Fun K "has_asked" "Seat.has_asked" s_Seat_has_asked f fd) (T : Tx K w mg cl)  :
  FnOk P w K mg base (L2N.CX P w) 1 f fd ["self"] (spD ⟨K, cl, none⟩ 1 m_Seat_has_asked) :=
  def_okT (N := ["self"]) F (by decide +kernel) rfl rfl fun cdv A outer s H E hr tk hp nd => (dss_one (ds_ret (de_fld T.f_Seat_asking (de_var 0))))
theorem ok_Seat_inside (F : Fun K "inside" "Seat.inside" s_Seat_inside f fd) (T : Tx K w mg cl)  :
  FnOk P w K mg base (L2N.CX P w) 1 f fd ["self"] (spD ⟨K, cl, none⟩ 1 m_Seat_inside) :=
  def_okT (N := ["self"]) F (by decide +kernel) rfl rfl fun cdv A outer s H E hr tk hp nd => (dss_one (ds_ret (de_fld T.f_Seat_holder (de_var 0))))
theorem ok_l_told (F : Fun K "_law_told" "_law_told" s_l_told f fd) (T : Tx K w mg cl) (h_Seat_arrow : MethOk P w K mg base cl 1 14 "arrow" 1 m_Seat_arrow) (h_Seat_has_asked : MethOk P w K mg base cl 1 14 "has_asked" 1 m_Seat_has_asked) (h_Seat_inside : MethOk P w K mg base cl 1 14 "inside" 1 m_Seat_inside) (h_Seat_row : MethOk P w K mg base cl 1 14 "row" 1 m_Seat_row) :
  FnOk P w K mg base (L2N.CX P w) 2 f fd ["_law_seat"] (spD ⟨K, cl, none⟩ 1 m_l_told) :=
  def_okT (N := ["_law_seat"]) F (by decide +kernel) rfl rfl fun cdv A outer s H E hr tk hp nd => (dss_one (ds_ret (de_lst (da_cons (de_meth0 h_Seat_arrow hr (by omega) tk (de_var 0)) (da_cons (de_meth0 h_Seat_row hr (by omega) tk (de_var 0)) (da_cons (de_meth0 h_Seat_inside hr (by omega) tk (de_var 0)) (da_cons (de_meth0 h_Seat_has_asked hr (by omega) tk (de_var 0)) da_nil)))))))
theorem ok_law (F : Fun K "law" "law" s_law f fd) (T : Tx K w mg cl) (h_Seat_init : InitOk P w K mg base cl 2 "Seat" 14 2 m_Seat_init) (h_Seat_row : MethOk P w K mg base cl 1 14 "row" 1 m_Seat_row) (h_l_alike : DefOk P w K mg base cl 6 "_law_alike" 2 (m_l_alike 6)) (h_l_digits : DefOk P w K mg base cl 1 "_law_digits" 1 m_l_digits) (h_l_made_of_texts : DefOk P w K mg base cl 2 "_law_made_of_texts" 0 m_l_made_of_texts) (h_l_names : DefOk P w K mg base cl 3 "_law_names" 2 m_l_names) (h_l_odd : DefOk P w K mg base cl 3 "_law_odd" 2 m_l_odd) (h_l_refusal : DefOk P w K mg base cl 4 "_law_refusal" 1 m_l_refusal) (h_l_told : DefOk P w K mg base cl 2 "_law_told" 1 m_l_told) :
  FnOk P w K mg base (L2N.CX P w) 7 f fd ["_law_script"] (spD ⟨K, cl, none⟩ 1 m_law) :=
  def_okT (N := ["_law_script", "_law_cell", "_law_source", "_law_name", "_law_arrow", "_law_seat", "_law_turn"]) F (by decide +kernel) rfl rfl fun cdv A outer s H E hr tk hp nd => (dss_cons (ds_if (dt_not (dt_val (de_call0 h_l_made_of_texts hr (by omega) tk))) (dss_one (ds_ret de_bl)) dss_nil)
  (dss_cons (ds_for hp rfl (di_val (de_bin op_addU vAdd_ok (de_lst (da_cons de_int da_nil)) (de_slice (de_var 0) .none (.some de_int)))) (dg_name 1 nd) (dss_cons (ds_set 2 nd (de_thaw (de_call h_l_digits hr (by omega) tk (da_cons (de_var 1) da_nil))))
  (dss_cons (ds_set 3 nd (de_ix (hu1 hr) (de_call h_l_names hr (by omega) tk (da_cons (de_var 2) (da_cons de_int da_nil))) de_int))
  (dss_cons (ds_for hp rfl (di_val (de_lst (da_cons (de_var 3) (da_cons de_non da_nil)))) (dg_name 4 nd) (dss_cons (ds_set 5 nd (de_new h_Seat_init hr (by omega) tk (da_cons (de_var 4) da_nil)))
  (dss_one (ds_for hp rfl (di_range1 (by rfl) T.b_range (da_cons de_int da_nil)) (dg_name 6 nd) (dss_cons (ds_if (dt_not (dt_val (de_call h_l_alike hr (by omega) tk (da_cons (de_call h_l_told hr (by omega) tk (da_cons (de_var 5) da_nil)) (da_cons (de_lst (da_cons (de_var 4) (da_cons (de_lst da_nil) (da_cons de_non (da_cons de_bl da_nil))))) da_nil))))) (dss_one (ds_ret de_bl)) dss_nil)
  (dss_one (ds_expr (de_bm PySem.F.plainAttrs_list PySem.F.slot_list_append PySem.F.type_list_append mt_append ty_lst vAppend_ok (de_thaw (de_meth0 h_Seat_row hr (by omega) tk (de_var 5))) (da_cons (de_tup (da_cons de_str (da_cons (de_var 3) da_nil))) da_nil)))))))))
  (dss_one (ds_if (dt_cmp (op_neD (hu64 hr)) vNe_ok (de_call h_l_refusal hr (by omega) tk (da_cons (de_call h_l_odd hr (by omega) tk (da_cons (de_var 2) (da_cons (de_var 3) da_nil))) da_nil)) de_str (nomark _)) (dss_one (ds_ret de_bl)) dss_nil))))))
  (dss_one (ds_ret de_bl))))
end
end G
set_option maxHeartbeats 2000000
namespace DH
open PySem PySem.Spec PyProof.Rows L2 He
theorem tabI_is : ∀ {es : List DictEntry} {tbl : List (Str × Int)}, tabI es tbl = true → DL.tabIs es tbl = true
  | [], [], _ => rfl
  | [], _ :: _, h => by cases h
  | _ :: _, [], h => by cases h
  | e :: r, (x, i) :: t, h => by
    unfold tabI at h
    rw [Bool.and_eq_true, Bool.and_eq_true] at h
    obtain ⟨h1, h2, h3⟩ := h
    unfold DL.tabIs
    rw [Bool.and_eq_true, Bool.and_eq_true]
    exact ⟨h1, h2, tabI_is h3⟩
theorem tabB_ok {K : PySem.W.Frag} {a : Addr} {tbl : List (Str × Int)} {c : Value} {dd : Option Addr} {es : Array DictEntry} {n : Nat} {sl : Array (Option Value)} (h : tabB K a tbl = true) (e : K.lookup a = some ⟨c, dd, .dict es n, sl⟩) : DL.tabIs es.toList tbl = true := tabI_is (tabB_ok0 h e)
section
variable {K : PySem.W.Frag} {h : Heap} {mg : Str → Option Value}
theorem exc_at (X : K.In h) (G : h.Ns mainGlobals mg) {cl : Nat → Addr} {x : Str} {n : Nat} (c1 : (Fa.glo x).ok K = true) (c2 : (Fa.exc x).ok K = true) (e : cl n = ga K x) : DL.ExcOk K mg cl x n := by
  obtain ⟨x1, x2, x3, x4⟩ := exc_ok c2
  rw [← e] at x1 x2 x3 x4
  exact ⟨by rw [e]; exact glo_ok X G c1, x1, x2, x3, x4⟩
theorem line_at {x y : Str} (c : oexB x y K = true) : DL.XC K (ga K x) (ga K y) := by
  obtain ⟨c0, c⟩ := ba c
  obtain ⟨c1, c⟩ := ba c
  obtain ⟨c2, c⟩ := ba c
  obtain ⟨c3, c⟩ := ba c
  obtain ⟨c4, c⟩ := ba c
  obtain ⟨c5, c⟩ := ba c
  obtain ⟨c6, c⟩ := ba c
  obtain ⟨c7, c⟩ := ba c
  obtain ⟨c8, c9⟩ := ba c
  refine ⟨⟨?_, eqO_ok c1, of_decide_eq_true c2, of_decide_eq_true c3, c4⟩, xfB_ok c6, eqO_ok c5, eqO_ok c7, c8, ?_⟩
  · split at c0
    · rename_i dd cd sl ho
      split at c0
      · rename_i C' bm k0 k1 k2 k3 n k5 hm hs
        obtain ⟨d1, d⟩ := ba c0
        obtain ⟨d2, d⟩ := ba d
        obtain ⟨d3, d⟩ := ba d
        obtain ⟨d4, d5⟩ := ba d
        have d1 := of_decide_eq_true d1
        have d2 := of_decide_eq_true d2
        obtain ⟨nm, bs, mro, ns, qn, hd, sn, sub, ab, col, del⟩ := cd
        dsimp only at hm d3 d4
        subst hm d1 d2 d3
        have d4 : del = false := by simpa using d4
        subst d4
        have hsl : sl = #[k0, k1, k2, k3, some (.builtin "ValueError.__new__"), k5] := by
          obtain ⟨l⟩ := sl
          simp only at hs
          rw [hs]
        subst hsl
        exact ⟨_, _, _, _, _, _, _, _, _, _, _, _, _, _, _, ho, d5⟩
      · cases c0
    · cases c0
  · split at c9
    · rename_i n e
      rw [e, of_decide_eq_true c9]
    · cases c9
theorem fld_at {x f : Str} (c1 : (Fa.cls x).ok K = true) (c2 : (Fa.noat x f).ok K = true) : DL.ClF K (ga K x) f := ⟨cls_ok c1, noat_ok c2⟩
theorem ins_at {x : Str} (c1 : (Fa.cls x).ok K = true) (c2 : clsB x K = true) : DL.ClI K (ga K x) := by
  obtain ⟨x1, x2, x3, x4⟩ := clsB_ok c2
  exact ⟨cls_ok c1, x1, x2, x3, x4⟩
theorem tab_at {w : World} (X : K.In h) (G : h.Ns mainGlobals mg) {x : Str} {tbl : List (Str × Int)} (c1 : (Fa.glo x).ok K = true) (c2 : ∃ es n, KDict K w (ga K x) es n) (c3 : tabB K (ga K x) tbl = true) : DL.KTab K w mg x tbl := by
  obtain ⟨es, n, D⟩ := c2
  exact ⟨_, _, _, glo_ok X G c1, D.at_, D.lit, D.low, tabB_ok c3 D.at_⟩
theorem err_at {Cs : List Addr} (l : Nat) (h : errB K (Cs.take l) = true) (hl : l ≤ Cs.length := by exact Nat.le_of_ble_eq_true rfl) : DL.ErrTab K (fun n => Cs.getD n 0) 0 (List.range l) := DL.errTab_of l h hl
end
/-- a law: what the Hook says gives the written part -/
theorem walk_lawH {l : PySem.W.OpenLaw} {q : Program} {loose : List Str} {XP : (Str → Option Value) → Heap → Prop} {YP : World → Heap → Prop} {d : DefRec} {x : Str} (k : Nat) (hn : l.most = some 63) (hdf : d.params.defaults = []) (hr : Room k callerA)
    (F : ∀ (w : World) (mg : Str → Option Value) (fa : Addr) (h : Heap), YP w h → h.Ns mainGlobals mg → mg d.name = some (.ref fa) →
      ∃ (K : PySem.W.Frag) (fd : FuncData), K.In h ∧ (∀ (s : Shared) (u : Value), BindsTo s fd ⟨[u], []⟩ [(x, u)]) ∧ ∀ base : Heap, K.In base → base.Ns mainGlobals mg → FnOk l.prog w K mg base (L2N.CX l.prog w) k fa fd [x] (DL.spL K)) :
    PySem.W.WalkO q loose XP YP l.row.toRowW d [] (fun f vs => PySem.call f vs) := by
  refine Att.attach_call hn hdf fun w s₀ s₁ mg mb fa o pm cd doc a vs ns G Y ho hd hcd hmg hobj hints hlen hg => ?_
  obtain ⟨K, fd, KX, hb, hF⟩ := F w mg fa _ Y G.T.g hmg
  exact law_call KX G.T.g G.T.b G.T.builtins G.T.nolimit hg hobj hints (Nat.le_trans hlen (by decide)) hr hF hb (fun H hO hS => ⟨a, ns, rfl, hS, hO, hlen, fun _ => rfl⟩) fun H e s' z => by
    obtain ⟨_, _, _, _, _, _, _, _, _, _, _, _, q⟩ := z
    exact q
end DH
namespace G
open PySem L2 DL
set_option maxHeartbeats 4000000
theorem all_mk {P : Program} {w : World} {K : PySem.W.Frag} {h : Heap} {mg : Str → Option Value} {fa : Addr} (X : K.In h) (G : h.Ns mainGlobals mg) (hfa : mg "law" = some (.ref fa)) (c : DH.SaysH hF w K)
    (hlaw : ∀ ns : List Int, ns.length ≤ 63 → ∃ S fr, m_law [.scr ns] [] = .ok (.bl true) S fr) : ∃ fd : FuncData, (∀ (s : Shared) (v : Value), BindsTo s fd ⟨[v], []⟩ [("_law_script", v)]) ∧ ∀ base : Heap, K.In base → base.Ns mainGlobals mg → FnOk P w K mg base (L2N.CX P w) 7 fa fd ["_law_script"] (spL K) := by
  let cl : Nat → Addr := fun n => [He.ga K "TreeError", He.ga K "NoTree", He.ga K "NoHouse", He.ga K "NoSeat", He.ga K "NoAsker", He.ga K "NoLetter", He.ga K "NoRight", He.ga K "NoRow", He.ga K "NoTie", He.ga K "Down", He.ga K "NoMend", He.ga K "NoText", He.ga K "NoLine", 0, He.ga K "Seat"].getD n 0
  have T : Tx K w mg cl := ⟨trivial,
    He.free_ok X G (c.a 0),
    He.free_ok X G (c.a 1),
    He.free_ok X G (c.a 2),
    He.free_ok X G (c.a 3),
    He.free_ok X G (c.a 4),
    He.free_ok X G (c.a 5),
    He.free_ok X G (c.a 6),
    He.free_ok X G (c.a 7),
    He.free_ok X G (c.a 8),
    He.str_ok X G (c.a 9),
    He.int_ok X G (c.a 10),
    DH.fld_at (c.a 11) (c.a 12),
    DH.fld_at (c.a 11) (c.a 13),
    DH.fld_at (c.a 11) (c.a 14),
    DH.fld_at (c.a 11) (c.a 15),
    DH.exc_at X G (c.a 16) (c.a 17) rfl,
    He.glo_ok X G (c.a 16),
    DH.exc_at X G (c.a 18) (c.a 19) rfl,
    He.glo_ok X G (c.a 18),
    DH.exc_at X G (c.a 20) (c.a 21) rfl,
    He.glo_ok X G (c.a 20),
    DH.exc_at X G (c.a 22) (c.a 23) rfl,
    He.glo_ok X G (c.a 22),
    DH.exc_at X G (c.a 24) (c.a 25) rfl,
    He.glo_ok X G (c.a 24),
    DH.exc_at X G (c.a 26) (c.a 27) rfl,
    He.glo_ok X G (c.a 26),
    DH.exc_at X G (c.a 28) (c.a 29) rfl,
    He.glo_ok X G (c.a 28),
    DH.exc_at X G (c.a 30) (c.a 31) rfl,
    He.glo_ok X G (c.a 30),
    DH.exc_at X G (c.a 32) (c.a 33) rfl,
    He.glo_ok X G (c.a 32),
    DH.exc_at X G (c.a 34) (c.a 35) rfl,
    He.glo_ok X G (c.a 34),
    DH.exc_at X G (c.a 36) (c.a 37) rfl,
    He.glo_ok X G (c.a 36),
    He.glo_ok X G (c.a 38),
    DH.exc_at X G (c.a 39) (c.a 40) rfl,
    He.glo_ok X G (c.a 39),
    DH.err_at (Cs := [He.ga K "TreeError", He.ga K "NoTree", He.ga K "NoHouse", He.ga K "NoSeat", He.ga K "NoAsker", He.ga K "NoLetter", He.ga K "NoRight", He.ga K "NoRow", He.ga K "NoTie", He.ga K "Down", He.ga K "NoMend", He.ga K "NoText", He.ga K "NoLine", 0, He.ga K "Seat"]) 13 (c.x 0)⟩
  obtain ⟨d0, F0, e0⟩ := c.g X G 0
  obtain ⟨d1, F1, e1⟩ := c.m 1
  obtain ⟨d2, F2, e2⟩ := c.m 2
  obtain ⟨d3, F3, e3⟩ := c.g X G 3
  obtain ⟨d4, F4, e4⟩ := c.g X G 4
  obtain ⟨d5, F5, e5⟩ := c.g X G 5
  obtain ⟨d6, F6, e6⟩ := c.g X G 6
  obtain ⟨d7, F7, e7⟩ := c.g X G 7
  obtain ⟨d8, F8, e8⟩ := c.g X G 8
  obtain ⟨d9, F9, e9⟩ := c.g X G 9
  obtain ⟨d10, F10, e10⟩ := c.g X G 10
  obtain ⟨d11, F11, e11⟩ := c.g X G 11
  obtain ⟨d12, F12, e12⟩ := c.g X G 12
  obtain ⟨d13, F13, e13⟩ := c.m 13
  obtain ⟨d14, F14, e14⟩ := c.m 14
  obtain ⟨d15, F15, e15⟩ := c.m 15
  obtain ⟨d16, F16, e16⟩ := c.g X G 16
  obtain ⟨d17, F17, e17⟩ := c.g X G 17
  have K14 := He.cls_ok (c.a 11)
  have e := hfa.symm.trans e17
  cases e
  refine ⟨d17, bdT F17 fun _ _ _ _ _ _ _ => rfl, fun base _ _ => ?_⟩
  have h_is_name := mkD P base (ok_is_name F0 T) F0 e0 (bd1 F0 fun _ _ _ _ _ _ _ => rfl)
  have h_Seat_init := mkI P base 14 (x := "Seat") (ok_Seat_init F1 T h_is_name) (He.glo_ok X G (c.a 41)) (He.mkr_ok (c.a 42)) (bd2 F1 fun _ _ _ _ _ _ _ _ => rfl)
  have h_Seat_row := mkM P base 14 (ok_Seat_row F2 T) e2 K14 (bd1 F2 fun _ _ _ _ _ _ _ => rfl)
  have r_l_alike : ∀ j, DefOk P w K mg base cl (0 + j) "_law_alike" 2 (m_l_alike j) := fun j => by
    induction j with
    | zero => exact defOk_zero e3 F3.kp (bd2 F3 fun _ _ _ _ _ _ _ _ => rfl)
    | succ j ih => exact mkD P base (ok_l_alike F3 T j ih) F3 e3 (bd2 F3 fun _ _ _ _ _ _ _ _ => rfl)
  have h_l_alike := r_l_alike 6
  have h_l_digits := mkD P base (ok_l_digits F4 T) F4 e4 (bd1 F4 fun _ _ _ _ _ _ _ => rfl)
  have h_l_kindsv := mkD P base (ok_l_kindsv F5 T) F5 e5 (bd1 F5 fun _ _ _ _ _ _ _ => rfl)
  have h_l_made_of_texts := mkD P base (ok_l_made_of_texts F6 T h_l_kindsv) F6 e6 (bd0 F6 fun _ _ _ _ _ _ => rfl)
  have h_l_mixed := mkD P base (ok_l_mixed F7 T) F7 e7 (bd2 F7 fun _ _ _ _ _ _ _ _ => rfl)
  have h_l_next := mkD P base (ok_l_next F8 T h_l_mixed) F8 e8 (bd2 F8 fun _ _ _ _ _ _ _ _ => rfl)
  have h_l_names := mkD P base (ok_l_names F9 T h_l_next) F9 e9 (bd2 F9 fun _ _ _ _ _ _ _ _ => rfl)
  have h_l_odd := mkD P base (ok_l_odd F10 T h_l_next) F10 e10 (bd2 F10 fun _ _ _ _ _ _ _ _ => rfl)
  have h_l_kinds := mkH P base (ok_l_kinds F11 T) F11 e11 (bd1 F11 fun _ _ _ _ _ _ _ => rfl)
  have h_l_refusal := mkD P base (ok_l_refusal F12 T h_Seat_init h_l_kinds) F12 e12 (bd1 F12 fun _ _ _ _ _ _ _ => rfl)
  have h_Seat_arrow := mkM P base 14 (ok_Seat_arrow F13 T) e13 K14 (bd1 F13 fun _ _ _ _ _ _ _ => rfl)
  have h_Seat_has_asked := mkM P base 14 (ok_Seat_has_asked F14 T) e14 K14 (bd1 F14 fun _ _ _ _ _ _ _ => rfl)
  have h_Seat_inside := mkM P base 14 (ok_Seat_inside F15 T) e15 K14 (bd1 F15 fun _ _ _ _ _ _ _ => rfl)
  have h_l_told := mkD P base (ok_l_told F16 T h_Seat_arrow h_Seat_has_asked h_Seat_inside h_Seat_row) F16 e16 (bd1 F16 fun _ _ _ _ _ _ _ => rfl)
  exact law_imp (ok_law F17 T h_Seat_init h_Seat_row h_l_alike h_l_digits h_l_made_of_texts h_l_names h_l_odd h_l_refusal h_l_told) hlaw
end G
open PySem PySem.W PyProof.Rows in
set_option maxRecDepth 100000 in
set_option maxHeartbeats 0 in
theorem PySem.Challenge.cw_treeright_k11_seats_made_holds : PySem.Challenge.rw_treeright_k11_seats_made.Holds := by
  w_on; o_law
  refine HandSHeadRun.head_any (r := OpenLaw.row PySem.Challenge.rw_treeright_k11_seats_made) (q := view (OpenLaw.row PySem.Challenge.rw_treeright_k11_seats_made).prog [34]) (H := G.hhk) (ob := G.hob) (M := 30000) (loose := G.hnm) (d := HandSHeadRun.topDef (OpenLaw.row PySem.Challenge.rw_treeright_k11_seats_made).prog 34) (kwd := []) G.hob_eq (by kernel_rfl) (fun s => by kernel_rfl) G.hrun (by kernel_rfl) (by kernel_rfl) (by kernel_rfl) (by rfl) (by first | assumption | decide +kernel) (by decide +kernel) ⟨rfl, rfl, rfl, rfl, rfl, by decide +kernel⟩ ?hw ?hc
  case hw => w_witness2
  case hc =>
    refine DH.walk_lawH (l := PySem.Challenge.rw_treeright_k11_seats_made) (x := "_law_script") 7 rfl (by kernel_rfl) ⟨rfl, by decide, by decide⟩ ?F
    intro w mg fa h Y GG hmg0
    obtain ⟨K, KX, c⟩ := Y
    have hmg : mg ("law" : PySem.Str) = some (.ref fa) := by
      have e : (HandSHeadRun.topDef (OpenLaw.row PySem.Challenge.rw_treeright_k11_seats_made).prog 34).name = ("law" : PySem.Str) := by kernel_rfl
      rw [← e]; exact hmg0
    obtain ⟨fd, hb, hF⟩ := G.all_mk KX GG hmg c G.law_true
    exact ⟨K, fd, KX, hb, hF⟩
